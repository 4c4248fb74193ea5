import PyProof.Rows.All
import Wide.All
import OpenK.AllK
import Wide.FinOn
import HandS.ForMost
import HandS.ForExc
import HandS.Walk
import HandS.Zip
import HandS.TupAny
import HandS.TupMul
import HandS.Text
import HandS.IsInst
import HandS.RaiseMore
import KE.KExcIs
import HandS.Small
import HandS.BoundDict
import HandS.WordsDict
import HandS.ExcIs
import HandS.ExcValue
import HandS.WordsExc
import HandS.Ends
import HandS.ExcInit
import HandS.ExcField
import HandS.WrittenGet
import HandS.EndBits
import PyProof.ReprRoads
import HandS.Style
import PySem.Challenge.RW_standhouse_k80_steps_put_round
set_option Elab.async false
set_option linter.all false
set_option autoImplicit false
set_option maxRecDepth 100000
set_option maxHeartbeats 4000000
/-! V1: data values, what stands for them in the abstract heap, states and steps -/
namespace VI
open PySem PySem.Spec L2

/-- a data value; the Bool of a list, a dict, an instance: it has one owner and may be changed -/
inductive D where
  | non | bl (b : Bool) | int (i : Int) | str (x : Str)
  | tup (xs : List D)
  | lst (o : Bool) (xs : List D)
  | dct (o : Bool) (kvs : List (D × D))
  | ins (o : Bool) (c : Str) (fs : List (Str × D))
  | exc (c : Str) (fs : List (Str × D))

mutual
/-- something in it may be changed -/
def D.own : D → Bool
  | .tup xs => D.owns xs
  | .lst o xs => o || D.owns xs
  | .dct o kvs => o || D.ownk kvs
  | .ins o _ fs => o || D.ownf fs
  | .exc _ fs => D.ownf fs
  | _ => false
def D.owns : List D → Bool
  | [] => false
  | x :: xs => x.own || D.owns xs
def D.ownk : List (D × D) → Bool
  | [] => false
  | (_, x) :: xs => x.own || D.ownk xs
def D.ownf : List (Str × D) → Bool
  | [] => false
  | (_, x) :: xs => x.own || D.ownf xs
end
mutual
/-- it is never changed from here on -/
def D.frz : D → D
  | .tup xs => .tup (D.frzs xs)
  | .lst _ xs => .lst false (D.frzs xs)
  | .dct _ kvs => .dct false (D.frzk kvs)
  | .ins _ c fs => .ins false c (D.frzf fs)
  | .exc c fs => .exc c (D.frzf fs)
  | x => x
def D.frzs : List D → List D
  | [] => []
  | x :: xs => x.frz :: D.frzs xs
def D.frzk : List (D × D) → List (D × D)
  | [] => []
  | (k, x) :: xs => (k, x.frz) :: D.frzk xs
def D.frzf : List (Str × D) → List (Str × D)
  | [] => []
  | (k, x) :: xs => (k, x.frz) :: D.frzf xs
end
mutual
theorem D.frz_of : ∀ d : D, d.own = false → d.frz = d
  | .non, _ | .bl _, _ | .int _, _ | .str _, _ => rfl
  | .exc c fs, h => by rw [D.frz, D.frzf_of fs (by simpa [D.own] using h)]
  | .tup xs, h => by rw [D.frz, D.frzs_of xs (by simpa [D.own] using h)]
  | .lst o xs, h => by
    simp only [D.own, Bool.or_eq_false_iff] at h
    rw [D.frz, D.frzs_of xs h.2, h.1]
  | .dct o xs, h => by
    simp only [D.own, Bool.or_eq_false_iff] at h
    rw [D.frz, D.frzk_of xs h.2, h.1]
  | .ins o c xs, h => by
    simp only [D.own, Bool.or_eq_false_iff] at h
    rw [D.frz, D.frzf_of xs h.2, h.1]
theorem D.frzs_of : ∀ xs : List D, D.owns xs = false → D.frzs xs = xs
  | [], _ => rfl
  | x :: xs, h => by
    simp only [D.owns, Bool.or_eq_false_iff] at h
    rw [D.frzs, D.frz_of x h.1, D.frzs_of xs h.2]
theorem D.frzk_of : ∀ xs : List (D × D), D.ownk xs = false → D.frzk xs = xs
  | [], _ => rfl
  | (k, x) :: xs, h => by
    simp only [D.ownk, Bool.or_eq_false_iff] at h
    rw [D.frzk, D.frz_of x h.1, D.frzk_of xs h.2]
theorem D.frzf_of : ∀ xs : List (Str × D), D.ownf xs = false → D.frzf xs = xs
  | [], _ => rfl
  | (k, x) :: xs, h => by
    simp only [D.ownf, Bool.or_eq_false_iff] at h
    rw [D.frzf, D.frz_of x h.1, D.frzf_of xs h.2]
end
mutual
theorem D.own_frz : ∀ d : D, d.frz.own = false
  | .non | .bl _ | .int _ | .str _ => rfl
  | .exc c fs => by simpa [D.frz, D.own] using D.ownf_frzf fs
  | .tup xs => by simpa [D.frz, D.own] using D.owns_frzs xs
  | .lst o xs => by simpa [D.frz, D.own] using D.owns_frzs xs
  | .dct o xs => by simpa [D.frz, D.own] using D.ownk_frzk xs
  | .ins o c xs => by simpa [D.frz, D.own] using D.ownf_frzf xs
theorem D.owns_frzs : ∀ xs : List D, D.owns (D.frzs xs) = false
  | [] => rfl
  | x :: xs => by simp [D.frzs, D.owns, D.own_frz x, D.owns_frzs xs]
theorem D.ownk_frzk : ∀ xs : List (D × D), D.ownk (D.frzk xs) = false
  | [] => rfl
  | (k, x) :: xs => by simp [D.frzk, D.ownk, D.own_frz x, D.ownk_frzk xs]
theorem D.ownf_frzf : ∀ xs : List (Str × D), D.ownf (D.frzf xs) = false
  | [] => rfl
  | (k, x) :: xs => by simp [D.frzf, D.ownf, D.own_frz x, D.ownf_frzf xs]
end

/-- a dict's key: an int or a text -/
def keyD : D → Option Key
  | .int i => some (.inl i)
  | .str x => some (.inr x)
  | _ => none
def keysD : List (D × D) → Option (List Key)
  | [] => some []
  | (k, _) :: r => match keyD k, keysD r with
    | some a, some b => some (a :: b)
    | _, _ => none

/-! ### what stands for a value -/
abbrev Mg := Str → Option Value
/-- a tuple, a list that isn't changed: tracked (Z) or of the module -/
def TupAt (K : PySem.W.Frag) (Z : Addr → Prop) (H : Hp) (a : Addr) (vs : List V) : Prop :=
  (Z a ∧ Rd H a (.tup vs)) ∨ ∃ (o : Obj) (its : Array Value) (n : Nat), K.lookup a = some o ∧ o.cls = .type "tuple" ∧ o.data = .seq its n ∧ its.size ≤ sizeLine ∧ Vals vs its.toList
def LstAt (K : PySem.W.Frag) (Z : Addr → Prop) (H : Hp) (a : Addr) (vs : List V) : Prop :=
  (Z a ∧ Rd H a (.lst vs)) ∨ ∃ (o : Obj) (its : Array Value) (n : Nat), K.lookup a = some o ∧ o.cls = .type "list" ∧ o.dict = none ∧ o.data = .seq its n ∧ its.size ≤ sizeLine ∧ Vals vs its.toList
/-- a caught exception -/
def ExO (cls : Value) (d : Option Addr) (a : Addr) : HO := .ext fun h => ∃ (oe : Obj) (vs : Array Value), h.get? a = some oe ∧ Zc cls d oe ∧ oe.data = .fields vs

section
variable (K : PySem.W.Frag) (mg : Mg) (Z : Addr → Prop) (H : Hp)
mutual
/-- v is d in the heap H; F: the addresses of all that may be changed in it -/
def Rep : D → V → List Addr → Prop
  | .non, v, F => v = .non ∧ F = []
  | .bl b, v, F => v = .bl b ∧ F = []
  | .int i, v, F => v = .int i ∧ F = []
  | .str x, v, F => v = .str x ∧ F = []
  | .tup xs, v, F => ∃ a vs, v = .ref a ∧ TupAt K Z H a vs ∧ Reps xs vs F
  | .lst true xs, v, F => ∃ a vs G, v = .ref a ∧ H a = some (.lst vs) ∧ Reps xs vs G ∧ F = a :: G
  | .lst false xs, v, F => ∃ a vs, v = .ref a ∧ LstAt K Z H a vs ∧ Reps xs vs [] ∧ F = []
  | .dct true kvs, v, F => ∃ a ks vs G, v = .ref a ∧ H a = some (.dK (ks.zip vs)) ∧ (keysD kvs = some ks ∧ ks.Nodup) ∧ Repk kvs vs G ∧ F = a :: G
  | .dct false kvs, v, F => ∃ a ks vs, v = .ref a ∧ H a = some (.dK (ks.zip vs)) ∧ Z a ∧ (keysD kvs = some ks ∧ ks.Nodup) ∧ Repk kvs vs [] ∧ F = []
  | .ins true c fs, v, F => ∃ a C dx vs G, v = .ref a ∧ mg c = some (.ref C) ∧ H a = some (.ins C dx ((fs.map (·.1)).zip vs)) ∧ H dx = some (.own a) ∧ Repf fs vs G ∧ F = a :: dx :: G
  | .ins false c fs, v, F => ∃ a C dx vs, v = .ref a ∧ mg c = some (.ref C) ∧ H a = some (.ins C dx ((fs.map (·.1)).zip vs)) ∧ H dx = some (.own a) ∧ Z a ∧ Z dx ∧ Repf fs vs [] ∧ F = []
  | .exc c fs, v, F => ∃ a C dd vs, v = .ref a ∧ mg c = some (.ref C) ∧ H a = some (ExO (.ref C) dd a) ∧ Z a ∧ F = [] ∧ Repf fs vs [] ∧ ((fs = [] ∧ dd = none) ∨ ∃ d, dd = some d ∧ H d = some (.xd ((fs.map (·.1)).zip vs)) ∧ Z d)
def Reps : List D → List V → List Addr → Prop
  | [], vs, F => vs = [] ∧ F = []
  | x :: xs, vs, F => ∃ v r F1 F2, vs = v :: r ∧ Rep x v F1 ∧ Reps xs r F2 ∧ F = F1 ++ F2
def Repk : List (D × D) → List V → List Addr → Prop
  | [], vs, F => vs = [] ∧ F = []
  | (_, x) :: xs, vs, F => ∃ v r F1 F2, vs = v :: r ∧ Rep x v F1 ∧ Repk xs r F2 ∧ F = F1 ++ F2
def Repf : List (Str × D) → List V → List Addr → Prop
  | [], vs, F => vs = [] ∧ F = []
  | (_, x) :: xs, vs, F => ∃ v r F1 F2, vs = v :: r ∧ Rep x v F1 ∧ Repf xs r F2 ∧ F = F1 ++ F2
end
end

section
variable {K : PySem.W.Frag} {mg : Mg} {Z Z' : Addr → Prop} {H H' : Hp}
theorem TupAt.sq {a : Addr} {vs : List V} (h : TupAt K Z H a vs) : SqT K H a vs := h.elim (fun x => .inl x.2) .inr
theorem LstAt.sq {a : Addr} {vs : List V} (h : LstAt K Z H a vs) : SqL K H a vs := h.elim (fun x => .inl x.2) .inr
theorem rd_at {a : Addr} {u : HO} (h : Rd H a u) (e : H' a = H a) : Rd H' a u := by
  rcases h with h | ⟨o, h⟩
  · exact .inl (e.trans h)
  · exact .inr ⟨o, e.trans h⟩
/-- what is never changed stays -/
structure Stay (Z Z' : Addr → Prop) (H H' : Hp) : Prop where
  z : ∀ a, Z a → Z' a
  h : ∀ a, Z a → H' a = H a
theorem Stay.refl : Stay Z Z H H := ⟨fun _ h => h, fun _ _ => rfl⟩
theorem Stay.trans {Z2 : Addr → Prop} {H2 : Hp} (a : Stay Z Z' H H') (b : Stay Z' Z2 H' H2) : Stay Z Z2 H H2 := ⟨fun x h => b.z x (a.z x h), fun x h => (b.h x (a.z x h)).trans (a.h x h)⟩
theorem TupAt.stay {a : Addr} {vs : List V} (h : TupAt K Z H a vs) (s : Stay Z Z' H H') : TupAt K Z' H' a vs := h.elim (fun x => .inl ⟨s.z a x.1, rd_at x.2 (s.h a x.1)⟩) .inr
theorem LstAt.stay {a : Addr} {vs : List V} (h : LstAt K Z H a vs) (s : Stay Z Z' H H') : LstAt K Z' H' a vs := h.elim (fun x => .inl ⟨s.z a x.1, rd_at x.2 (s.h a x.1)⟩) .inr
mutual
/-- a value stays where its own things stay -/
theorem Rep.stay (s : Stay Z Z' H H') : ∀ {d : D} {v : V} {F : List Addr}, Rep K mg Z H d v F → (∀ a ∈ F, H' a = H a) → Rep K mg Z' H' d v F
  | .non, _, _, h, _ | .bl _, _, _, h, _ | .int _, _, _, h, _ | .str _, _, _, h, _ => by simpa only [Rep] using h
  | .tup xs, v, F, h, k => by
    simp only [Rep] at h ⊢
    obtain ⟨a, vs, e, t, r⟩ := h
    exact ⟨a, vs, e, t.stay s, Reps.stay s r k⟩
  | .lst true xs, v, F, h, k => by
    simp only [Rep] at h ⊢
    obtain ⟨a, vs, G, e, t, r, f⟩ := h
    subst f
    exact ⟨a, vs, G, e, (k a (by simp)).trans t, Reps.stay s r fun b hb => k b (by simp [hb]), rfl⟩
  | .lst false xs, v, F, h, k => by
    simp only [Rep] at h ⊢
    obtain ⟨a, vs, e, t, r, f⟩ := h
    exact ⟨a, vs, e, t.stay s, Reps.stay s r fun b hb => by simp at hb, f⟩
  | .dct true xs, v, F, h, k => by
    simp only [Rep] at h ⊢
    obtain ⟨a, ks, vs, G, e, t, q, r, f⟩ := h
    subst f
    exact ⟨a, ks, vs, G, e, (k a (by simp)).trans t, q, Repk.stay s r fun b hb => k b (by simp [hb]), rfl⟩
  | .dct false xs, v, F, h, k => by
    simp only [Rep] at h ⊢
    obtain ⟨a, ks, vs, e, t, z, q, r, f⟩ := h
    exact ⟨a, ks, vs, e, (s.h a z).trans t, s.z a z, q, Repk.stay s r fun b hb => by simp at hb, f⟩
  | .ins true c xs, v, F, h, k => by
    simp only [Rep] at h ⊢
    obtain ⟨a, C, dx, vs, G, e, m, t, w, r, f⟩ := h
    subst f
    exact ⟨a, C, dx, vs, G, e, m, (k a (by simp)).trans t, (k dx (by simp)).trans w, Repf.stay s r fun b hb => k b (by simp [hb]), rfl⟩
  | .ins false c xs, v, F, h, k => by
    simp only [Rep] at h ⊢
    obtain ⟨a, C, dx, vs, e, m, t, w, z1, z2, r, f⟩ := h
    exact ⟨a, C, dx, vs, e, m, (s.h a z1).trans t, (s.h dx z2).trans w, s.z a z1, s.z dx z2, Repf.stay s r fun b hb => by simp at hb, f⟩
  | .exc c fs, v, F, h, k => by
    simp only [Rep] at h ⊢
    obtain ⟨a, C, dd, vs, e, m, t, z, f, r, y⟩ := h
    exact ⟨a, C, dd, vs, e, m, (s.h a z).trans t, s.z a z, f, Repf.stay s r fun b hb => by simp at hb, y.elim .inl fun ⟨d, y1, y2, y3⟩ => .inr ⟨d, y1, (s.h d y3).trans y2, s.z d y3⟩⟩
theorem Reps.stay (s : Stay Z Z' H H') : ∀ {xs : List D} {vs : List V} {F : List Addr}, Reps K mg Z H xs vs F → (∀ a ∈ F, H' a = H a) → Reps K mg Z' H' xs vs F
  | [], _, _, h, _ => by simpa only [Reps] using h
  | x :: xs, vs, F, h, k => by
    simp only [Reps] at h ⊢
    obtain ⟨v, r, F1, F2, e, a, b, f⟩ := h
    subst f
    exact ⟨v, r, F1, F2, e, Rep.stay s a fun c hc => k c (by simp [hc]), Reps.stay s b fun c hc => k c (by simp [hc]), rfl⟩
theorem Repk.stay (s : Stay Z Z' H H') : ∀ {xs : List (D × D)} {vs : List V} {F : List Addr}, Repk K mg Z H xs vs F → (∀ a ∈ F, H' a = H a) → Repk K mg Z' H' xs vs F
  | [], _, _, h, _ => by simpa only [Repk] using h
  | (_, x) :: xs, vs, F, h, k => by
    simp only [Repk] at h ⊢
    obtain ⟨v, r, F1, F2, e, a, b, f⟩ := h
    subst f
    exact ⟨v, r, F1, F2, e, Rep.stay s a fun c hc => k c (by simp [hc]), Repk.stay s b fun c hc => k c (by simp [hc]), rfl⟩
theorem Repf.stay (s : Stay Z Z' H H') : ∀ {xs : List (Str × D)} {vs : List V} {F : List Addr}, Repf K mg Z H xs vs F → (∀ a ∈ F, H' a = H a) → Repf K mg Z' H' xs vs F
  | [], _, _, h, _ => by simpa only [Repf] using h
  | (_, x) :: xs, vs, F, h, k => by
    simp only [Repf] at h ⊢
    obtain ⟨v, r, F1, F2, e, a, b, f⟩ := h
    subst f
    exact ⟨v, r, F1, F2, e, Rep.stay s a fun c hc => k c (by simp [hc]), Repf.stay s b fun c hc => k c (by simp [hc]), rfl⟩
end
mutual
theorem keysD_frz : ∀ xs : List (D × D), keysD (D.frzk xs) = keysD xs
  | [] => rfl
  | (k, x) :: xs => by simp only [D.frzk, keysD, keysD_frz xs]
theorem names_frz : ∀ xs : List (Str × D), (D.frzf xs).map (·.1) = xs.map (·.1)
  | [] => rfl
  | (k, x) :: xs => by simp only [D.frzf, List.map_cons, names_frz xs]
end
mutual
/-- a value whose own things are no longer changed -/
theorem Rep.frz (s : ∀ a, Z a → Z' a) : ∀ {d : D} {v : V} {F : List Addr}, Rep K mg Z H d v F → (∀ a ∈ F, Z' a) → Rep K mg Z' H d.frz v []
  | .non, _, _, h, _ | .bl _, _, _, h, _ | .int _, _, _, h, _ | .str _, _, _, h, _ => by
    simp only [Rep, D.frz] at h ⊢
    exact ⟨h.1, by simp⟩
  | .tup xs, v, F, h, k => by
    simp only [Rep, D.frz] at h ⊢
    obtain ⟨a, vs, e, t, r⟩ := h
    exact ⟨a, vs, e, t.stay ⟨s, fun _ _ => rfl⟩, Reps.frz s r k⟩
  | .lst true xs, v, F, h, k => by
    simp only [Rep, D.frz] at h ⊢
    obtain ⟨a, vs, G, e, t, r, f⟩ := h
    subst f
    exact ⟨a, vs, e, .inl ⟨k a (by simp), .inl t⟩, Reps.frz s r fun b hb => k b (by simp [hb]), by simp⟩
  | .lst false xs, v, F, h, k => by
    simp only [Rep, D.frz] at h ⊢
    obtain ⟨a, vs, e, t, r, f⟩ := h
    exact ⟨a, vs, e, t.stay ⟨s, fun _ _ => rfl⟩, Reps.frz s r fun b hb => by simp at hb, by simp⟩
  | .dct true xs, v, F, h, k => by
    simp only [Rep, D.frz] at h ⊢
    obtain ⟨a, ks, vs, G, e, t, q, r, f⟩ := h
    subst f
    exact ⟨a, ks, vs, e, t, k a (by simp), by rw [keysD_frz]; exact q, Repk.frz s r fun b hb => k b (by simp [hb]), by simp⟩
  | .dct false xs, v, F, h, k => by
    simp only [Rep, D.frz] at h ⊢
    obtain ⟨a, ks, vs, e, t, z, q, r, f⟩ := h
    exact ⟨a, ks, vs, e, t, s a z, by rw [keysD_frz]; exact q, Repk.frz s r fun b hb => by simp at hb, by simp⟩
  | .ins true c xs, v, F, h, k => by
    simp only [Rep, D.frz] at h ⊢
    obtain ⟨a, C, dx, vs, G, e, m, t, w, r, f⟩ := h
    subst f
    exact ⟨a, C, dx, vs, e, m, by rw [names_frz]; exact t, w, k a (by simp), k dx (by simp), Repf.frz s r fun b hb => k b (by simp [hb]), by simp⟩
  | .ins false c xs, v, F, h, k => by
    simp only [Rep, D.frz] at h ⊢
    obtain ⟨a, C, dx, vs, e, m, t, w, z1, z2, r, f⟩ := h
    exact ⟨a, C, dx, vs, e, m, by rw [names_frz]; exact t, w, s a z1, s dx z2, Repf.frz s r fun b hb => by simp at hb, by simp⟩
  | .exc c fs, v, F, h, k => by
    simp only [Rep, D.frz] at h ⊢
    obtain ⟨a, C, dd, vs, e, m, t, z, f, r, y⟩ := h
    exact ⟨a, C, dd, vs, e, m, t, s a z, by simp, Repf.frz s r fun b hb => by simp at hb, y.elim (fun y => .inl ⟨by rw [y.1]; rfl, y.2⟩) fun ⟨d, y1, y2, y3⟩ => .inr ⟨d, y1, by rw [names_frz]; exact y2, s d y3⟩⟩
theorem Reps.frz (s : ∀ a, Z a → Z' a) : ∀ {xs : List D} {vs : List V} {F : List Addr}, Reps K mg Z H xs vs F → (∀ a ∈ F, Z' a) → Reps K mg Z' H (D.frzs xs) vs []
  | [], _, _, h, _ => by
    simp only [Reps, D.frzs] at h ⊢
    exact ⟨h.1, by simp⟩
  | x :: xs, vs, F, h, k => by
    simp only [Reps, D.frzs] at h ⊢
    obtain ⟨v, r, F1, F2, e, a, b, f⟩ := h
    subst f
    exact ⟨v, r, [], [], e, Rep.frz s a fun c hc => k c (by simp [hc]), Reps.frz s b fun c hc => k c (by simp [hc]), by simp⟩
theorem Repk.frz (s : ∀ a, Z a → Z' a) : ∀ {xs : List (D × D)} {vs : List V} {F : List Addr}, Repk K mg Z H xs vs F → (∀ a ∈ F, Z' a) → Repk K mg Z' H (D.frzk xs) vs []
  | [], _, _, h, _ => by
    simp only [Repk, D.frzk] at h ⊢
    exact ⟨h.1, by simp⟩
  | (_, x) :: xs, vs, F, h, k => by
    simp only [Repk, D.frzk] at h ⊢
    obtain ⟨v, r, F1, F2, e, a, b, f⟩ := h
    subst f
    exact ⟨v, r, [], [], e, Rep.frz s a fun c hc => k c (by simp [hc]), Repk.frz s b fun c hc => k c (by simp [hc]), by simp⟩
theorem Repf.frz (s : ∀ a, Z a → Z' a) : ∀ {xs : List (Str × D)} {vs : List V} {F : List Addr}, Repf K mg Z H xs vs F → (∀ a ∈ F, Z' a) → Repf K mg Z' H (D.frzf xs) vs []
  | [], _, _, h, _ => by
    simp only [Repf, D.frzf] at h ⊢
    exact ⟨h.1, by simp⟩
  | (_, x) :: xs, vs, F, h, k => by
    simp only [Repf, D.frzf] at h ⊢
    obtain ⟨v, r, F1, F2, e, a, b, f⟩ := h
    subst f
    exact ⟨v, r, [], [], e, Rep.frz s a fun c hc => k c (by simp [hc]), Repf.frz s b fun c hc => k c (by simp [hc]), by simp⟩
end
mutual
theorem Rep.unown : ∀ {d : D} {v : V} {F : List Addr}, Rep K mg Z H d v F → d.own = false → F = []
  | .non, _, _, h, _ | .bl _, _, _, h, _ | .int _, _, _, h, _ | .str _, _, _, h, _ => by
    simp only [Rep] at h
    exact h.2
  | .tup xs, v, F, h, k => by
    simp only [Rep] at h
    obtain ⟨a, vs, e, t, r⟩ := h
    exact Reps.unown r (by simpa [D.own] using k)
  | .lst true xs, v, F, h, k => by simp [D.own] at k
  | .lst false xs, v, F, h, k => by
    simp only [Rep] at h
    obtain ⟨a, vs, e, t, r, f⟩ := h
    exact f
  | .dct true xs, v, F, h, k => by simp [D.own] at k
  | .dct false xs, v, F, h, k => by
    simp only [Rep] at h
    obtain ⟨a, ks, vs, e, t, z, q, r, f⟩ := h
    exact f
  | .ins true c xs, v, F, h, k => by simp [D.own] at k
  | .ins false c xs, v, F, h, k => by
    simp only [Rep] at h
    obtain ⟨a, C, dx, vs, e, m, t, w, z1, z2, r, f⟩ := h
    exact f
  | .exc c fs, v, F, h, k => by
    simp only [Rep] at h
    obtain ⟨a, C, dd, vs, e, m, t, z, f, _⟩ := h
    exact f
theorem Reps.unown : ∀ {xs : List D} {vs : List V} {F : List Addr}, Reps K mg Z H xs vs F → D.owns xs = false → F = []
  | [], _, _, h, _ => by
    simp only [Reps] at h
    exact h.2
  | x :: xs, vs, F, h, k => by
    simp only [Reps] at h
    obtain ⟨v, r, F1, F2, e, a, b, f⟩ := h
    simp only [D.owns, Bool.or_eq_false_iff] at k
    rw [f, Rep.unown a k.1, Reps.unown b k.2, List.append_nil]
end
theorem Reps.length : ∀ {xs : List D} {vs : List V} {F : List Addr}, Reps K mg Z H xs vs F → vs.length = xs.length
  | [], _, _, h => by
    simp only [Reps] at h
    rw [h.1] <;> rfl
  | x :: xs, vs, F, h => by
    simp only [Reps] at h
    obtain ⟨v, r, F1, F2, e, a, b, f⟩ := h
    rw [e, List.length_cons, List.length_cons, Reps.length b]
theorem Reps.get : ∀ {xs : List D} {vs : List V} {F : List Addr} {i : Nat} {x : D}, Reps K mg Z H xs vs F → xs[i]? = some x → ∃ v G, vs[i]? = some v ∧ Rep K mg Z H x v G ∧ (∀ a ∈ G, a ∈ F) ∧ (F.Nodup → G.Nodup)
  | [], _, _, _, _, _, e => by simp at e
  | y :: xs, vs, F, 0, x, h, e => by
    simp only [Reps] at h
    obtain ⟨v, r, F1, F2, e1, a, b, f⟩ := h
    simp only [List.getElem?_cons_zero, Option.some.injEq] at e
    subst e e1 f
    exact ⟨v, F1, rfl, a, fun c hc => by simp [hc], fun n => (List.nodup_append.mp n).1⟩
  | y :: xs, vs, F, i + 1, x, h, e => by
    simp only [Reps] at h
    obtain ⟨v, r, F1, F2, e1, a, b, f⟩ := h
    subst e1 f
    obtain ⟨w, G, g1, g2, g3, g4⟩ := Reps.get (i := i) (x := x) b (by simpa using e)
    exact ⟨w, G, by simpa using g1, g2, fun c hc => by simp [g3 c hc], fun n => g4 (List.nodup_append.mp n).2.1⟩
/-- a list all of which is never changed -/
theorem Reps.app : ∀ {xs ys : List D} {vs us : List V} {F G : List Addr}, Reps K mg Z H xs vs F → Reps K mg Z H ys us G → Reps K mg Z H (xs ++ ys) (vs ++ us) (F ++ G)
  | [], _, _, _, _, _, h, q => by
    simp only [Reps] at h
    rw [h.1, h.2]
    exact q
  | x :: xs, ys, vs, us, F, G, h, q => by
    simp only [Reps] at h
    obtain ⟨v, r, F1, F2, e, a, b, f⟩ := h
    subst e f
    simp only [List.cons_append, Reps]
    exact ⟨v, r ++ us, F1, F2 ++ G, rfl, a, Reps.app b q, by rw [List.append_assoc]⟩
theorem Reps.nil : Reps K mg Z H [] [] [] := by simp only [Reps]; exact ⟨trivial, trivial⟩
theorem Reps.cons {x : D} {v : V} {F G : List Addr} {xs : List D} {vs : List V} (a : Rep K mg Z H x v F) (b : Reps K mg Z H xs vs G) : Reps K mg Z H (x :: xs) (v :: vs) (F ++ G) := by
  simp only [Reps]
  exact ⟨v, vs, F, G, rfl, a, b, rfl⟩
theorem Reps.one {x : D} {v : V} {F : List Addr} (a : Rep K mg Z H x v F) : Reps K mg Z H [x] [v] F := by
  have := Reps.cons a Reps.nil
  rwa [List.append_nil] at this
end
end VI
/-! V2: states, steps, what an expression tells -/
namespace VI
open PySem PySem.Spec L2

/-- the names' values by slot; p: handed in by one that has them still -/
structure Env where
  s : List (Option D)
  p : List Bool
inductive Out (α : Type) where
  | ok (a : α) (e : Env)
  | exc (c : Str) (fs : List (Str × D)) (e : Env)
  | err
abbrev M (α : Type) := Env → Out α
def bnd {α β : Type} (f : M α) (g : α → M β) : M β := fun e => match f e with
  | .ok a e' => g a e'
  | .exc c fs e' => .exc c fs e'
  | .err => .err
def pur {α : Type} (a : α) : M α := fun e => .ok a e
def bad {α : Type} : M α := fun _ => .err
@[simp] theorem bnd_ok {α β : Type} {f : M α} {g : α → M β} {e e' : Env} {a : α} (h : f e = .ok a e') : bnd f g e = g a e' := by simp [bnd, h]

section
variable {K : PySem.W.Frag} {mg : Mg} {Z Z' Z1 Z2 : Addr → Prop} {H H' H1 H2 : Hp} {σ : St} {env env' env1 env2 : Env} {Fs Fs' Fs1 Fs2 : Nat → List Addr} {T T' T1 T2 : Nat → Bool}

mutual
theorem Rep.there : ∀ {d : D} {v : V} {F : List Addr}, Rep K mg Z H d v F → ∀ a ∈ F, ∃ o, H a = some o
  | .non, _, _, h | .bl _, _, _, h | .int _, _, _, h | .str _, _, _, h => by
    simp only [Rep] at h
    simp [h.2]
  | .tup xs, v, F, h => by
    simp only [Rep] at h
    obtain ⟨a, vs, e, t, r⟩ := h
    exact Reps.there r
  | .lst true xs, v, F, h => by
    simp only [Rep] at h
    obtain ⟨a, vs, G, e, t, r, f⟩ := h
    subst f
    intro b hb
    rcases List.mem_cons.mp hb with rfl | hb
    · exact ⟨_, t⟩
    · exact Reps.there r b hb
  | .lst false xs, v, F, h => by
    simp only [Rep] at h
    obtain ⟨a, vs, e, t, r, f⟩ := h
    simp [f]
  | .dct true xs, v, F, h => by
    simp only [Rep] at h
    obtain ⟨a, ks, vs, G, e, t, q, r, f⟩ := h
    subst f
    intro b hb
    rcases List.mem_cons.mp hb with rfl | hb
    · exact ⟨_, t⟩
    · exact Repk.there r b hb
  | .dct false xs, v, F, h => by
    simp only [Rep] at h
    obtain ⟨a, ks, vs, e, t, z, q, r, f⟩ := h
    simp [f]
  | .ins true c xs, v, F, h => by
    simp only [Rep] at h
    obtain ⟨a, C, dx, vs, G, e, m, t, w, r, f⟩ := h
    subst f
    intro b hb
    rcases List.mem_cons.mp hb with rfl | hb
    · exact ⟨_, t⟩
    · rcases List.mem_cons.mp hb with rfl | hb
      · exact ⟨_, w⟩
      · exact Repf.there r b hb
  | .ins false c xs, v, F, h => by
    simp only [Rep] at h
    obtain ⟨a, C, dx, vs, e, m, t, w, z1, z2, r, f⟩ := h
    simp [f]
  | .exc c fs, v, F, h => by
    simp only [Rep] at h
    obtain ⟨a, C, dd, vs, e, m, t, z, f, _⟩ := h
    simp [f]
theorem Reps.there : ∀ {xs : List D} {vs : List V} {F : List Addr}, Reps K mg Z H xs vs F → ∀ a ∈ F, ∃ o, H a = some o
  | [], _, _, h => by
    simp only [Reps] at h
    simp [h.2]
  | x :: xs, vs, F, h => by
    simp only [Reps] at h
    obtain ⟨v, r, F1, F2, e, a, b, f⟩ := h
    subst f
    intro c hc
    exact (List.mem_append.mp hc).elim (Rep.there a c) (Reps.there b c)
theorem Repk.there : ∀ {xs : List (D × D)} {vs : List V} {F : List Addr}, Repk K mg Z H xs vs F → ∀ a ∈ F, ∃ o, H a = some o
  | [], _, _, h => by
    simp only [Repk] at h
    simp [h.2]
  | (_, x) :: xs, vs, F, h => by
    simp only [Repk] at h
    obtain ⟨v, r, F1, F2, e, a, b, f⟩ := h
    subst f
    intro c hc
    exact (List.mem_append.mp hc).elim (Rep.there a c) (Repk.there b c)
theorem Repf.there : ∀ {xs : List (Str × D)} {vs : List V} {F : List Addr}, Repf K mg Z H xs vs F → ∀ a ∈ F, ∃ o, H a = some o
  | [], _, _, h => by
    simp only [Repf] at h
    simp [h.2]
  | (_, x) :: xs, vs, F, h => by
    simp only [Repf] at h
    obtain ⟨v, r, F1, F2, e, a, b, f⟩ := h
    subst f
    intro c hc
    exact (List.mem_append.mp hc).elim (Rep.there a c) (Repf.there b c)
end

/-- the state: each name's value, its own things apart from all others' -/
structure SR (K : PySem.W.Frag) (mg : Mg) (Z : Addr → Prop) (H : Hp) (σ : St) (env : Env) (Fs : Nat → List Addr) : Prop where
  len : env.s.length = σ.length
  rep : ∀ (i : Nat) d, env.s[i]? = some (some d) → ∃ v, σ[i]? = some (some v) ∧ Rep K mg Z H d v (Fs i)
  no : ∀ i, (∀ d, env.s[i]? ≠ some (some d)) → Fs i = []
  nd : ∀ i, (Fs i).Nodup
  dj : ∀ i j, i ≠ j → ∀ a ∈ Fs i, a ∉ Fs j
  zf : ∀ i, ∀ a ∈ Fs i, ¬ Z a
  zs : ∀ a, Z a → ∃ o, H a = some o
theorem SR.tr (S : SR K mg Z H σ env Fs) {i : Nat} {a : Addr} (h : a ∈ Fs i) : ∃ o, H a = some o := by
  by_cases q : ∃ d, env.s[i]? = some (some d)
  · obtain ⟨d, q⟩ := q
    obtain ⟨v, _, r⟩ := S.rep i d q
    exact r.there a h
  · rw [S.no i fun d z => q ⟨d, z⟩] at h
    cases h
/-- a step; T: the slots that it may touch -/
structure Tr (T : Nat → Bool) (Z : Addr → Prop) (H : Hp) (env : Env) (Fs : Nat → List Addr) (Z' : Addr → Prop) (H' : Hp) (env' : Env) (Fs' : Nat → List Addr) : Prop where
  z : ∀ a, Z a → Z' a
  zn : ∀ a, Z' a → Z a ∨ (∃ j, a ∈ Fs j) ∨ H a = none
  keep : ∀ a o, H a = some o → (∀ i, a ∉ Fs i) → H' a = some o
  gr : ∀ a, H' a = none → H a = none
  new : ∀ i, ∀ a ∈ Fs' i, (∃ j, a ∈ Fs j) ∨ H a = none
  un : ∀ i, T i = false → env'.s[i]? = env.s[i]? ∧ Fs' i = Fs i ∧ ∀ a ∈ Fs i, H' a = H a
  p : env'.p = env.p
abbrev T0 : Nat → Bool := fun _ => false
abbrev tor (S T : Nat → Bool) : Nat → Bool := fun i => S i || T i
theorem Tr.refl : Tr T Z H env Fs Z H env Fs := ⟨fun _ h => h, fun _ h => .inl h, fun _ _ h _ => h, fun _ h => h, fun i a h => .inl ⟨i, h⟩, fun _ _ => ⟨rfl, rfl, fun _ _ => rfl⟩, rfl⟩
theorem Tr.trans (a : Tr T1 Z H env Fs Z1 H1 env1 Fs1) (b : Tr T2 Z1 H1 env1 Fs1 Z2 H2 env2 Fs2) (h : ∀ i, T i = false → T1 i = false ∧ T2 i = false) : Tr T Z H env Fs Z2 H2 env2 Fs2 where
  z := fun x q => b.z x (a.z x q)
  zn := fun x q => by
    rcases b.zn x q with q | ⟨j, q⟩ | q
    · exact a.zn x q
    · rcases a.new j x q with q | q
      · exact .inr (.inl q)
      · exact .inr (.inr q)
    · exact .inr (.inr (a.gr x q))
  keep := fun x o q n => b.keep x o (a.keep x o q n) fun i z => by
    rcases a.new i x z with ⟨j, w⟩ | w
    · exact n j w
    · rw [w] at q; cases q
  gr := fun x q => a.gr x (b.gr x q)
  new := fun i x q => by
    rcases b.new i x q with ⟨j, q⟩ | q
    · exact a.new j x q
    · exact .inr (a.gr x q)
  un := fun i q => by
    obtain ⟨t1, t2⟩ := h i q
    obtain ⟨e1, f1, k1⟩ := a.un i t1
    obtain ⟨e2, f2, k2⟩ := b.un i t2
    exact ⟨e2.trans e1, f2.trans f1, fun x hx => (k2 x (by rw [f1]; exact hx)).trans (k1 x hx)⟩
  p := b.p.trans a.p
theorem Tr.mono (a : Tr T1 Z H env Fs Z1 H1 env1 Fs1) (h : ∀ i, T i = false → T1 i = false) : Tr T Z H env Fs Z1 H1 env1 Fs1 :=
  ⟨a.z, a.zn, a.keep, a.gr, a.new, fun i q => a.un i (h i q), a.p⟩
theorem Tr.stay (S : SR K mg Z H σ env Fs) (t : Tr T Z H env Fs Z' H' env' Fs') : Stay Z Z' H H' :=
  ⟨t.z, fun a h => by
    obtain ⟨o, e⟩ := S.zs a h
    rw [e]
    exact t.keep a o e fun i q => S.zf i a q h⟩
/-- a value at hand: its own things are nobody's (src none) or some name's -/
def VP (src : Option Nat) (Z : Addr → Prop) (H : Hp) (Fs : Nat → List Addr) (Z' : Addr → Prop) (H' : Hp) (Fs' : Nat → List Addr) (Fd : List Addr) : Prop :=
  Fd.Nodup ∧ match src with
    | none => ∀ a ∈ Fd, (∀ i, a ∉ Fs' i) ∧ ¬ Z' a ∧ ((∃ j, a ∈ Fs j) ∨ H a = none)
    | some i => ∀ a ∈ Fd, a ∈ Fs' i
theorem VP.nil {src : Option Nat} : VP src Z H Fs Z' H' Fs' [] := by
  refine ⟨List.nodup_nil, ?_⟩
  cases src <;> exact fun _ h => by simp at h
/-- nobody's value behind a step -/
theorem VP.over {Fd : List Addr} (v : VP none Z H Fs Z1 H1 Fs1 Fd) (th : ∀ a ∈ Fd, ∃ o, H1 a = some o) (t : Tr T Z1 H1 env1 Fs1 Z2 H2 env2 Fs2) : VP none Z H Fs Z2 H2 Fs2 Fd := by
  refine ⟨v.1, fun a h => ⟨fun i q => ?_, fun q => ?_, (v.2 a h).2.2⟩⟩
  · obtain ⟨o, e⟩ := th a h
    rcases t.new i a q with ⟨j, q⟩ | q
    · exact (v.2 a h).1 j q
    · rw [e] at q; cases q
  · obtain ⟨o, e⟩ := th a h
    rcases t.zn a q with q | ⟨j, q⟩ | q
    · exact (v.2 a h).2.1 q
    · exact (v.2 a h).1 j q
    · rw [e] at q; cases q
/-- a value at hand stays while its name isn't touched -/
theorem Rep.over {src : Option Nat} {Fd : List Addr} {d : D} {v : V} (S : SR K mg Z1 H1 σ env1 Fs1) (p : VP src Z H Fs Z1 H1 Fs1 Fd) (r : Rep K mg Z1 H1 d v Fd) (t : Tr T Z1 H1 env1 Fs1 Z2 H2 env2 Fs2)
    (h : d.own = false ∨ ∀ i, src = some i → T i = false) : Rep K mg Z2 H2 d v Fd := by
  refine r.stay (t.stay S) fun a ha => ?_
  rcases h with h | h
  · rw [r.unown h] at ha
    cases ha
  · cases src with
    | none =>
      obtain ⟨o, e⟩ := r.there a ha
      rw [e]
      exact t.keep a o e (p.2 a ha).1
    | some i => exact (t.un i (h i rfl)).2.2 a (p.2 a ha)

/-- an exception, as it lies behind what raised it -/
def XAt (K : PySem.W.Frag) (mg : Mg) (Z : Addr → Prop) (H : Hp) (c : Str) (fs : List (Str × D)) (cls : Value) (dd : Option Addr) : Prop :=
  ∃ C, mg c = some (.ref C) ∧ cls = .ref C ∧ ((fs = [] ∧ dd = none) ∨ ∃ d vs, dd = some d ∧ H d = some (.xd ((fs.map (·.1)).zip vs)) ∧ Z d ∧ Repf K mg Z H fs vs [])
/-- what is wanted of what comes out -/
def Cont (K : PySem.W.Frag) (mg : Mg) (T : Nat → Bool) (src : Option Nat) (W : WX) (Q : VK) (σ : St) (Z : Addr → Prop) (H : Hp) (env : Env) (Fs : Nat → List Addr) : Out D → Prop
  | .ok d env' => ∀ v H' Z' Fs' Fd, SR K mg Z' H' σ env' Fs' → Tr T Z H env Fs Z' H' env' Fs' → Rep K mg Z' H' d v Fd → VP src Z H Fs Z' H' Fs' Fd → Q v H'
  | .exc c fs env' => ∀ cls dd H' Z' Fs', SR K mg Z' H' σ env' Fs' → Tr T Z H env Fs Z' H' env' Fs' → XAt K mg Z' H' c fs cls dd → W cls dd σ H'
  | .err => False
theorem VP.back {src : Option Nat} {Fd : List Addr} (t : Tr T1 Z H env Fs Z1 H1 env1 Fs1) (p : VP src Z1 H1 Fs1 Z2 H2 Fs2 Fd) : VP src Z H Fs Z2 H2 Fs2 Fd := by
  refine ⟨p.1, ?_⟩
  cases src with
  | some i => exact p.2
  | none =>
    refine fun a h => ⟨(p.2 a h).1, (p.2 a h).2.1, ?_⟩
    rcases (p.2 a h).2.2 with ⟨j, q⟩ | q
    · exact t.new j a q
    · exact .inr (t.gr a q)
theorem Cont.step {src : Option Nat} {W : WX} {Q : VK} {o : Out D} (c : Cont K mg T src W Q σ Z H env Fs o) (t : Tr T1 Z H env Fs Z1 H1 env1 Fs1) (h : ∀ i, T i = false → T1 i = false ∧ T2 i = false) : Cont K mg T2 src W Q σ Z1 H1 env1 Fs1 o := by
  cases o with
  | ok d e => exact fun v H' Z' Fs' Fd S t2 r p => c v H' Z' Fs' Fd S (t.trans t2 h) r (p.back t)
  | exc x fs e => exact fun cls dd H' Z' Fs' S t2 r => c cls dd H' Z' Fs' S (t.trans t2 h) r
  | err => exact c
/-- a pure result: nothing but new things -/
structure Alloc (Z : Addr → Prop) (H : Hp) (Z' : Addr → Prop) (H' : Hp) (Fd : List Addr) : Prop where
  ext : ∀ a o, H a = some o → H' a = some o
  z : ∀ a, Z a → Z' a
  zn : ∀ a, Z' a → Z a ∨ (H a = none ∧ ∃ o, H' a = some o)
  nd : Fd.Nodup
  fd : ∀ a ∈ Fd, H a = none ∧ ¬ Z' a
theorem Alloc.refl (hz : ∀ a, Z a → ∃ o, H a = some o) : Alloc Z H Z H [] := ⟨fun _ _ h => h, fun _ h => h, fun _ h => .inl h, List.nodup_nil, fun _ h => by simp at h⟩
theorem Alloc.stay {Fd : List Addr} (a : Alloc Z H Z' H' Fd) (hz : ∀ a, Z a → ∃ o, H a = some o) : Stay Z Z' H H' := ⟨a.z, fun b h => by
  obtain ⟨o, e⟩ := hz b h
  rw [e]
  exact a.ext b o e⟩
/-- a new tuple -/
theorem Alloc.tup {p : Addr} {o : HO} (hp : H p = none) : Alloc Z H (fun a => Z a ∨ a = p) (upd H p o) [] :=
  ⟨fun a o h => by rw [upd_ne (ne_of_none h hp)]; exact h, fun a h => .inl h, fun a h => h.elim .inl fun e => .inr ⟨by rw [e]; exact hp, o, by rw [e]; exact upd_same⟩, List.nodup_nil, fun _ h => by simp at h⟩
/-- a new thing of one's own -/
theorem Alloc.own {p : Addr} {o : HO} (hp : H p = none) (hz : ∀ a, Z a → ∃ o, H a = some o) : Alloc Z H Z (upd H p o) [p] :=
  ⟨fun a o h => by rw [upd_ne (ne_of_none h hp)]; exact h, fun a h => h, fun a h => .inl h, by simp, fun a h => by
    have e : a = p := by simpa using h
    subst e
    refine ⟨hp, fun z => ?_⟩
    obtain ⟨o, q⟩ := hz a z
    rw [hp] at q; cases q⟩
theorem SR.alloc {Fd : List Addr} (S : SR K mg Z H σ env Fs) (a : Alloc Z H Z' H' Fd) : SR K mg Z' H' σ env Fs where
  len := S.len
  rep := fun i d e => by
    obtain ⟨v, h1, h2⟩ := S.rep i d e
    refine ⟨v, h1, h2.stay (a.stay S.zs) fun b hb => ?_⟩
    obtain ⟨o, q⟩ := S.tr hb
    rw [q]
    exact a.ext b o q
  no := S.no
  nd := S.nd
  dj := S.dj
  zf := fun i b hb z => by
    obtain ⟨o, q⟩ := S.tr hb
    rcases a.zn b z with z | ⟨z, _⟩
    · exact S.zf i b hb z
    · rw [q] at z; cases z
  zs := fun b z => by
    rcases a.zn b z with z | ⟨_, z⟩
    · obtain ⟨o, q⟩ := S.zs b z
      exact ⟨o, a.ext b o q⟩
    · exact z
theorem Tr.alloc {Fd : List Addr} (S : SR K mg Z H σ env Fs) (a : Alloc Z H Z' H' Fd) : Tr T Z H env Fs Z' H' env Fs where
  z := a.z
  zn := fun b z => (a.zn b z).elim .inl fun q => .inr (.inr q.1)
  keep := fun b o e _ => a.ext b o e
  gr := fun b q => by
    cases e : H b with
    | none => rfl
    | some o =>
      rw [a.ext b o e] at q; cases q
  new := fun i b h => .inl ⟨i, h⟩
  un := fun i _ => ⟨rfl, rfl, fun b hb => by
    obtain ⟨o, q⟩ := S.tr hb
    rw [q]
    exact a.ext b o q⟩
  p := rfl
theorem Cont.ret {W : WX} {Q : VK} {d : D} {v : V} {Fd : List Addr} (S : SR K mg Z H σ env Fs) (c : Cont K mg T none W Q σ Z H env Fs (.ok d env)) (a : Alloc Z H Z' H' Fd) (r : Rep K mg Z' H' d v Fd) : Q v H' :=
  c v H' Z' Fs Fd (S.alloc a) (Tr.alloc S a) r ⟨a.nd, fun b hb => ⟨fun i q => absurd (S.tr q) (fun ⟨o, e⟩ => by
    rw [(a.fd b hb).1] at e
    cases e), (a.fd b hb).2, .inr (a.fd b hb).1⟩⟩
end
end VI
/-! V3: expressions -/
namespace VI
open PySem PySem.Spec L2

/-- an expression's reading, by what it tells -/
def tE (K : PySem.W.Frag) (mg : Mg) (f : M D) (T : Nat → Bool) (src : Option Nat) (W : WX) : TE := fun σ H Q =>
  ∃ Z env Fs, SR K mg Z H σ env Fs ∧ Cont K mg T src W Q σ Z H env Fs (f env)
structure VE (X : Cx) (e : Expr) (f : M D) (T : Nat → Bool) (src : Option Nat) : Prop where
  run : ∀ W, Takes X W → PE X e (tE X.K X.mg f T src W)
theorem pe_imp {X : Cx} {e : Expr} {t t' : TE} (h : PE X e t) (q : ∀ σ H Q, t' σ H Q → t σ H Q) : PE X e t' := ⟨fun pins s σ H Q I w => h.run pins s σ H Q I (q σ H Q w)⟩

def Env.put (env : Env) (i : Nat) (d : D) : Env := { env with s := env.s.set i (some d) }
def fset (Fs : Nat → List Addr) (i : Nat) (G : List Addr) : Nat → List Addr := fun j => if j = i then G else Fs j
theorem fset_self {Fs : Nat → List Addr} {i : Nat} {G : List Addr} : fset Fs i G i = G := if_pos rfl
theorem fset_ne {Fs : Nat → List Addr} {i j : Nat} {G : List Addr} (h : j ≠ i) : fset Fs i G j = Fs j := if_neg h
/-- a name that is only looked at -/
def varM (i : Nat) : M D := fun env => match env.s[i]? with
  | some (some d) => .ok d env
  | _ => .err
/-- a name whose value is kept elsewhere, too: it is never changed from here on -/
def keepM (i : Nat) : M D := fun env => match env.s[i]? with
  | some (some d) => if d.own then .ok d.frz (env.put i d.frz) else .ok d env
  | _ => .err
abbrev T1' (i : Nat) : Nat → Bool := fun j => j == i
/-- what has nothing that may be changed -/
def plainM (f : M D) : M D := bnd f fun d => if d.own then bad else pur d

section
variable {K : PySem.W.Frag} {mg : Mg} {Z Z' Z1 Z2 : Addr → Prop} {H H' H1 H2 : Hp} {σ : L2.St} {env env' env1 env2 : Env} {Fs Fs' Fs1 Fs2 : Nat → List Addr} {T T' T1 T2 : Nat → Bool}
/-- the value of a slot is exchanged, or what stands for it changed -/
theorem SR.mut (S : SR K mg Z H σ env Fs) {i : Nat} {d d' : D} {v : V} {G : List Addr} (hd : env.s[i]? = some (some d)) (hv : σ[i]? = some (some v)) (st : ∀ a, Z a → Z' a) (keep : ∀ a o, H a = some o → a ∉ Fs i → H' a = some o)
    (gr : ∀ a, H' a = none → H a = none) (r : Rep K mg Z' H' d' v G) (nd : G.Nodup) (gn : ∀ a ∈ G, a ∈ Fs i ∨ H a = none) (gz : ∀ a ∈ G, ¬ Z' a) (zn : ∀ a, Z' a → Z a ∨ a ∈ Fs i ∨ H a = none) (zs : ∀ a, Z' a → ∃ o, H' a = some o) :
    SR K mg Z' H' σ (env.put i d') (fset Fs i G) ∧ Tr (T1' i) Z H env Fs Z' H' (env.put i d') (fset Fs i G) := by
  have hi : i < env.s.length := (List.getElem?_eq_some_iff.mp hd).1
  have stay : Stay Z Z' H H' := ⟨st, fun a h => by
    obtain ⟨o, e⟩ := S.zs a h
    rw [e]
    exact keep a o e fun q => S.zf i a q h⟩
  have kj : ∀ j, j ≠ i → ∀ a ∈ Fs j, H' a = H a := fun j hj a ha => by
    obtain ⟨o, e⟩ := S.tr ha
    rw [e]
    exact keep a o e fun q => S.dj j i hj a ha q
  refine ⟨⟨by simpa [Env.put] using S.len, fun j x e => ?_, fun j h => ?_, fun j => ?_, fun j k hjk a ha => ?_, fun j a ha z => ?_, zs⟩, ⟨st, fun a z => ?_, fun a o e n => keep a o e (n i), gr, fun j a ha => ?_, fun j hj => ?_, rfl⟩⟩
  · by_cases hj : j = i
    · subst hj
      rw [Env.put, List.getElem?_set_self hi] at e
      cases e
      exact ⟨v, hv, by rw [fset_self]; exact r⟩
    · rw [Env.put, List.getElem?_set_ne (Ne.symm hj)] at e
      obtain ⟨u, h1, h2⟩ := S.rep j x e
      exact ⟨u, h1, by rw [fset_ne hj]; exact h2.stay stay (kj j hj)⟩
  · by_cases hj : j = i
    · subst hj
      exact absurd (List.getElem?_set_self hi) (h d')
    · rw [fset_ne hj]
      exact S.no j fun x q => h x (by rw [Env.put, List.getElem?_set_ne (Ne.symm hj)]; exact q)
  · by_cases hj : j = i
    · subst hj; rw [fset_self]; exact nd
    · rw [fset_ne hj]; exact S.nd j
  · have th : ∀ l, ∀ b ∈ Fs l, H b ≠ none := fun l b hb q => by
      obtain ⟨o, e⟩ := S.tr hb
      rw [q] at e; cases e
    by_cases hj : j = i
    · subst hj
      rw [fset_self] at ha
      rw [fset_ne (Ne.symm hjk)]
      intro q
      rcases gn a ha with z | z
      · exact S.dj j k hjk a z q
      · exact th k a q z
    · rw [fset_ne hj] at ha
      by_cases hk : k = i
      · subst hk
        rw [fset_self]
        intro q
        rcases gn a q with z | z
        · exact S.dj j k hjk a ha z
        · exact th j a ha z
      · rw [fset_ne hk]
        exact S.dj j k hjk a ha
  · by_cases hj : j = i
    · subst hj; rw [fset_self] at ha; exact gz a ha z
    · rw [fset_ne hj] at ha
      rcases zn a z with z | z | z
      · exact S.zf j a ha z
      · exact S.dj j i hj a ha z
      · obtain ⟨o, e⟩ := S.tr ha
        rw [z] at e; cases e
  · rcases zn a z with z | z | z
    · exact .inl z
    · exact .inr (.inl ⟨i, z⟩)
    · exact .inr (.inr z)
  · by_cases hj : j = i
    · subst hj
      rw [fset_self] at ha
      exact (gn a ha).elim (fun q => .inl ⟨j, q⟩) .inr
    · rw [fset_ne hj] at ha
      exact .inl ⟨j, ha⟩
  · have hj' : j ≠ i := by simpa using hj
    exact ⟨by rw [Env.put, List.getElem?_set_ne (Ne.symm hj')], fset_ne hj', kj j hj'⟩
theorem Env.put_same {env : Env} {i : Nat} {d : D} (h : env.s[i]? = some (some d)) : env.put i d = env := by
  have : env.s.set i (some d) = env.s := by
    apply List.ext_getElem?
    intro j
    by_cases e : i = j
    · subst e
      rw [List.getElem?_set_self (List.getElem?_eq_some_iff.mp h).1, h]
    · rw [List.getElem?_set_ne e]
  rw [Env.put, this]
/-- a slot's value is never changed from here on -/
theorem SR.frz (S : SR K mg Z H σ env Fs) {i : Nat} {d : D} {v : V} (hd : env.s[i]? = some (some d)) (hv : σ[i]? = some (some v)) (r : Rep K mg Z H d v (Fs i)) :
    ∃ Z', SR K mg Z' H σ (env.put i d.frz) (fset Fs i []) ∧ Tr (T1' i) Z H env Fs Z' H (env.put i d.frz) (fset Fs i []) ∧ Rep K mg Z' H d.frz v [] := by
  have r' : Rep K mg (fun a => Z a ∨ a ∈ Fs i) H d.frz v [] := r.frz (fun _ h => .inl h) fun a h => .inr h
  obtain ⟨a, b⟩ := S.mut hd hv (Z' := fun a => Z a ∨ a ∈ Fs i) (fun _ h => .inl h) (fun _ _ h _ => h) (fun _ h => h) r' List.nodup_nil (fun _ h => by simp at h) (fun _ h => by simp at h) (fun a h => h.elim .inl fun q => .inr (.inl q)) fun a h => h.elim (S.zs a) S.tr
  exact ⟨_, a, b, r'⟩
end

section
variable {X : Cx} {e a b : Expr} {pos : Pos} {f fa fb : M D} {T Ta Tb : Nat → Bool} {src sa sb : Option Nat}
theorem ve_const {t : TE} {d : D} (h : PE X e t) (q : ∀ (σ : L2.St) (H : Hp) (Q : VK), (∀ v : V, (∀ Z, Rep X.K X.mg Z H d v []) → Q v H) → t σ H Q) : VE X e (pur d) T0 none := by
  refine ⟨fun W tk => pe_imp h fun σ H Q ⟨Z, env, Fs, S, c⟩ => q σ H Q fun v r => ?_⟩
  exact Cont.ret S c (Alloc.refl S.zs) (r Z)
theorem ve_int {i : Int} {j : Nat} : VE X (.Constant (.int i) j pos) (pur (.int i)) T0 none := ve_const pe_int fun σ H Q h => h _ fun Z => by simp [Rep]
theorem ve_str {x : Str} {j : Nat} : VE X (.Constant (.str x) j pos) (pur (.str x)) T0 none := ve_const pe_str fun σ H Q h => h _ fun Z => by simp [Rep]
theorem ve_bl {x : Bool} {j : Nat} : VE X (.Constant (.bool x) j pos) (pur (.bl x)) T0 none := ve_const pe_bl fun σ H Q h => h _ fun Z => by simp [Rep]
theorem ve_non {j : Nat} : VE X (.Constant .none j pos) (pur .non) T0 none := ve_const pe_non fun σ H Q h => h _ fun Z => by simp [Rep]
/-- a global constant -/
theorem ve_glob {x : Str} {v : V} {u : Value} {d : D} (hd : ∀ Z H, Rep X.K X.mg Z H d v []) (hg : Gl X x) (hm : X.mg x = some u) (r : RelV v u) (hdb : (x == ("__debug__" : Str)) = false := by decide) : VE X (.Name x pos) (pur d) T0 none :=
  ve_const (pe_glob hg hm r hdb) fun σ H Q h => h _ fun Z => hd Z H
theorem ve_var {i : Nat} {x : Str} (hN : X.N[i]? = some x) (hv : Vis X.env.scope x) (hd : (x == ("__debug__" : Str)) = false := by decide) (hcd : (x == ("__classdict__" : Str)) = false := by decide) : VE X (.Name x pos) (varM i) T0 (some i) := by
  refine ⟨fun W tk => pe_imp (pe_var hN hv hd hcd) fun σ H Q ⟨Z, env, Fs, S, c⟩ => ?_⟩
  unfold varM at c
  split at c
  · rename_i d hd
    obtain ⟨v, h1, h2⟩ := S.rep i d hd
    exact ⟨v, h1, c v H Z Fs (Fs i) S Tr.refl h2 ⟨S.nd i, fun a h => h⟩⟩
  · exact c.elim
theorem ve_keep {i : Nat} {x : Str} (hN : X.N[i]? = some x) (hv : Vis X.env.scope x) (hd : (x == ("__debug__" : Str)) = false := by decide) (hcd : (x == ("__classdict__" : Str)) = false := by decide) : VE X (.Name x pos) (keepM i) (T1' i) none := by
  refine ⟨fun W tk => pe_imp (pe_var hN hv hd hcd) fun σ H Q ⟨Z, env, Fs, S, c⟩ => ?_⟩
  unfold keepM at c
  split at c
  · rename_i d hd
    obtain ⟨v, h1, h2⟩ := S.rep i d hd
    refine ⟨v, h1, ?_⟩
    split at c
    · obtain ⟨Z', S', t, r⟩ := S.frz hd h1 h2
      exact c v H Z' _ [] S' t r VP.nil
    · rename_i ho
      have ho : d.own = false := by simpa using ho
      have e := h2.unown ho
      rw [e] at h2
      exact c v H Z Fs [] S Tr.refl h2 VP.nil
  · exact c.elim
theorem ve_plain (h : VE X e f T src) : VE X e (plainM f) T none := by
  refine ⟨fun W tk => pe_imp (h.run W tk) fun σ H Q ⟨Z, env, Fs, S, c⟩ => ⟨Z, env, Fs, S, ?_⟩⟩
  unfold plainM bnd at c
  cases q : f env with
  | err => rw [q] at c; exact c.elim
  | exc x fs e1 => rw [q] at c; exact c
  | ok d e1 =>
    rw [q] at c
    intro v H' Z' Fs' Fd S' t r p
    by_cases ho : d.own = true
    · simp only [ho, if_true] at c
      exact c.elim
    · simp only [ho, if_false] at c
      have e := r.unown (by simpa using ho)
      rw [e] at r
      exact c v H' Z' Fs' [] S' t r VP.nil
theorem VE.weak (h : VE X e f T src) (q : ∀ i, Ta i = false → T i = false) : VE X e f Ta src := by
  refine ⟨fun W tk => pe_imp (h.run W tk) fun σ H Q ⟨Z, env, Fs, S, c⟩ => ⟨Z, env, Fs, S, ?_⟩⟩
  cases o : f env with
  | err => rw [o] at c; exact c.elim
  | exc x fs e1 => rw [o] at c; exact fun cls dd H' Z' Fs' S' t r => c cls dd H' Z' Fs' S' (t.mono q) r
  | ok d e1 => rw [o] at c; exact fun v H' Z' Fs' Fd S' t r p => c v H' Z' Fs' Fd S' (t.mono q) r p

/-- a result that is nothing but new things -/
def Res (K : PySem.W.Frag) (mg : Mg) (Z : Addr → Prop) (H : Hp) (d : D) (Q : VK) : Prop := ∀ v H' Z' Fd, Alloc Z H Z' H' Fd → Rep K mg Z' H' d v Fd → Q v H'
/-- a two-place operation on values -/
def OpD (X : Cx) (f : Value → Value → Sem Value) (g : D → D → Option D) : Prop := ∃ r, OpR X f r ∧
  ∀ {Z : Addr → Prop} {H : Hp} {d1 d2 d : D} {v1 v2 : V} {F1 F2 : List Addr} {Q : VK}, (∀ a, Z a → ∃ o, H a = some o) → Rep X.K X.mg Z H d1 v1 F1 → Rep X.K X.mg Z H d2 v2 F2 → g d1 d2 = some d → Res X.K X.mg Z H d Q → r v1 v2 H Q
def ofO {α : Type} : Option α → M α
  | some a => pur a
  | none => bad
/-- two values, then an operation; k: the first one isn't touched by what tells the second -/
def twoM (k : Bool) (fa fb : M D) (g : D → D → Option D) : M D := bnd fa fun d1 => if k || !d1.own then bnd fb fun d2 => ofO (g d1 d2) else bad
theorem tE_two {K : PySem.W.Frag} {mg : Mg} {W : WX} {σ : L2.St} {H : Hp} {Q : VK} {k : Bool} {g : D → D → Option D} {r : R2} (hk : k = true → ∀ i, sa = some i → Tb i = false)
    (hr : ∀ {Z : Addr → Prop} {H : Hp} {d1 d2 d : D} {v1 v2 : V} {F1 F2 : List Addr} {Q : VK}, (∀ a, Z a → ∃ o, H a = some o) → Rep K mg Z H d1 v1 F1 → Rep K mg Z H d2 v2 F2 → g d1 d2 = some d → Res K mg Z H d Q → r v1 v2 H Q)
    (h : tE K mg (twoM k fa fb g) (tor Ta Tb) none W σ H Q) : tE K mg fa Ta sa W σ H fun x H1 => tE K mg fb Tb sb W σ H1 fun y H2 => r x y H2 Q := by
  obtain ⟨Z, env, Fs, S, c⟩ := h
  refine ⟨Z, env, Fs, S, ?_⟩
  unfold twoM bnd at c
  have sub : ∀ i, tor Ta Tb i = false → Ta i = false ∧ Tb i = false := fun i q => by simpa using q
  cases qa : fa env with
  | err => rw [qa] at c; exact c.elim
  | exc x fs e1 =>
    rw [qa] at c
    exact fun cls dd H' Z' Fs' S' t r => c cls dd H' Z' Fs' S' (t.mono fun i q => (sub i q).1) r
  | ok d1 e1 =>
    rw [qa] at c
    simp only at c
    intro v1 H1 Z1 Fs1 F1 S1 t1 r1 p1
    by_cases hc : (k || !d1.own) = true
    · rw [if_pos hc] at c
      have c := Cont.step c t1 sub
      refine ⟨Z1, e1, Fs1, S1, ?_⟩
      cases qb : fb e1 with
      | err => rw [qb] at c; exact c.elim
      | exc x fs e2 => rw [qb] at c; exact c
      | ok d2 e2 =>
        rw [qb] at c
        simp only at c
        intro v2 H2 Z2 Fs2 F2 S2 t2 r2 p2
        cases qg : g d1 d2 with
        | none => rw [qg] at c; exact c.elim
        | some d =>
          rw [qg] at c
          have c := Cont.step (T2 := T0) c t2 fun i q => ⟨q, rfl⟩
          have r1' := Rep.over S1 p1 r1 t2 (by
            rcases Bool.or_eq_true_iff.mp hc with q | q
            · exact .inr (hk q)
            · exact .inl (by simpa using q))
          exact hr S2.zs r1' r2 qg fun v H' Z' Fd a r => Cont.ret S2 c a r
    · rw [if_neg hc] at c
      exact c.elim
theorem ve_bin {op : Operator} {g : D → D → Option D} (k : Bool) (h : OpD X (binaryOp op) g) (ha : VE X a fa Ta sa) (hb : VE X b fb Tb sb) (hk : k = true → ∀ i, sa = some i → Tb i = false) :
    VE X (.BinOp a op b pos) (twoM k fa fb g) (tor Ta Tb) none := by
  obtain ⟨r, h1, h2⟩ := h
  exact ⟨fun W tk => pe_imp (pe_op h1 (ha.run W tk) (hb.run W tk)) fun σ H Q h => tE_two hk h2 h⟩
theorem ve_cmp {op : CmpOp} {g : D → D → Option D} (k : Bool) (h : OpD X (compareOp op) g) (ha : VE X a fa Ta sa) (hb : VE X b fb Tb sb) (hk : k = true → ∀ i, sa = some i → Tb i = false) (hm : behindInMarks op b = false) :
    VE X (.Compare a [op] [b] pos) (twoM k fa fb g) (tor Ta Tb) none := by
  obtain ⟨r, h1, h2⟩ := h
  exact ⟨fun W tk => pe_imp (pe_cmpR h1 (ha.run W tk) (hb.run W tk) hm) fun σ H Q h => tE_two hk h2 h⟩
/-- a one-place operation -/
def oneM (fa : M D) (g : D → Option D) : M D := bnd fa fun d => ofO (g d)
theorem tE_one {K : PySem.W.Frag} {mg : Mg} {W : WX} {σ : L2.St} {H : Hp} {Q : VK} {g : D → Option D} {r : V → Hp → VK → Prop}
    (hr : ∀ {Z : Addr → Prop} {H : Hp} {d1 d : D} {v1 : V} {F1 : List Addr} {Q : VK}, (∀ a, Z a → ∃ o, H a = some o) → Rep K mg Z H d1 v1 F1 → g d1 = some d → Res K mg Z H d Q → r v1 H Q)
    (h : tE K mg (oneM fa g) Ta none W σ H Q) : tE K mg fa Ta sa W σ H fun x H1 => r x H1 Q := by
  obtain ⟨Z, env, Fs, S, c⟩ := h
  refine ⟨Z, env, Fs, S, ?_⟩
  unfold oneM bnd at c
  cases qa : fa env with
  | err => rw [qa] at c; exact c.elim
  | exc x fs e1 => rw [qa] at c; exact c
  | ok d1 e1 =>
    rw [qa] at c
    simp only at c
    intro v1 H1 Z1 Fs1 F1 S1 t1 r1 p1
    cases qg : g d1 with
    | none => rw [qg] at c; exact c.elim
    | some d =>
      rw [qg] at c
      have c := Cont.step (T2 := T0) c t1 fun i q => ⟨q, rfl⟩
      exact hr S1.zs r1 qg fun v H' Z' Fd a r => Cont.ret S1 c a r
def UnD (X : Cx) (f : Value → Sem Value) (g : D → Option D) : Prop := ∃ r, UnR X f r ∧
  ∀ {Z : Addr → Prop} {H : Hp} {d1 d : D} {v1 : V} {F1 : List Addr} {Q : VK}, (∀ a, Z a → ∃ o, H a = some o) → Rep X.K X.mg Z H d1 v1 F1 → g d1 = some d → Res X.K X.mg Z H d Q → r v1 H Q
theorem ve_un {op : UnaryOp} {g : D → Option D} (h : UnD X (unaryOp op) g) (ha : VE X a fa Ta sa) : VE X (.UnaryOp op a pos) (oneM fa g) Ta none := by
  obtain ⟨r, h1, h2⟩ := h
  exact ⟨fun W tk => pe_imp (pe_un h1 (ha.run W tk)) fun σ H Q h => tE_one h2 h⟩
/-- a call of something built in, by one value, by two -/
def Call1D (X : Cx) (f : Value) (g : D → Option D) : Prop := ∃ r, CallR X f r ∧
  ∀ {Z : Addr → Prop} {H : Hp} {d1 d : D} {v1 : V} {F1 : List Addr} {Q : VK}, (∀ a, Z a → ∃ o, H a = some o) → Rep X.K X.mg Z H d1 v1 F1 → g d1 = some d → Res X.K X.mg Z H d Q → r [v1] H Q
def Call2D (X : Cx) (f : Value) (g : D → D → Option D) : Prop := ∃ r, CallR X f r ∧
  ∀ {Z : Addr → Prop} {H : Hp} {d1 d2 d : D} {v1 v2 : V} {F1 F2 : List Addr} {Q : VK}, (∀ a, Z a → ∃ o, H a = some o) → Rep X.K X.mg Z H d1 v1 F1 → Rep X.K X.mg Z H d2 v2 F2 → g d1 d2 = some d → Res X.K X.mg Z H d Q → r [v1, v2] H Q
variable {x : Str} {p : Pos} {id t : String} {g : D → Option D} {g2 : D → D → Option D}
theorem ve_b1 (h : Call1D X (.builtin id) g) (hg : Gl X x) (hm : X.mg x = none) (hv : bootBuiltins x = some (.builtin id)) (ha : VE X a fa Ta sa) (he : starEach [a] X.env = (false, eval a X.env) :: starEach [] X.env := by rfl) (hn : x ≠ "__name__" := by decide) (hdb : (x == ("__debug__" : Str)) = false := by decide)
    (hpl : ∀ pos, (backTo pos (starEach ([] : List Expr) X.env)).any (·.1) = false := by intro _; rfl) : VE X (.Call (.Name x p) [a] [] pos) (oneM fa g) Ta none := by
  obtain ⟨r, h1, h2⟩ := h
  exact ⟨fun W tk => pe_imp (pe_callB h1 hg hm hv (pa_cons (ha.run W tk) pa_nil he) hn hdb he (hpl pos)) fun σ H Q h => tE_one h2 h⟩
theorem ve_t1 (h : Call1D X (.type t) g) (hg : Gl X x) (hm : X.mg x = none) (hv : bootBuiltins x = some (.type t)) (ha : VE X a fa Ta sa) (he : starEach [a] X.env = (false, eval a X.env) :: starEach [] X.env := by rfl) (hn : x ≠ "__name__" := by decide) (hdb : (x == ("__debug__" : Str)) = false := by decide)
    (hpl : ∀ pos, (backTo pos (starEach ([] : List Expr) X.env)).any (·.1) = false := by intro _; rfl) : VE X (.Call (.Name x p) [a] [] pos) (oneM fa g) Ta none := by
  obtain ⟨r, h1, h2⟩ := h
  exact ⟨fun W tk => pe_imp (pe_callTy h1 hg hm hv (pa_cons (ha.run W tk) pa_nil he) hn hdb he (hpl pos)) fun σ H Q h => tE_one h2 h⟩
theorem ve_b2 (k : Bool) (h : Call2D X (.builtin id) g2) (hg : Gl X x) (hm : X.mg x = none) (hv : bootBuiltins x = some (.builtin id)) (ha : VE X a fa Ta sa) (hb : VE X b fb Tb sb) (hk : k = true → ∀ i, sa = some i → Tb i = false)
    (he : starEach [a, b] X.env = (false, eval a X.env) :: starEach [b] X.env := by rfl) (he2 : starEach [b] X.env = (false, eval b X.env) :: starEach [] X.env := by rfl) (hn : x ≠ "__name__" := by decide) (hdb : (x == ("__debug__" : Str)) = false := by decide)
    (hpl : ∀ pos, (backTo pos (starEach [b] X.env)).any (·.1) = false := by intro _; rfl) : VE X (.Call (.Name x p) [a, b] [] pos) (twoM k fa fb g2) (tor Ta Tb) none := by
  obtain ⟨r, h1, h2⟩ := h
  exact ⟨fun W tk => pe_imp (pe_callB h1 hg hm hv (pa_cons (ha.run W tk) (pa_cons (hb.run W tk) pa_nil he2) he) hn hdb he (hpl pos)) fun σ H Q h => tE_two (sa := sa) (sb := sb) hk h2 h⟩
/-- a[b] -/
def IxD (X : Cx) (g : D → D → Option D) : Prop := ∃ r, IxR X r ∧
  ∀ {Z : Addr → Prop} {H : Hp} {d1 d2 d : D} {v1 v2 : V} {F1 F2 : List Addr} {Q : VK}, (∀ a, Z a → ∃ o, H a = some o) → Rep X.K X.mg Z H d1 v1 F1 → Rep X.K X.mg Z H d2 v2 F2 → g d1 d2 = some d → Res X.K X.mg Z H d Q → r v1 v2 H Q
theorem ve_ix (k : Bool) (h : IxD X g2) (ha : VE X a fa Ta sa) (hb : VE X b fb Tb sb) (hk : k = true → ∀ i, sa = some i → Tb i = false) (hs : PlainIx b) : VE X (.Subscript a b pos) (twoM k fa fb g2) (tor Ta Tb) none := by
  obtain ⟨r, h1, h2⟩ := h
  exact ⟨fun W tk => pe_imp (pe_ix h1 (ha.run W tk) (hb.run W tk) hs) fun σ H Q h => tE_two hk h2 h⟩
end
end VI
/-! V4: tests, and, or, not, if; lists of expressions, displays -/
namespace VI
open PySem PySem.Spec L2

def ContB (K : PySem.W.Frag) (mg : Mg) (T : Nat → Bool) (W : WX) (Q : Bool → Hp → Prop) (σ : L2.St) (Z : Addr → Prop) (H : Hp) (env : Env) (Fs : Nat → List Addr) : Out Bool → Prop
  | .ok b env' => ∀ H' Z' Fs', SR K mg Z' H' σ env' Fs' → Tr T Z H env Fs Z' H' env' Fs' → Q b H'
  | .exc c fs env' => ∀ cls dd H' Z' Fs', SR K mg Z' H' σ env' Fs' → Tr T Z H env Fs Z' H' env' Fs' → XAt K mg Z' H' c fs cls dd → W cls dd σ H'
  | .err => False
def tT (K : PySem.W.Frag) (mg : Mg) (f : M Bool) (T : Nat → Bool) (W : WX) : TT := fun σ H Q => ∃ Z env Fs, SR K mg Z H σ env Fs ∧ ContB K mg T W Q σ Z H env Fs (f env)
structure VT (X : Cx) (e : Expr) (f : M Bool) (T : Nat → Bool) : Prop where
  run : ∀ W, Takes X W → PT X e (tT X.K X.mg f T W)
structure VW (X : Cx) (e : Expr) (f : M Bool) (T : Nat → Bool) : Prop where
  run : ∀ W, Takes X W → PW X e (tT X.K X.mg f T W)
theorem VW.vt {X : Cx} {e : Expr} {f : M Bool} {T : Nat → Bool} (h : VW X e f T) : VT X e f T := ⟨fun W tk => (h.run W tk).pt⟩
def boolM (f : M D) : M Bool := bnd f fun d => match d with
  | .bl b => pur b
  | _ => bad
def andM (fa fb : M Bool) : M Bool := bnd fa fun b => if b = true then fb else pur false
def orM (fa fb : M Bool) : M Bool := bnd fa fun b => if b = true then pur true else fb
def notM (fa : M Bool) : M Bool := bnd fa fun b => pur (!b)
def andD (fa fb : M D) : M D := bnd fa fun d => match d with
  | .bl true => fb
  | .bl false => pur (.bl false)
  | _ => bad
def orD (fa fb : M D) : M D := bnd fa fun d => match d with
  | .bl false => fb
  | .bl true => pur (.bl true)
  | _ => bad
def notD (fa : M D) : M D := bnd fa fun d => match d with
  | .bl b => pur (.bl (!b))
  | _ => bad
def iteM {α : Type} (fc : M Bool) (fa fb : M α) : M α := bnd fc fun b => if b = true then fa else fb

section
variable {K : PySem.W.Frag} {mg : Mg} {Z Z' Z1 Z2 : Addr → Prop} {H H' H1 H2 : Hp} {σ : L2.St} {env env' env1 env2 : Env} {Fs Fs' Fs1 Fs2 : Nat → List Addr} {T T' T1 T2 : Nat → Bool}
theorem ContB.step {W : WX} {Q : Bool → Hp → Prop} {o : Out Bool} (c : ContB K mg T W Q σ Z H env Fs o) (t : Tr T1 Z H env Fs Z1 H1 env1 Fs1) (h : ∀ i, T i = false → T1 i = false ∧ T2 i = false) : ContB K mg T2 W Q σ Z1 H1 env1 Fs1 o := by
  cases o with
  | ok d e => exact fun H' Z' Fs' S t2 => c H' Z' Fs' S (t.trans t2 h)
  | exc x fs e => exact fun cls dd H' Z' Fs' S t2 r => c cls dd H' Z' Fs' S (t.trans t2 h) r
  | err => exact c
theorem tor_sub {Ta Tb : Nat → Bool} : ∀ i, tor Ta Tb i = false → Ta i = false ∧ Tb i = false := fun i q => by simpa using q
end
section
variable {X : Cx} {e a b c : Expr} {pos : Pos} {f fa fb : M D} {ga gb gc : M Bool} {T Ta Tb Tc : Nat → Bool} {src sa sb : Option Nat} {rest : List Expr}
theorem pt_imp {t t' : TT} (h : PT X e t) (q : ∀ σ H Q, t' σ H Q → t σ H Q) : PT X e t' := ⟨fun pins s σ H Q I w => h.run pins s σ H Q I (q σ H Q w)⟩
theorem pw_imp {t t' : TT} (h : PW X e t) (q : ∀ σ H Q, t' σ H Q → t σ H Q) : PW X e t' := ⟨fun wh pins s σ H Q I w => h.run wh pins s σ H Q I (q σ H Q w)⟩
theorem tT_bool {K : PySem.W.Frag} {mg : Mg} {W : WX} {σ : L2.St} {H : Hp} {Q : Bool → Hp → Prop} (h : tT K mg (boolM f) T W σ H Q) : tE K mg f T src W σ H fun x H1 => ∃ k, x = .bl k ∧ Q k H1 := by
  obtain ⟨Z, env, Fs, S, c⟩ := h
  refine ⟨Z, env, Fs, S, ?_⟩
  unfold boolM bnd at c
  cases q : f env with
  | err => rw [q] at c; exact c.elim
  | exc x fs e1 => rw [q] at c; exact c
  | ok d e1 =>
    rw [q] at c
    intro v H' Z' Fs' Fd S' t r p
    cases d <;> first | exact c.elim | skip
    rename_i bb
    simp only [Rep] at r
    exact ⟨bb, r.1, c H' Z' Fs' S' t⟩
theorem vt_val (h : VE X e f T src) (he : ∀ whole, isTrue e X.env whole = (do let v ← whole; standAt e.pos; holding [v] (truthy v)) := by intro _; rfl) : VT X e (boolM f) T :=
  ⟨fun W tk => pt_imp (pt_val (h.run W tk) he) fun σ H Q q => tT_bool q⟩
theorem tT_two {K : PySem.W.Frag} {mg : Mg} {W : WX} {σ : L2.St} {H : Hp} {Q : Bool → Hp → Prop} {k : Bool} {g : D → D → Option D} {r : R2} (hk : k = true → ∀ i, sa = some i → Tb i = false)
    (hr : ∀ {Z : Addr → Prop} {H : Hp} {d1 d2 d : D} {v1 v2 : V} {F1 F2 : List Addr} {Q : VK}, (∀ a, Z a → ∃ o, H a = some o) → Rep K mg Z H d1 v1 F1 → Rep K mg Z H d2 v2 F2 → g d1 d2 = some d → Res K mg Z H d Q → r v1 v2 H Q)
    (h : tT K mg (boolM (twoM k fa fb g)) (tor Ta Tb) W σ H Q) : tE K mg fa Ta sa W σ H fun x H1 => tE K mg fb Tb sb W σ H1 fun y H2 => r x y H2 fun x H' => ∃ k, x = .bl k ∧ Q k H' :=
  tE_two hk hr (tT_bool h)
theorem vt_cmp {op : CmpOp} {g : D → D → Option D} (k : Bool) (h : OpD X (compareOp op) g) (ha : VE X a fa Ta sa) (hb : VE X b fb Tb sb) (hk : k = true → ∀ i, sa = some i → Tb i = false) (hm : behindInMarks op b = false) :
    VT X (.Compare a [op] [b] pos) (boolM (twoM k fa fb g)) (tor Ta Tb) := by
  obtain ⟨r, h1, h2⟩ := h
  exact ⟨fun W tk => pt_imp (pt_cmpR h1 (ha.run W tk) (hb.run W tk) hm) fun σ H Q h => tT_two hk h2 h⟩
theorem vt_not (h : VT X a ga Ta) : VT X (.UnaryOp .Not a pos) (notM ga) Ta := by
  refine ⟨fun W tk => pt_imp (pt_not (h.run W tk)) fun σ H Q ⟨Z, env, Fs, S, c⟩ => ⟨Z, env, Fs, S, ?_⟩⟩
  unfold notM bnd at c
  cases q : ga env with
  | err => rw [q] at c; exact c.elim
  | exc x fs e1 => rw [q] at c; exact c
  | ok d e1 => rw [q] at c; exact c
theorem vw_and1 (h : VT X a ga Ta) : VW X (.BoolOp .And [a] pos) ga Ta := ⟨fun W tk => pw_and1 (h.run W tk)⟩
theorem vw_or1 (h : VT X a ga Ta) : VW X (.BoolOp .Or [a] pos) ga Ta := ⟨fun W tk => pw_or1 (h.run W tk)⟩
theorem vw_and (ha : VT X a ga Ta) (hb : VW X (.BoolOp .And (b :: rest) pos) gb Tb) : VW X (.BoolOp .And (a :: b :: rest) pos) (andM ga gb) (tor Ta Tb) := by
  refine ⟨fun W tk => pw_imp (pw_and (ha.run W tk) (hb.run W tk)) fun σ H Q ⟨Z, env, Fs, S, c⟩ => ⟨Z, env, Fs, S, ?_⟩⟩
  unfold andM bnd at c
  cases q : ga env with
  | err => rw [q] at c; exact c.elim
  | exc x fs e1 =>
    rw [q] at c
    exact fun cls dd H' Z' Fs' S' t r => c cls dd H' Z' Fs' S' (t.mono fun i q => (tor_sub i q).1) r
  | ok d e1 =>
    rw [q] at c
    intro H1 Z1 Fs1 S1 t1
    have c := ContB.step c t1 tor_sub
    dsimp only at c
    cases d with
    | true => rw [if_pos rfl] at c ⊢; exact ⟨Z1, e1, Fs1, S1, c⟩
    | false => rw [if_neg Bool.false_ne_true] at c ⊢; exact c H1 Z1 Fs1 S1 Tr.refl
theorem vw_or (ha : VT X a ga Ta) (hb : VW X (.BoolOp .Or (b :: rest) pos) gb Tb) : VW X (.BoolOp .Or (a :: b :: rest) pos) (orM ga gb) (tor Ta Tb) := by
  refine ⟨fun W tk => pw_imp (pw_or (ha.run W tk) (hb.run W tk)) fun σ H Q ⟨Z, env, Fs, S, c⟩ => ⟨Z, env, Fs, S, ?_⟩⟩
  unfold orM bnd at c
  cases q : ga env with
  | err => rw [q] at c; exact c.elim
  | exc x fs e1 =>
    rw [q] at c
    exact fun cls dd H' Z' Fs' S' t r => c cls dd H' Z' Fs' S' (t.mono fun i q => (tor_sub i q).1) r
  | ok d e1 =>
    rw [q] at c
    intro H1 Z1 Fs1 S1 t1
    have c := ContB.step c t1 tor_sub
    dsimp only at c
    cases d with
    | true => rw [if_pos rfl] at c ⊢; exact c H1 Z1 Fs1 S1 Tr.refl
    | false => rw [if_neg Bool.false_ne_true] at c ⊢; exact ⟨Z1, e1, Fs1, S1, c⟩
/-- as values -/
theorem ve_one {op : BoolOp} (h : VE X a f T src) : VE X (.BoolOp op [a] pos) f T src := ⟨fun W tk => pe_one (h.run W tk)⟩
theorem ve_and (ha : VE X a fa Ta sa) (hb : VE X (.BoolOp .And (b :: rest) pos) fb Tb none) : VE X (.BoolOp .And (a :: b :: rest) pos) (andD fa fb) (tor Ta Tb) none := by
  refine ⟨fun W tk => pe_imp (pe_and (ha.run W tk) (hb.run W tk)) fun σ H Q ⟨Z, env, Fs, S, c⟩ => ⟨Z, env, Fs, S, ?_⟩⟩
  unfold andD bnd at c
  cases q : fa env with
  | err => rw [q] at c; exact c.elim
  | exc x fs e1 =>
    rw [q] at c
    exact fun cls dd H' Z' Fs' S' t r => c cls dd H' Z' Fs' S' (t.mono fun i q => (tor_sub i q).1) r
  | ok d e1 =>
    rw [q] at c
    intro v H1 Z1 Fs1 F1 S1 t1 r p
    have c := Cont.step c t1 tor_sub
    dsimp only at c
    obtain ⟨d, rfl⟩ : ∃ bb, d = .bl bb := by cases d <;> first | exact ⟨_, rfl⟩ | exact c.elim
    simp only [Rep] at r
    refine ⟨d, r.1, ?_⟩
    cases d with
    | true => rw [if_pos rfl]; exact ⟨Z1, e1, Fs1, S1, c⟩
    | false => rw [if_neg Bool.false_ne_true]; exact c _ H1 Z1 Fs1 [] S1 Tr.refl (by simp [Rep]) VP.nil
theorem ve_or (ha : VE X a fa Ta sa) (hb : VE X (.BoolOp .Or (b :: rest) pos) fb Tb none) : VE X (.BoolOp .Or (a :: b :: rest) pos) (orD fa fb) (tor Ta Tb) none := by
  refine ⟨fun W tk => pe_imp (pe_or (ha.run W tk) (hb.run W tk)) fun σ H Q ⟨Z, env, Fs, S, c⟩ => ⟨Z, env, Fs, S, ?_⟩⟩
  unfold orD bnd at c
  cases q : fa env with
  | err => rw [q] at c; exact c.elim
  | exc x fs e1 =>
    rw [q] at c
    exact fun cls dd H' Z' Fs' S' t r => c cls dd H' Z' Fs' S' (t.mono fun i q => (tor_sub i q).1) r
  | ok d e1 =>
    rw [q] at c
    intro v H1 Z1 Fs1 F1 S1 t1 r p
    have c := Cont.step c t1 tor_sub
    dsimp only at c
    obtain ⟨d, rfl⟩ : ∃ bb, d = .bl bb := by cases d <;> first | exact ⟨_, rfl⟩ | exact c.elim
    simp only [Rep] at r
    refine ⟨d, r.1, ?_⟩
    cases d with
    | true => rw [if_pos rfl]; exact c _ H1 Z1 Fs1 [] S1 Tr.refl (by simp [Rep]) VP.nil
    | false => rw [if_neg Bool.false_ne_true]; exact ⟨Z1, e1, Fs1, S1, c⟩
theorem ve_not (h : VE X a fa Ta sa) : VE X (.UnaryOp .Not a pos) (notD fa) Ta none := by
  refine ⟨fun W tk => pe_imp (pe_not (h.run W tk)) fun σ H Q ⟨Z, env, Fs, S, c⟩ => ⟨Z, env, Fs, S, ?_⟩⟩
  unfold notD bnd at c
  cases q : fa env with
  | err => rw [q] at c; exact c.elim
  | exc x fs e1 => rw [q] at c; exact c
  | ok d e1 =>
    rw [q] at c
    intro v H1 Z1 Fs1 F1 S1 t1 r p
    obtain ⟨d, rfl⟩ : ∃ bb, d = .bl bb := by cases d <;> first | exact ⟨_, rfl⟩ | exact c.elim
    simp only [Rep] at r
    exact ⟨d, r.1, c _ H1 Z1 Fs1 [] S1 t1 (by simp [Rep]) VP.nil⟩
theorem ve_if (hc : VT X c gc Tc) (ha : VE X a fa Ta none) (hb : VE X b fb Tb none) : VE X (.IfExp c a b pos) (iteM gc fa fb) (tor Tc (tor Ta Tb)) none := by
  refine ⟨fun W tk => pe_imp (pe_ifExp (hc.run W tk) (ha.run W tk) (hb.run W tk)) fun σ H Q ⟨Z, env, Fs, S, c⟩ => ⟨Z, env, Fs, S, ?_⟩⟩
  unfold iteM bnd at c
  cases q : gc env with
  | err => rw [q] at c; exact c.elim
  | exc x fs e1 =>
    rw [q] at c
    exact fun cls dd H' Z' Fs' S' t r => c cls dd H' Z' Fs' S' (t.mono fun i q => (tor_sub i q).1) r
  | ok d e1 =>
    rw [q] at c
    intro H1 Z1 Fs1 S1 t1
    have c := Cont.step (T2 := tor Ta Tb) c t1 tor_sub
    dsimp only at c
    cases d with
    | true => rw [if_pos rfl] at c ⊢; exact ⟨Z1, e1, Fs1, S1, Cont.step c (T1 := T0) Tr.refl fun i q => ⟨rfl, (tor_sub i q).1⟩⟩
    | false => rw [if_neg Bool.false_ne_true] at c ⊢; exact ⟨Z1, e1, Fs1, S1, Cont.step c (T1 := T0) Tr.refl fun i q => ⟨rfl, (tor_sub i q).2⟩⟩

/-! ### lists of expressions: each a value of its own -/
def ContL (K : PySem.W.Frag) (mg : Mg) (T : Nat → Bool) (W : WX) (Q : List V → Hp → Prop) (σ : L2.St) (Z : Addr → Prop) (H : Hp) (env : Env) (Fs : Nat → List Addr) : Out (List D) → Prop
  | .ok ds env' => ∀ vs H' Z' Fs' Fd, SR K mg Z' H' σ env' Fs' → Tr T Z H env Fs Z' H' env' Fs' → Reps K mg Z' H' ds vs Fd → VP none Z H Fs Z' H' Fs' Fd → Q vs H'
  | .exc c fs env' => ∀ cls dd H' Z' Fs', SR K mg Z' H' σ env' Fs' → Tr T Z H env Fs Z' H' env' Fs' → XAt K mg Z' H' c fs cls dd → W cls dd σ H'
  | .err => False
theorem ContL.step {K : PySem.W.Frag} {mg : Mg} {T T1 T2 : Nat → Bool} {Z Z1 : Addr → Prop} {H H1 : Hp} {σ : L2.St} {env env1 : Env} {Fs Fs1 : Nat → List Addr} {W : WX} {Q : List V → Hp → Prop} {o : Out (List D)} (c : ContL K mg T W Q σ Z H env Fs o) (t : Tr T1 Z H env Fs Z1 H1 env1 Fs1)
    (h : ∀ i, T i = false → T1 i = false ∧ T2 i = false) : ContL K mg T2 W Q σ Z1 H1 env1 Fs1 o := by
  cases o with
  | ok d e => exact fun v H' Z' Fs' Fd S t2 r p => c v H' Z' Fs' Fd S (t.trans t2 h) r (p.back t)
  | exc x fs e => exact fun cls dd H' Z' Fs' S t2 r => c cls dd H' Z' Fs' S (t.trans t2 h) r
  | err => exact c
def tA (K : PySem.W.Frag) (mg : Mg) (f : M (List D)) (T : Nat → Bool) (W : WX) : TA := fun σ H Q => ∃ Z env Fs, SR K mg Z H σ env Fs ∧ ContL K mg T W Q σ Z H env Fs (f env)
structure VA (X : Cx) (es : List Expr) (f : M (List D)) (T : Nat → Bool) : Prop where
  run : ∀ W, Takes X W → PA X es (tA X.K X.mg f T W)
theorem pa_imp {es : List Expr} {t t' : TA} (h : PA X es t) (q : ∀ σ H Q, t' σ H Q → t σ H Q) : PA X es t' := ⟨fun pos pins s σ H Q I w => h.run pos pins s σ H Q I (q σ H Q w)⟩
def consM (f : M D) (g : M (List D)) : M (List D) := bnd f fun d => bnd g fun ds => pur (d :: ds)
theorem va_nil : VA X [] (pur []) T0 := ⟨fun W tk => pa_imp pa_nil fun σ H Q ⟨Z, env, Fs, S, c⟩ => c [] H Z Fs [] S Tr.refl Reps.nil VP.nil⟩
theorem va_cons {es : List Expr} {g : M (List D)} (ha : VE X a fa Ta none) (hb : VA X es g Tb) (hs : starEach (a :: es) X.env = (false, eval a X.env) :: starEach es X.env := by rfl) : VA X (a :: es) (consM fa g) (tor Ta Tb) := by
  refine ⟨fun W tk => pa_imp (pa_cons (ha.run W tk) (hb.run W tk) hs) fun σ H Q ⟨Z, env, Fs, S, c⟩ => ⟨Z, env, Fs, S, ?_⟩⟩
  unfold consM bnd at c
  cases q : fa env with
  | err => rw [q] at c; exact c.elim
  | exc x fs e1 =>
    rw [q] at c
    exact fun cls dd H' Z' Fs' S' t r => c cls dd H' Z' Fs' S' (t.mono fun i q => (tor_sub i q).1) r
  | ok d e1 =>
    rw [q] at c
    simp only at c
    intro v H1 Z1 Fs1 F1 S1 t1 r1 p1
    refine ⟨Z1, e1, Fs1, S1, ?_⟩
    cases q2 : g e1 with
    | err => rw [q2] at c; exact c.elim
    | exc x fs e2 => rw [q2] at c; exact ContL.step c t1 tor_sub
    | ok ds e2 =>
      rw [q2] at c
      have c0 : ContL X.K X.mg (tor Ta Tb) W Q σ Z H env Fs (.ok (d :: ds) e2) := c
      intro vs H2 Z2 Fs2 F2 S2 t2 r2 p2
      have r1' := Rep.over S1 p1 r1 t2 (.inr fun i z => by cases z)
      have p1' := p1.over (fun a ha => r1.there a ha) t2
      have p2' := p2.back t1
      refine c0 (v :: vs) H2 Z2 Fs2 (F1 ++ F2) S2 (t1.trans t2 tor_sub) (Reps.cons r1' r2) ⟨List.nodup_append.mpr ⟨p1.1, p2.1, fun x hx y hy z => ?_⟩, fun x hx => (List.mem_append.mp hx).elim (p1'.2 x) (p2'.2 x)⟩
      subst z
      rcases (p2.2 x hy).2.2 with ⟨j, z⟩ | z
      · exact (p1.2 x hx).1 j z
      · obtain ⟨o, e⟩ := r1.there x hx
        rw [z] at e; cases e
end
end VI
/-! V5: slots taken and put, displays, calls of the program's own defs -/
namespace VI
open PySem PySem.Spec L2

def Env.drop (env : Env) (i : Nat) : Env := { env with s := env.s.set i none }
section
variable {K : PySem.W.Frag} {mg : Mg} {Z Z' Z1 Z2 : Addr → Prop} {H H' H1 H2 : Hp} {σ : L2.St} {env env' env1 env2 : Env} {Fs Fs' Fs1 Fs2 : Nat → List Addr} {T T' T1 T2 : Nat → Bool}
/-- a slot's value is taken out -/
theorem SR.drop (S : SR K mg Z H σ env Fs) (i : Nat) : SR K mg Z H σ (env.drop i) (fset Fs i []) where
  len := by simpa [Env.drop] using S.len
  rep := fun j x e => by
    by_cases hj : j = i
    · subst hj
      by_cases hl : j < env.s.length
      · rw [Env.drop, List.getElem?_set_self hl] at e; cases e
      · rw [Env.drop, List.getElem?_eq_none (by simpa using hl)] at e; cases e
    · rw [Env.drop, List.getElem?_set_ne (Ne.symm hj)] at e
      rw [fset_ne hj]
      exact S.rep j x e
  no := fun j h => by
    by_cases hj : j = i
    · subst hj; exact fset_self
    · rw [fset_ne hj]
      exact S.no j fun x q => h x (by rw [Env.drop, List.getElem?_set_ne (Ne.symm hj)]; exact q)
  nd := fun j => by
    by_cases hj : j = i
    · subst hj; rw [fset_self]; exact List.nodup_nil
    · rw [fset_ne hj]; exact S.nd j
  dj := fun j k hjk a ha q => by
    by_cases hj : j = i
    · subst hj; rw [fset_self] at ha; cases ha
    · by_cases hk : k = i
      · subst hk; rw [fset_self] at q; cases q
      · rw [fset_ne hj] at ha
        rw [fset_ne hk] at q
        exact S.dj j k hjk a ha q
  zf := fun j a ha => by
    by_cases hj : j = i
    · subst hj; rw [fset_self] at ha; cases ha
    · rw [fset_ne hj] at ha; exact S.zf j a ha
  zs := S.zs
theorem SR.apart (S : SR K mg Z H σ env Fs) (i : Nat) : ∀ a ∈ Fs i, (∀ j, a ∉ fset Fs i [] j) ∧ ¬ Z a := fun a ha => ⟨fun j q => by
  by_cases hj : j = i
  · subst hj; rw [fset_self] at q; cases q
  · rw [fset_ne hj] at q; exact S.dj j i hj a q ha, S.zf i a ha⟩
theorem Tr.drop (S : SR K mg Z H σ env Fs) (i : Nat) : Tr (T1' i) Z H env Fs Z H (env.drop i) (fset Fs i []) where
  z := fun _ h => h
  zn := fun _ h => .inl h
  keep := fun _ _ h _ => h
  gr := fun _ h => h
  new := fun j a ha => by
    by_cases hj : j = i
    · subst hj; rw [fset_self] at ha; cases ha
    · rw [fset_ne hj] at ha; exact .inl ⟨j, ha⟩
  un := fun j hj => by
    have hj' : j ≠ i := by simpa using hj
    exact ⟨by rw [Env.drop, List.getElem?_set_ne (Ne.symm hj')], fset_ne hj', fun _ _ => rfl⟩
  p := rfl
/-- a value is put into a slot; σ' has it there -/
theorem SR.put {σ' : L2.St} {i : Nat} {d : D} {v : V} {G : List Addr} (S : SR K mg Z H σ env Fs) (hi : i < env.s.length) (hl : σ'.length = σ.length) (hv : σ'[i]? = some (some v)) (ho : ∀ j, j ≠ i → σ'[j]? = σ[j]?) (r : Rep K mg Z H d v G) (nd : G.Nodup)
    (ap : ∀ a ∈ G, (∀ j, j ≠ i → a ∉ Fs j) ∧ ¬ Z a) : SR K mg Z H σ' (env.put i d) (fset Fs i G) where
  len := by rw [hl, ← S.len]; simp [Env.put]
  rep := fun j x e => by
    by_cases hj : j = i
    · subst hj
      rw [Env.put, List.getElem?_set_self hi] at e
      cases e
      exact ⟨v, hv, by rw [fset_self]; exact r⟩
    · rw [Env.put, List.getElem?_set_ne (Ne.symm hj)] at e
      rw [fset_ne hj, ho j hj]
      exact S.rep j x e
  no := fun j h => by
    by_cases hj : j = i
    · subst hj; exact absurd (List.getElem?_set_self hi) (h d)
    · rw [fset_ne hj]
      exact S.no j fun x q => h x (by rw [Env.put, List.getElem?_set_ne (Ne.symm hj)]; exact q)
  nd := fun j => by
    by_cases hj : j = i
    · subst hj; rw [fset_self]; exact nd
    · rw [fset_ne hj]; exact S.nd j
  dj := fun j k hjk a ha q => by
    by_cases hj : j = i
    · subst hj
      rw [fset_self] at ha
      rw [fset_ne (Ne.symm hjk)] at q
      exact (ap a ha).1 k (Ne.symm hjk) q
    · rw [fset_ne hj] at ha
      by_cases hk : k = i
      · subst hk; rw [fset_self] at q; exact (ap a q).1 j hj ha
      · rw [fset_ne hk] at q; exact S.dj j k hjk a ha q
  zf := fun j a ha => by
    by_cases hj : j = i
    · subst hj; rw [fset_self] at ha; exact (ap a ha).2
    · rw [fset_ne hj] at ha; exact S.zf j a ha
  zs := S.zs
theorem Tr.put {i : Nat} {d : D} {G : List Addr} (gn : ∀ a ∈ G, (∃ j, a ∈ Fs j) ∨ H a = none) : Tr (T1' i) Z H env Fs Z H (env.put i d) (fset Fs i G) where
  z := fun _ h => h
  zn := fun _ h => .inl h
  keep := fun _ _ h _ => h
  gr := fun _ h => h
  new := fun j a ha => by
    by_cases hj : j = i
    · subst hj; rw [fset_self] at ha; exact gn a ha
    · rw [fset_ne hj] at ha; exact .inl ⟨j, ha⟩
  un := fun j hj => by
    have hj' : j ≠ i := by simpa using hj
    exact ⟨by rw [Env.put, List.getElem?_set_ne (Ne.symm hj')], fset_ne hj', fun _ _ => rfl⟩
  p := rfl
end

/-- a name whose value goes on from here (or, where it was handed in, is never changed again) -/
def moveM (i : Nat) : M D := fun env => match env.s[i]? with
  | some (some d) => if d.own then (if env.p[i]? = some true then .ok d.frz (env.put i d.frz) else .ok d (env.drop i)) else .ok d env
  | _ => .err
def tupM (g : M (List D)) : M D := bnd g fun ds => if ds.length ≤ 16777216 then pur (.tup ds) else bad
def lstM (g : M (List D)) : M D := bnd g fun ds => if ds.length ≤ 16777216 then pur (.lst true ds) else bad
section
variable {X : Cx} {e a b c : Expr} {pos : Pos} {f fa fb : M D} {T Ta Tb Tc : Nat → Bool} {src sa sb : Option Nat} {es : List Expr} {g : M (List D)}
theorem ve_move {i : Nat} {x : Str} (hN : X.N[i]? = some x) (hv : Vis X.env.scope x) (hd : (x == ("__debug__" : Str)) = false := by decide) (hcd : (x == ("__classdict__" : Str)) = false := by decide) : VE X (.Name x pos) (moveM i) (T1' i) none := by
  refine ⟨fun W tk => pe_imp (pe_var hN hv hd hcd) fun σ H Q ⟨Z, env, Fs, S, c⟩ => ?_⟩
  unfold moveM at c
  split at c
  · rename_i d hd
    obtain ⟨v, h1, h2⟩ := S.rep i d hd
    refine ⟨v, h1, ?_⟩
    split at c
    · split at c
      · obtain ⟨Z', S', t, r⟩ := S.frz hd h1 h2
        exact c v H Z' _ [] S' t r VP.nil
      · exact c v H Z (fset Fs i []) (Fs i) (S.drop i) (Tr.drop S i) h2 ⟨S.nd i, fun a ha => ⟨(S.apart i a ha).1, (S.apart i a ha).2, .inl ⟨i, ha⟩⟩⟩
    · rename_i ho
      have ho : d.own = false := by simpa using ho
      have e := h2.unown ho
      rw [e] at h2
      exact c v H Z Fs [] S Tr.refl h2 VP.nil
  · exact c.elim
theorem Reps.over {K : PySem.W.Frag} {mg : Mg} {Z Z1 Z2 : Addr → Prop} {H H1 H2 : Hp} {σ : L2.St} {env1 env2 : Env} {Fs Fs1 Fs2 : Nat → List Addr} {Fd : List Addr} {ds : List D} {vs : List V} (S : SR K mg Z1 H1 σ env1 Fs1) (p : VP none Z H Fs Z1 H1 Fs1 Fd) (r : Reps K mg Z1 H1 ds vs Fd)
    (t : Tr T Z1 H1 env1 Fs1 Z2 H2 env2 Fs2) : Reps K mg Z2 H2 ds vs Fd := Reps.stay (t.stay S) r fun a ha => by
  obtain ⟨o, e⟩ := r.there a ha
  rw [e]
  exact t.keep a o e (p.2 a ha).1
theorem ve_tup {x1 : Nat} (h : VA X es g T) : VE X (.Tuple es x1 pos) (tupM g) T none := by
  refine ⟨fun W tk => pe_imp (pe_tup (h.run W tk)) fun σ H Q ⟨Z, env, Fs, S, c⟩ => ⟨Z, env, Fs, S, ?_⟩⟩
  unfold tupM bnd at c
  cases q : g env with
  | err => rw [q] at c; exact c.elim
  | exc x fs e1 => rw [q] at c; exact c
  | ok ds e1 =>
    rw [q] at c
    intro vs H1 Z1 Fs1 F1 S1 t1 r1 p1
    dsimp only at c
    split at c
    · rename_i hl
      refine ⟨by rw [r1.length, sizeLine_eq]; exact hl, fun p hp => ?_⟩
      have al : Alloc Z1 H1 (fun a => Z1 a ∨ a = p) (upd H1 p (.tup vs)) [] := Alloc.tup hp
      have t2 : Tr T0 Z1 H1 e1 Fs1 _ _ e1 Fs1 := Tr.alloc S1 al
      refine c (.ref p) _ _ Fs1 F1 (S1.alloc al) (t1.trans t2 fun i q => ⟨q, rfl⟩) ?_ (p1.over r1.there t2)
      simp only [Rep]
      exact ⟨p, vs, rfl, .inl ⟨.inr rfl, .inl upd_same⟩, r1.over S1 p1 t2⟩
    · exact c.elim
theorem ve_lst (h : VA X es g T) : VE X (.List es pos) (lstM g) T none := by
  refine ⟨fun W tk => pe_imp (pe_lst (h.run W tk)) fun σ H Q ⟨Z, env, Fs, S, c⟩ => ⟨Z, env, Fs, S, ?_⟩⟩
  unfold lstM bnd at c
  cases q : g env with
  | err => rw [q] at c; exact c.elim
  | exc x fs e1 => rw [q] at c; exact c
  | ok ds e1 =>
    rw [q] at c
    intro vs H1 Z1 Fs1 F1 S1 t1 r1 p1
    dsimp only at c
    split at c
    · rename_i hl
      refine ⟨by rw [r1.length, sizeLine_eq]; exact hl, fun p hp => ?_⟩
      have al : Alloc Z1 H1 Z1 (upd H1 p (.lst vs)) [p] := Alloc.own hp S1.zs
      have t2 : Tr T0 Z1 H1 e1 Fs1 _ _ e1 Fs1 := Tr.alloc S1 al
      have p2 := p1.over r1.there t2
      refine c (.ref p) _ _ Fs1 (p :: F1) (S1.alloc al) (t1.trans t2 fun i q => ⟨q, rfl⟩) ?_ ⟨List.nodup_cons.mpr ⟨fun z => ?_, p2.1⟩, fun x hx => ?_⟩
      · simp only [Rep]
        exact ⟨p, vs, F1, rfl, upd_same, r1.over S1 p1 t2, rfl⟩
      · obtain ⟨o, e⟩ := r1.there p z
        rw [hp] at e; cases e
      · rcases List.mem_cons.mp hx with rfl | hx
        · exact ⟨fun i z => absurd (S1.tr z) (fun ⟨o, e⟩ => by
            rw [hp] at e
            cases e), (al.fd x (by simp)).2, .inr (t1.gr x hp)⟩
        · exact p2.2 x hx
    · exact c.elim
end

/-! ### calls of the program's own defs -/
inductive CRes where
  | ok (d : D) (fin : List D)
  | exc (c : Str) (fs : List (Str × D)) (fin : List D)
  | err
/-- the program's defs by their names -/
abbrev Phi := Str → List D → CRes
def envOf (ds : List D) : Env := ⟨ds.map some, []⟩
/-- a def's promise -/
def spOf (K : PySem.W.Frag) (mg : Mg) (np : Nat) (φ : List D → CRes) : Sp := fun vs H Q E => vs.length = np ∧ ∃ Z ds Gs, SR K mg Z H (vs.map some) (envOf ds) Gs ∧
  match φ ds with
  | .ok d fin => ∀ v H' Z' Gs' Fd, SR K mg Z' H' (vs.map some) (envOf fin) Gs' → Tr (fun _ => true) Z H (envOf ds) Gs Z' H' (envOf fin) Gs' → Rep K mg Z' H' d v Fd → VP none Z H Gs Z' H' Gs' Fd → Q v H'
  | .exc c fs fin => ∀ cls dd H' Z' Gs', SR K mg Z' H' (vs.map some) (envOf fin) Gs' → Tr (fun _ => true) Z H (envOf ds) Gs Z' H' (envOf fin) Gs' → XAt K mg Z' H' c fs cls dd → E cls dd H'
  | .err => False

/-- an argument: a value, or a name, whose value is handed in as it is -/
inductive Arg where
  | v (d : D) | n (i : Nat)
section
variable (K : PySem.W.Frag) (mg : Mg) (Z : Addr → Prop) (H : Hp) (σ : L2.St)
def AReps : List Arg → List V → List Addr → Prop
  | [], vs, F => vs = [] ∧ F = []
  | .v d :: as, vs, F => ∃ v r F1 F2, vs = v :: r ∧ Rep K mg Z H d v F1 ∧ AReps as r F2 ∧ F = F1 ++ F2
  | .n i :: as, vs, F => ∃ v r, vs = v :: r ∧ σ[i]? = some (some v) ∧ AReps as r F
end
theorem AReps.there {K : PySem.W.Frag} {mg : Mg} {Z : Addr → Prop} {H : Hp} {σ : L2.St} : ∀ {as : List Arg} {vs : List V} {F : List Addr}, AReps K mg Z H σ as vs F → ∀ a ∈ F, ∃ o, H a = some o
  | [], _, _, h => by
    simp only [AReps] at h
    simp [h.2]
  | .v d :: as, vs, F, h => by
    simp only [AReps] at h
    obtain ⟨v, r, F1, F2, e, a, b, f⟩ := h
    subst f
    exact fun c hc => (List.mem_append.mp hc).elim (Rep.there a c) (AReps.there b c)
  | .n i :: as, vs, F, h => by
    simp only [AReps] at h
    obtain ⟨v, r, e, a, b⟩ := h
    exact AReps.there b
theorem AReps.stay {K : PySem.W.Frag} {mg : Mg} {Z Z' : Addr → Prop} {H H' : Hp} {σ : L2.St} (s : Stay Z Z' H H') : ∀ {as : List Arg} {vs : List V} {F : List Addr}, AReps K mg Z H σ as vs F → (∀ a ∈ F, H' a = H a) → AReps K mg Z' H' σ as vs F
  | [], _, _, h, _ => by simpa only [AReps] using h
  | .v d :: as, vs, F, h, k => by
    simp only [AReps] at h ⊢
    obtain ⟨v, r, F1, F2, e, a, b, f⟩ := h
    subst f
    exact ⟨v, r, F1, F2, e, Rep.stay s a fun c hc => k c (by simp [hc]), AReps.stay s b fun c hc => k c (by simp [hc]), rfl⟩
  | .n i :: as, vs, F, h, k => by
    simp only [AReps] at h ⊢
    obtain ⟨v, r, e, a, b⟩ := h
    exact ⟨v, r, e, a, AReps.stay s b k⟩
def ContA (K : PySem.W.Frag) (mg : Mg) (T : Nat → Bool) (W : WX) (Q : List V → Hp → Prop) (σ : L2.St) (Z : Addr → Prop) (H : Hp) (env : Env) (Fs : Nat → List Addr) : Out (List Arg) → Prop
  | .ok as env' => ∀ vs H' Z' Fs' Fd, SR K mg Z' H' σ env' Fs' → Tr T Z H env Fs Z' H' env' Fs' → AReps K mg Z' H' σ as vs Fd → VP none Z H Fs Z' H' Fs' Fd → Q vs H'
  | .exc c fs env' => ∀ cls dd H' Z' Fs', SR K mg Z' H' σ env' Fs' → Tr T Z H env Fs Z' H' env' Fs' → XAt K mg Z' H' c fs cls dd → W cls dd σ H'
  | .err => False
theorem ContA.step {K : PySem.W.Frag} {mg : Mg} {T T1 T2 : Nat → Bool} {Z Z1 : Addr → Prop} {H H1 : Hp} {σ : L2.St} {env env1 : Env} {Fs Fs1 : Nat → List Addr} {W : WX} {Q : List V → Hp → Prop} {o : Out (List Arg)} (c : ContA K mg T W Q σ Z H env Fs o) (t : Tr T1 Z H env Fs Z1 H1 env1 Fs1)
    (h : ∀ i, T i = false → T1 i = false ∧ T2 i = false) : ContA K mg T2 W Q σ Z1 H1 env1 Fs1 o := by
  cases o with
  | ok d e => exact fun v H' Z' Fs' Fd S t2 r p => c v H' Z' Fs' Fd S (t.trans t2 h) r (p.back t)
  | exc x fs e => exact fun cls dd H' Z' Fs' S t2 r => c cls dd H' Z' Fs' S (t.trans t2 h) r
  | err => exact c
def tG (K : PySem.W.Frag) (mg : Mg) (f : M (List Arg)) (T : Nat → Bool) (W : WX) : TA := fun σ H Q => ∃ Z env Fs, SR K mg Z H σ env Fs ∧ ContA K mg T W Q σ Z H env Fs (f env)
/-- the slots of the names among the arguments -/
def namesA : List Arg → Nat → Bool
  | [], _ => false
  | .v _ :: as, j => namesA as j
  | .n i :: as, j => j == i || namesA as j
/-- arguments of a call of a def -/
structure VG (X : Cx) (es : List Expr) (f : M (List Arg)) (T : Nat → Bool) : Prop where
  run : ∀ W, Takes X W → PA X es (tG X.K X.mg f T W)
  nm : ∀ env as e', f env = .ok as e' → ∀ j, T j = false → namesA as j = false
def argM (f : M D) (g : M (List Arg)) : M (List Arg) := bnd f fun d => bnd g fun ds => pur (.v d :: ds)
def narM (i : Nat) (g : M (List Arg)) : M (List Arg) := fun env => match env.s[i]? with
  | some (some _) => (bnd g fun ds => pur (.n i :: ds)) env
  | _ => .err
section
variable {X : Cx} {e a b c : Expr} {pos : Pos} {f fa fb : M D} {T Ta Tb Tc : Nat → Bool} {es : List Expr} {g : M (List Arg)}
theorem vg_nil : VG X [] (pur []) T0 := ⟨fun W tk => pa_imp pa_nil fun σ H Q ⟨Z, env, Fs, S, c⟩ => c [] H Z Fs [] S Tr.refl (by simp [AReps]) VP.nil, fun env as e' h j _ => by
  simp only [pur, Out.ok.injEq] at h
  rw [← h.1]
  rfl⟩
theorem vg_cons (ha : VE X a fa Ta none) (hb : VG X es g Tb) (hs : starEach (a :: es) X.env = (false, eval a X.env) :: starEach es X.env := by rfl) : VG X (a :: es) (argM fa g) (tor Ta Tb) := by
  refine ⟨fun W tk => pa_imp (pa_cons (ha.run W tk) (hb.run W tk) hs) fun σ H Q ⟨Z, env, Fs, S, c⟩ => ⟨Z, env, Fs, S, ?_⟩, fun env as e' h j hj => ?_⟩
  rotate_left
  · unfold argM bnd at h
    cases q : fa env with
    | err => rw [q] at h; cases h
    | exc x fs e1 => rw [q] at h; cases h
    | ok d e1 =>
      rw [q] at h
      dsimp only at h
      cases q2 : g e1 with
      | err => rw [q2] at h; cases h
      | exc x fs e2 => rw [q2] at h; cases h
      | ok ds e2 =>
        rw [q2] at h
        simp only [pur, Out.ok.injEq] at h
        rw [← h.1]
        exact hb.nm e1 ds e2 q2 j (tor_sub j hj).2
  unfold argM bnd at c
  cases q : fa env with
  | err => rw [q] at c; exact c.elim
  | exc x fs e1 =>
    rw [q] at c
    exact fun cls dd H' Z' Fs' S' t r => c cls dd H' Z' Fs' S' (t.mono fun i q => (tor_sub i q).1) r
  | ok d e1 =>
    rw [q] at c
    simp only at c
    intro v H1 Z1 Fs1 F1 S1 t1 r1 p1
    refine ⟨Z1, e1, Fs1, S1, ?_⟩
    cases q2 : g e1 with
    | err => rw [q2] at c; exact c.elim
    | exc x fs e2 => rw [q2] at c; exact ContA.step c t1 tor_sub
    | ok ds e2 =>
      rw [q2] at c
      have c0 : ContA X.K X.mg (tor Ta Tb) W Q σ Z H env Fs (.ok (.v d :: ds) e2) := c
      intro vs H2 Z2 Fs2 F2 S2 t2 r2 p2
      have r1' := Rep.over S1 p1 r1 t2 (.inr fun i z => by cases z)
      have p1' := p1.over (fun a ha => r1.there a ha) t2
      have p2' := p2.back t1
      refine c0 (v :: vs) H2 Z2 Fs2 (F1 ++ F2) S2 (t1.trans t2 tor_sub) (by simp only [AReps]; exact ⟨v, vs, F1, F2, rfl, r1', r2, rfl⟩) ⟨List.nodup_append.mpr ⟨p1.1, p2.1, fun x hx y hy z => ?_⟩, fun x hx => (List.mem_append.mp hx).elim (p1'.2 x) (p2'.2 x)⟩
      subst z
      rcases (p2.2 x hy).2.2 with ⟨j, z⟩ | z
      · exact (p1.2 x hx).1 j z
      · obtain ⟨o, e⟩ := r1.there x hx
        rw [z] at e; cases e
theorem vg_name {i : Nat} {x : Str} {p : Pos} (hN : X.N[i]? = some x) (hv : Vis X.env.scope x) (hb : VG X es g Tb) (hd : (x == ("__debug__" : Str)) = false := by decide) (hcd : (x == ("__classdict__" : Str)) = false := by decide)
    (hs : starEach (.Name x p :: es) X.env = (false, eval (.Name x p) X.env) :: starEach es X.env := by rfl) : VG X (.Name x p :: es) (narM i g) (tor (T1' i) Tb) := by
  refine ⟨fun W tk => pa_imp (pa_cons (pe_var hN hv hd hcd) (hb.run W tk) hs) fun σ H Q ⟨Z, env, Fs, S, c⟩ => ?_, fun env as e' h j hj => ?_⟩
  rotate_left
  · unfold narM bnd at h
    split at h
    · cases q2 : g env with
      | err => rw [q2] at h; cases h
      | exc x fs e2 => rw [q2] at h; cases h
      | ok ds e2 =>
        rw [q2] at h
        simp only [pur, Out.ok.injEq] at h
        rw [← h.1]
        simp only [namesA, Bool.or_eq_false_iff]
        exact ⟨(tor_sub j hj).1, hb.nm env ds e2 q2 j (tor_sub j hj).2⟩
    · cases h
  unfold narM bnd at c
  split at c
  · rename_i d hd
    obtain ⟨v, h1, h2⟩ := S.rep i d hd
    refine ⟨v, h1, Z, env, Fs, S, ?_⟩
    cases q2 : g env with
    | err => rw [q2] at c; exact c.elim
    | exc x fs e2 =>
      rw [q2] at c
      exact fun cls dd H' Z' Fs' S' t r => c cls dd H' Z' Fs' S' (t.mono fun i q => (tor_sub i q).2) r
    | ok ds e2 =>
      rw [q2] at c
      intro vs H2 Z2 Fs2 F2 S2 t2 r2 p2
      exact c (v :: vs) H2 Z2 Fs2 F2 S2 (t2.mono fun i q => (tor_sub i q).2) (by simp only [AReps]; exact ⟨v, vs, rfl, h1, r2⟩) p2
  · exact c.elim
end
end VI
/-! V6: the call of a def -/
namespace VI
open PySem PySem.Spec L2

/-- the values handed in; a name's, that may be changed, is taken out of its slot meanwhile -/
def takeA : List Arg → Env → Option (List D × Env)
  | [], env => some ([], env)
  | .v d :: as, env => match takeA as env with
    | some (ds, e) => some (d :: ds, e)
    | none => none
  | .n i :: as, env => match env.s[i]? with
    | some (some d) => if d.own then (match takeA as (env.drop i) with
      | some (ds, e) => some (d :: ds, e)
      | none => none) else (match takeA as env with
      | some (ds, e) => some (d :: ds, e)
      | none => none)
    | _ => none
/-- .. and put back -/
def backA : List Arg → List D → List D → Env → Env
  | .n i :: as, d :: ds, f :: fs, env => if d.own then (backA as ds fs env).put i f else backA as ds fs env
  | .v _ :: as, _ :: ds, _ :: fs, env => backA as ds fs env
  | _, _, _, env => env
def callM (φ : List D → CRes) (g : M (List Arg)) : M D := bnd g fun as env => match takeA as env with
  | none => .err
  | some (ds, e1) => match φ ds with
    | .ok d fin => .ok d (backA as ds fin e1)
    | .exc c fs fin => .exc c fs (backA as ds fin e1)
    | .err => .err
section
variable {K : PySem.W.Frag} {mg : Mg} {Z Z' Z1 Z2 : Addr → Prop} {H H' H1 H2 : Hp} {σ : L2.St} {env env' env1 env2 : Env} {Fs Fs' Fs1 Fs2 : Nat → List Addr} {T T' T1 T2 : Nat → Bool}
/-- the handed in values, one by one, each with its own things -/
def ARs (K : PySem.W.Frag) (mg : Mg) (Z : Addr → Prop) (H : Hp) : List D → List V → List (List Addr) → Prop
  | [], vs, L => vs = [] ∧ L = []
  | d :: ds, vs, L => ∃ v r F M, vs = v :: r ∧ L = F :: M ∧ Rep K mg Z H d v F ∧ ARs K mg Z H ds r M
def lget (L : List (List Addr)) (k : Nat) : List Addr := L.getD k []
theorem mem_lget {L : List (List Addr)} {k : Nat} {a : Addr} (h : a ∈ lget L k) : a ∈ L.flatten := by
  unfold lget at h
  rw [List.getD_eq_getElem?_getD] at h
  cases e : L[k]? with
  | none => rw [e] at h; simp at h
  | some G =>
    rw [e] at h
    exact List.mem_flatten.mpr ⟨G, List.mem_of_getElem? e, h⟩
theorem lget_apart : ∀ {L : List (List Addr)}, L.flatten.Nodup → ∀ {i j : Nat} {a : Addr}, i ≠ j → a ∈ lget L i → a ∉ lget L j
  | [], _, i, j, a, _, h => by simp [lget] at h
  | F :: L, n, i, j, a, ne, h => by
    rw [List.flatten_cons, List.nodup_append] at n
    obtain ⟨n1, n2, n3⟩ := n
    cases i with
    | zero =>
      cases j with
      | zero => exact absurd rfl ne
      | succ j =>
        have h0 : a ∈ F := by simpa [lget] using h
        intro q
        have q' : a ∈ lget L j := by simpa [lget] using q
        exact n3 a h0 a (mem_lget q') rfl
    | succ i =>
      have h' : a ∈ lget L i := by simpa [lget] using h
      cases j with
      | zero =>
        intro q
        have q0 : a ∈ F := by simpa [lget] using q
        exact n3 a q0 a (mem_lget h') rfl
      | succ j =>
        intro q
        have q' : a ∈ lget L j := by simpa [lget] using q
        exact lget_apart n2 (fun e => ne (by rw [e])) h' q'
theorem lget_nodup : ∀ {L : List (List Addr)}, L.flatten.Nodup → ∀ k, (lget L k).Nodup
  | [], _, k => by simp [lget]
  | F :: L, n, k => by
    rw [List.flatten_cons, List.nodup_append] at n
    cases k with
    | zero => simpa [lget] using n.1
    | succ k => simpa [lget] using lget_nodup n.2.1 k
theorem ARs.get : ∀ {ds : List D} {vs : List V} {L : List (List Addr)}, ARs K mg Z H ds vs L → ∀ {k : Nat} {d : D}, ds[k]? = some d → ∃ v, vs[k]? = some v ∧ Rep K mg Z H d v (lget L k)
  | [], _, _, _, _, _, e => by simp at e
  | x :: ds, vs, L, h, k, d, e => by
    simp only [ARs] at h
    obtain ⟨v, r, F, M, h1, h2, h3, h4⟩ := h
    subst h1 h2
    cases k with
    | zero =>
      simp only [List.getElem?_cons_zero, Option.some.injEq] at e
      subst e
      exact ⟨v, rfl, by simpa [lget] using h3⟩
    | succ k =>
      obtain ⟨u, u1, u2⟩ := ARs.get h4 (k := k) (d := d) (by simpa using e)
      exact ⟨u, by simpa using u1, by simpa [lget] using u2⟩
theorem ARs.length : ∀ {ds : List D} {vs : List V} {L : List (List Addr)}, ARs K mg Z H ds vs L → vs.length = ds.length ∧ L.length = ds.length
  | [], _, _, h => by
    simp only [ARs] at h
    simp [h.1, h.2]
  | x :: ds, vs, L, h => by
    simp only [ARs] at h
    obtain ⟨v, r, F, M, h1, h2, h3, h4⟩ := h
    subst h1 h2
    simp [(ARs.length h4).1, (ARs.length h4).2]
theorem ARs.sr {ds : List D} {vs : List V} {L : List (List Addr)} (h : ARs K mg Z H ds vs L) (n : L.flatten.Nodup) (z : ∀ a ∈ L.flatten, ¬ Z a) (zs : ∀ a, Z a → ∃ o, H a = some o) : SR K mg Z H (vs.map some) (envOf ds) (lget L) where
  len := by simp [envOf, h.length.1]
  rep := fun k d e => by
    have e' : ds[k]? = some d := by
      simp only [envOf, List.getElem?_map] at e
      cases q : ds[k]? with
      | none => rw [q] at e; cases e
      | some x => rw [q] at e; simpa using e
    obtain ⟨v, h1, h2⟩ := h.get e'
    exact ⟨v, by simp [h1], h2⟩
  no := fun k hk => by
    by_cases q : k < ds.length
    · exact absurd (by simp [envOf, q]) (hk (ds[k]))
    · unfold lget
      rw [List.getD_eq_getElem?_getD, List.getElem?_eq_none (by rw [h.length.2]; omega)]
      rfl
  nd := lget_nodup n
  dj := fun i j ne a ha => lget_apart n ne ha
  zf := fun i a ha => z a (mem_lget ha)
  zs := zs
/-- the values are taken out -/
theorem take_ok : ∀ {as : List Arg} {vs : List V} {F : List Addr} {env : Env} {Fs : Nat → List Addr} {ds : List D} {e1 : Env}, SR K mg Z H σ env Fs → AReps K mg Z H σ as vs F → F.Nodup → (∀ a ∈ F, (∀ i, a ∉ Fs i) ∧ ¬ Z a) → takeA as env = some (ds, e1) →
    ∃ L Fs1, SR K mg Z H σ e1 Fs1 ∧ ARs K mg Z H ds vs L ∧ L.flatten.Nodup ∧ (∀ a ∈ L.flatten, (∀ i, a ∉ Fs1 i) ∧ ¬ Z a ∧ (a ∈ F ∨ ∃ i, a ∈ Fs i)) ∧ (∀ i, namesA as i = false → e1.s[i]? = env.s[i]? ∧ Fs1 i = Fs i) ∧ (∀ i, ∀ a ∈ Fs1 i, a ∈ Fs i) ∧ e1.p = env.p ∧ e1.s.length = env.s.length ∧ (∀ i, Fs1 i = Fs i ∨ Fs1 i = [])
  | [], vs, F, env, Fs, ds, e1, S, r, n, ap, h => by
    simp only [takeA, Option.some.injEq, Prod.mk.injEq] at h
    obtain ⟨rfl, rfl⟩ := h
    simp only [AReps] at r
    obtain ⟨rfl, rfl⟩ := r
    exact ⟨[], Fs, S, by simp [ARs], by simp, by simp, fun i _ => ⟨rfl, rfl⟩, fun _ _ h => h, rfl, rfl, fun _ => .inl rfl⟩
  | .v d :: as, vs, F, env, Fs, ds, e1, S, r, n, ap, h => by
    simp only [AReps] at r
    obtain ⟨v, vr, F1, F2, rfl, r1, r2, rfl⟩ := r
    rw [List.nodup_append] at n
    obtain ⟨n1, n2, n3⟩ := n
    simp only [takeA] at h
    cases q : takeA as env with
    | none => rw [q] at h; cases h
    | some p =>
      obtain ⟨ds', e'⟩ := p
      rw [q] at h
      simp only [Option.some.injEq, Prod.mk.injEq] at h
      obtain ⟨rfl, rfl⟩ := h
      obtain ⟨L, Fs1, S1, A1, N1, P1, U1, B1, pp, ll, oo⟩ := take_ok S r2 n2 (fun a ha => ap a (by simp [ha])) q
      refine ⟨F1 :: L, Fs1, S1, by simp only [ARs]; exact ⟨v, vr, F1, L, rfl, rfl, r1, A1⟩, ?_, fun a ha => ?_, fun i hi => U1 i (by simpa [namesA] using hi), B1, pp, ll, oo⟩
      · rw [List.flatten_cons, List.nodup_append]
        refine ⟨n1, N1, fun x hx y hy e => ?_⟩
        subst e
        rcases (P1 x hy).2.2 with z | ⟨i, z⟩
        · exact n3 x hx x z rfl
        · exact (ap x (by simp [hx])).1 i z
      · rw [List.flatten_cons] at ha
        rcases List.mem_append.mp ha with ha | ha
        · exact ⟨fun i q => (ap a (by simp [ha])).1 i (B1 i a q), (ap a (by simp [ha])).2, .inl (by simp [ha])⟩
        · obtain ⟨x1, x2, x3⟩ := P1 a ha
          exact ⟨x1, x2, x3.elim (fun q => .inl (by simp [q])) .inr⟩
  | .n i :: as, vs, F, env, Fs, ds, e1, S, r, n, ap, h => by
    simp only [AReps] at r
    obtain ⟨v, vr, rfl, hv, r2⟩ := r
    simp only [takeA] at h
    split at h
    · rename_i d hd
      obtain ⟨v', h1, h2⟩ := S.rep i d hd
      rw [hv] at h1
      simp only [Option.some.injEq] at h1
      subst h1
      split at h
      · cases q : takeA as (env.drop i) with
        | none => rw [q] at h; cases h
        | some p =>
          obtain ⟨ds', e'⟩ := p
          rw [q] at h
          simp only [Option.some.injEq, Prod.mk.injEq] at h
          obtain ⟨rfl, rfl⟩ := h
          have apd : ∀ a ∈ F, (∀ j, a ∉ fset Fs i [] j) ∧ ¬ Z a := fun a ha => ⟨fun j z => by
            by_cases hj : j = i
            · subst hj; rw [fset_self] at z; cases z
            · rw [fset_ne hj] at z; exact (ap a ha).1 j z, (ap a ha).2⟩
          obtain ⟨L, Fs1, S1, A1, N1, P1, U1, B1, pp, ll, oo⟩ := take_ok (S.drop i) r2 n apd q
          have sub : ∀ j, ∀ a ∈ Fs1 j, a ∈ Fs j ∧ j ≠ i := fun j a ha => by
            have z := B1 j a ha
            by_cases hj : j = i
            · subst hj; rw [fset_self] at z; cases z
            · rw [fset_ne hj] at z; exact ⟨z, hj⟩
          refine ⟨Fs i :: L, Fs1, S1, by simp only [ARs]; exact ⟨v, vr, Fs i, L, rfl, rfl, h2, A1⟩, ?_, fun a ha => ?_, fun j hj => ?_, fun j a ha => (sub j a ha).1, pp, by rw [ll]; simp [Env.drop], fun j => ?_⟩
          · rw [List.flatten_cons, List.nodup_append]
            refine ⟨S.nd i, N1, fun x hx y hy e => ?_⟩
            subst e
            rcases (P1 x hy).2.2 with z | ⟨j, z⟩
            · exact (ap x z).1 i hx
            · exact (S.apart i x hx).1 j z
          · rw [List.flatten_cons] at ha
            rcases List.mem_append.mp ha with ha | ha
            · exact ⟨fun j q => S.dj i j (fun e => (sub j a q).2 e.symm) a ha (sub j a q).1, S.zf i a ha, .inr ⟨i, ha⟩⟩
            · obtain ⟨x1, x2, x3⟩ := P1 a ha
              refine ⟨x1, x2, x3.elim .inl fun ⟨j, q⟩ => .inr ⟨j, ?_⟩⟩
              by_cases hj : j = i
              · subst hj; rw [fset_self] at q; cases q
              · rw [fset_ne hj] at q; exact q
          · simp only [namesA, Bool.or_eq_false_iff, beq_eq_false_iff_ne, ne_eq] at hj
            obtain ⟨u1, u2⟩ := U1 j hj.2
            rw [u1, u2, Env.drop, List.getElem?_set_ne (Ne.symm hj.1), fset_ne hj.1]
            exact ⟨rfl, rfl⟩
          · rcases oo j with z | z
            · by_cases hj : j = i
              · subst hj; rw [fset_self] at z; exact .inr z
              · rw [fset_ne hj] at z; exact .inl z
            · exact .inr z
      · rename_i ho
        have ho : d.own = false := by simpa using ho
        have e0 := h2.unown ho
        cases q : takeA as env with
        | none => rw [q] at h; cases h
        | some p =>
          obtain ⟨ds', e'⟩ := p
          rw [q] at h
          simp only [Option.some.injEq, Prod.mk.injEq] at h
          obtain ⟨rfl, rfl⟩ := h
          obtain ⟨L, Fs1, S1, A1, N1, P1, U1, B1, pp, ll, oo⟩ := take_ok S r2 n ap q
          rw [e0] at h2
          refine ⟨[] :: L, Fs1, S1, by simp only [ARs]; exact ⟨v, vr, [], L, rfl, rfl, h2, A1⟩, by simpa using N1, fun a ha => P1 a (by simpa using ha), fun j hj => ?_, B1, pp, ll, oo⟩
          simp only [namesA, Bool.or_eq_false_iff] at hj
          exact U1 j hj.2
    · cases h
theorem back_len : ∀ {as : List Arg} {ds fin : List D} {env : Env}, (backA as ds fin env).s.length = env.s.length ∧ (backA as ds fin env).p = env.p
  | [], _, _, _ => by simp [backA]
  | .v _ :: as, [], _, _ => by simp [backA]
  | .v _ :: as, _ :: _, [], _ => by simp [backA]
  | .v _ :: as, _ :: ds, _ :: fs, env => by
    simp only [backA]
    exact back_len
  | .n _ :: as, [], _, _ => by simp [backA]
  | .n _ :: as, _ :: _, [], _ => by simp [backA]
  | .n i :: as, d :: ds, f :: fs, env => by
    simp only [backA]
    have := back_len (as := as) (ds := ds) (fin := fs) (env := env)
    split
    · exact ⟨by simp [Env.put, this.1], this.2⟩
    · exact this
theorem back_un : ∀ {as : List Arg} {ds fin : List D} {env : Env} {i : Nat}, namesA as i = false → (backA as ds fin env).s[i]? = env.s[i]?
  | [], _, _, _, _, _ => by simp [backA]
  | .v _ :: as, [], _, _, _, _ => by simp [backA]
  | .v _ :: as, _ :: _, [], _, _, _ => by simp [backA]
  | .v _ :: as, _ :: ds, _ :: fs, env, i, h => by
    simp only [backA]
    exact back_un (by simpa [namesA] using h)
  | .n _ :: as, [], _, _, _, _ => by simp [backA]
  | .n _ :: as, _ :: _, [], _, _, _ => by simp [backA]
  | .n j :: as, d :: ds, f :: fs, env, i, h => by
    simp only [namesA, Bool.or_eq_false_iff, beq_eq_false_iff_ne, ne_eq] at h
    simp only [backA]
    have q := back_un (as := as) (ds := ds) (fin := fs) (env := env) h.2
    split
    · rw [Env.put, List.getElem?_set_ne (Ne.symm h.1)]
      exact q
    · exact q
/-- what a call leaves alone -/
theorem SR.frame {τ : L2.St} {Gs Gs' : Nat → List Addr} {ed ed' : Env} (S : SR K mg Z H σ env Fs) (C : SR K mg Z H τ ed Gs) (t : Tr T Z H ed Gs Z' H' ed' Gs') (ap : ∀ i, ∀ a ∈ Fs i, ∀ j, a ∉ Gs j) (zs : ∀ a, Z' a → ∃ o, H' a = some o) : SR K mg Z' H' σ env Fs :=
  ⟨S.len, fun i d e => by
    obtain ⟨v, h1, h2⟩ := S.rep i d e
    exact ⟨v, h1, h2.stay (t.stay C) fun a ha => by
      obtain ⟨o, e⟩ := S.tr ha
      rw [e]
      exact t.keep a o e (ap i a ha)⟩, S.no, S.nd, S.dj, (fun i a ha z => by
    rcases t.zn a z with q | ⟨j, q⟩ | q
    · exact S.zf i a ha q
    · exact ap i a ha j q
    · obtain ⟨o, e⟩ := S.tr ha
      rw [q] at e; cases e), zs⟩
/-- the names among the arguments hold these values -/
def AVs (σ : L2.St) : List Arg → List V → Prop
  | [], vs => vs = []
  | .v _ :: as, vs => ∃ v r, vs = v :: r ∧ AVs σ as r
  | .n i :: as, vs => ∃ v r, vs = v :: r ∧ σ[i]? = some (some v) ∧ AVs σ as r
theorem AReps.avs : ∀ {as : List Arg} {vs : List V} {F : List Addr}, AReps K mg Z H σ as vs F → AVs σ as vs
  | [], _, _, h => by
    simp only [AReps] at h
    exact h.1
  | .v d :: as, vs, F, h => by
    simp only [AReps] at h
    obtain ⟨v, r, F1, F2, e, a, b, f⟩ := h
    exact ⟨v, r, e, b.avs⟩
  | .n i :: as, vs, F, h => by
    simp only [AReps] at h
    obtain ⟨v, r, e, a, b⟩ := h
    exact ⟨v, r, e, a, b.avs⟩
/-- the values are put back -/
theorem back_ok : ∀ {as : List Arg} {ds fin : List D} {vs : List V} {G : Nat → List Addr}, AVs σ as vs → SR K mg Z H (vs.map some) (envOf fin) G → SR K mg Z H σ env Fs → (∀ m, ∀ a ∈ G m, ∀ i, a ∉ Fs i) →
    ∃ Fs2, SR K mg Z H σ (backA as ds fin env) Fs2 ∧ (∀ j, ∀ a ∈ Fs2 j, a ∈ Fs j ∨ ∃ m, a ∈ G m) ∧ ∀ j, namesA as j = false → Fs2 j = Fs j
  | [], _, _, _, _, _, _, S, _ => ⟨Fs, by simpa [backA] using S, fun _ _ h => .inl h, fun _ _ => rfl⟩
  | .v _ :: as, [], _, _, _, _, _, S, _ => ⟨Fs, by simpa [backA] using S, fun _ _ h => .inl h, fun _ _ => rfl⟩
  | .v _ :: as, _ :: _, [], _, _, _, _, S, _ => ⟨Fs, by simpa [backA] using S, fun _ _ h => .inl h, fun _ _ => rfl⟩
  | .n _ :: as, [], _, _, _, _, _, S, _ => ⟨Fs, by simpa [backA] using S, fun _ _ h => .inl h, fun _ _ => rfl⟩
  | .n _ :: as, _ :: _, [], _, _, _, _, S, _ => ⟨Fs, by simpa [backA] using S, fun _ _ h => .inl h, fun _ _ => rfl⟩
  | .v d :: as, _ :: ds, f :: fs, vs, G, h, C, S, ap => by
    obtain ⟨v, r, rfl, h⟩ := h
    have C' : SR K mg Z H (r.map some) (envOf fs) (fun m => G (m + 1)) :=
      ⟨by simpa [envOf] using C.len, fun i d e => C.rep (i + 1) d (by simpa [envOf] using e), fun i q => C.no (i + 1) fun d z => q d (by simpa [envOf] using z), fun i => C.nd (i + 1), fun i j ne => C.dj (i + 1) (j + 1) (by omega), fun i => C.zf (i + 1), C.zs⟩
    obtain ⟨Fs2, S2, B2, U2⟩ := back_ok (ds := ds) h C' S fun m a ha => ap (m + 1) a ha
    exact ⟨Fs2, by simpa [backA] using S2, fun j a ha => (B2 j a ha).elim .inl fun ⟨m, q⟩ => .inr ⟨m + 1, q⟩, fun j hj => U2 j (by simpa [namesA] using hj)⟩
  | .n i :: as, d :: ds, f :: fs, vs, G, h, C, S, ap => by
    obtain ⟨v, r, rfl, hv, h⟩ := h
    have C' : SR K mg Z H (r.map some) (envOf fs) (fun m => G (m + 1)) :=
      ⟨by simpa [envOf] using C.len, fun i d e => C.rep (i + 1) d (by simpa [envOf] using e), fun i q => C.no (i + 1) fun d z => q d (by simpa [envOf] using z), fun i => C.nd (i + 1), fun i j ne => C.dj (i + 1) (j + 1) (by omega), fun i => C.zf (i + 1), C.zs⟩
    obtain ⟨Fs2, S2, B2, U2⟩ := back_ok (ds := ds) h C' S fun m a ha => ap (m + 1) a ha
    by_cases ho : d.own = true
    · obtain ⟨v', e1, r1⟩ := C.rep 0 f (by simp [envOf])
      have e1 : v = v' := by simpa using e1
      subst e1
      have hi : i < (backA as ds fs env).s.length := by
        rw [S2.len]
        exact (List.getElem?_eq_some_iff.mp hv).1
      refine ⟨fset Fs2 i (G 0), ?_, fun j a ha => ?_, fun j hj => ?_⟩
      · simp only [backA, ho, if_true]
        refine S2.put hi rfl hv (fun _ _ => rfl) r1 (C.nd 0) fun a ha => ⟨fun j _ q => ?_, C.zf 0 a ha⟩
        rcases B2 j a q with q | ⟨m, q⟩
        · exact ap 0 a ha j q
        · exact C.dj 0 (m + 1) (by omega) a ha q
      · by_cases hj : j = i
        · subst hj; rw [fset_self] at ha; exact .inr ⟨0, ha⟩
        · rw [fset_ne hj] at ha
          exact (B2 j a ha).elim .inl fun ⟨m, q⟩ => .inr ⟨m + 1, q⟩
      · simp only [namesA, Bool.or_eq_false_iff, beq_eq_false_iff_ne, ne_eq] at hj
        rw [fset_ne hj.1]
        exact U2 j hj.2
    · refine ⟨Fs2, by simpa [backA, ho] using S2, fun j a ha => (B2 j a ha).elim .inl fun ⟨m, q⟩ => .inr ⟨m + 1, q⟩, fun j hj => ?_⟩
      simp only [namesA, Bool.or_eq_false_iff] at hj
      exact U2 j hj.2
/-- the whole of a call: from the state behind the arguments to that behind the call -/
theorem call_back {as : List Arg} {vs : List V} {ds fin : List D} {F : List Addr} {e1 : Env} {L : List (List Addr)} {G : Nat → List Addr} (S : SR K mg Z H σ env Fs) (r : AReps K mg Z H σ as vs F) (S1 : SR K mg Z H σ e1 Fs1) (A : ARs K mg Z H ds vs L) (N : L.flatten.Nodup)
    (P : ∀ a ∈ L.flatten, (∀ i, a ∉ Fs1 i) ∧ ¬ Z a ∧ (a ∈ F ∨ ∃ i, a ∈ Fs i)) (U : ∀ i, namesA as i = false → e1.s[i]? = env.s[i]? ∧ Fs1 i = Fs i) (B : ∀ i, ∀ a ∈ Fs1 i, a ∈ Fs i) (pp : e1.p = env.p) (oo : ∀ i, Fs1 i = Fs i ∨ Fs1 i = [])
    (tk : takeA as env = some (ds, e1)) (C : SR K mg Z' H' (vs.map some) (envOf fin) G) (t : Tr (fun _ => true) Z H (envOf ds) (lget L) Z' H' (envOf fin) G) (FF : ∀ a ∈ F, ∀ i, a ∉ Fs i) :
    ∃ Fs2, SR K mg Z' H' σ (backA as ds fin e1) Fs2 ∧ (∀ j, ∀ a ∈ Fs2 j, a ∈ Fs1 j ∨ ∃ m, a ∈ G m) ∧ (∀ i, namesA as i = false → (backA as ds fin e1).s[i]? = env.s[i]? ∧ Fs2 i = Fs i ∧ ∀ a ∈ Fs i, H' a = H a) ∧ (backA as ds fin e1).p = env.p := by
  have Cs := A.sr N (fun a ha => (P a ha).2.1) S.zs
  have S1' := S1.frame Cs t (fun i a ha j q => (P a (mem_lget q)).1 i ha) C.zs
  obtain ⟨Fs2, S2, B2, U2⟩ := back_ok (ds := ds) r.avs C S1' fun m a ha i q => by
    rcases t.new m a ha with ⟨j, z⟩ | z
    · exact (P a (mem_lget z)).1 i q
    · obtain ⟨o, e⟩ := S1.tr q
      rw [z] at e; cases e
  refine ⟨Fs2, S2, B2, fun i hi => ⟨(back_un hi).trans (U i hi).1, (U2 i hi).trans (U i hi).2, fun a ha => ?_⟩, back_len.2.trans pp⟩
  rw [← (U i hi).2] at ha
  obtain ⟨o, e⟩ := S1.tr ha
  rw [e]
  exact t.keep a o e fun j q => (P a (mem_lget q)).1 i ha
end

section
variable {X : Cx} {e : Expr} {es : List Expr} {g : M (List Arg)} {T : Nat → Bool} {x : Str} {p pos : Pos} {φ : List D → CRes} {k np : Nat} {fa : Addr} {fd : FuncData} {ps : List Str}
/-- the reading of a call's arguments, from that of the call -/
theorem tE_call {W : WX} {σ : L2.St} {H : Hp} {Q : VK} (nm : ∀ env as e', g env = .ok as e' → ∀ j, T j = false → namesA as j = false) (ln : ∀ env as e', g env = .ok as e' → as.length = np)
    (h : tE X.K X.mg (callM φ g) T none W σ H Q) : tG X.K X.mg g T W σ H fun vs H1 => spOf X.K X.mg np φ vs H1 Q (WE W σ) := by
  obtain ⟨Z, env, Fs, S, c⟩ := h
  refine ⟨Z, env, Fs, S, ?_⟩
  unfold callM bnd at c
  cases q : g env with
  | err => rw [q] at c; exact c.elim
  | exc x fs e1 => rw [q] at c; exact c
  | ok as ea =>
    rw [q] at c
    dsimp only at c
    intro vs H1 Z1 FsA F SA tA r pF
    cases tk : takeA as ea with
    | none => rw [tk] at c; exact c.elim
    | some pr =>
      obtain ⟨ds, e1⟩ := pr
      rw [tk] at c
      dsimp only at c
      obtain ⟨L, Fs1, S1, A, N, P, U, B, pp, ll, oo⟩ := take_ok SA r pF.1 (fun a ha => ⟨(pF.2 a ha).1, (pF.2 a ha).2.1⟩) tk
      have Cs := A.sr N (fun a ha => (P a ha).2.1) SA.zs
      have hlen : vs.length = np := by
        have : ∀ {as : List Arg} {vs : List V} {F : List Addr}, AReps X.K X.mg Z1 H1 σ as vs F → vs.length = as.length := by
          intro as
          induction as with
          | nil => intro vs F h; simp only [AReps] at h; simp [h.1]
          | cons a as ih =>
            intro vs F h
            cases a with
            | v d =>
              simp only [AReps] at h
              obtain ⟨v, r, F1, F2, e, a, b, f⟩ := h
              rw [e, List.length_cons, List.length_cons, ih b]
            | n i =>
              simp only [AReps] at h
              obtain ⟨v, r, e, a, b⟩ := h
              rw [e, List.length_cons, List.length_cons, ih b]
        rw [this r, ln _ _ _ q]
      -- where a thing that comes out of the call was
      have org : ∀ {Z' : Addr → Prop} {H' : Hp} {fin : List D} {G : Nat → List Addr} (t : Tr (fun _ => true) Z1 H1 (envOf ds) (lget L) Z' H' (envOf fin) G) (a : Addr), ((∃ j, a ∈ lget L j) ∨ H1 a = none) → (∃ j, a ∈ Fs j) ∨ H a = none := fun t a h => by
        rcases h with ⟨j, h⟩ | h
        · rcases (P a (mem_lget h)).2.2 with z | ⟨i, z⟩
          · exact (pF.2 a z).2.2
          · exact tA.new i a z
        · exact .inr (tA.gr a h)
      have stp : ∀ {Z' : Addr → Prop} {H' : Hp} {fin : List D} {G : Nat → List Addr} (C : SR X.K X.mg Z' H' (vs.map some) (envOf fin) G) (t : Tr (fun _ => true) Z1 H1 (envOf ds) (lget L) Z' H' (envOf fin) G),
          ∃ Fs2, SR X.K X.mg Z' H' σ (backA as ds fin e1) Fs2 ∧ Tr T Z H env Fs Z' H' (backA as ds fin e1) Fs2 ∧ ∀ j, ∀ a ∈ Fs2 j, a ∈ Fs1 j ∨ ∃ m, a ∈ G m := fun {Z' H' fin G} C t => by
        obtain ⟨Fs2, S2, B2, U2, pp2⟩ := call_back SA r S1 A N P U B pp oo tk C t fun a ha => (pF.2 a ha).1
        refine ⟨Fs2, S2, ⟨fun a z => t.z a (tA.z a z), fun a z => ?_, fun a o e n => ?_, fun a z => tA.gr a (t.gr a z), fun i a ha => ?_, fun i hi => ?_, pp2.trans tA.p⟩, B2⟩
        · rcases t.zn a z with z | z | z
          · exact tA.zn a z
          · exact .inr (org t a (.inl z))
          · exact .inr (org t a (.inr z))
        · refine t.keep a o (tA.keep a o e n) fun i z => ?_
          rcases (P a (mem_lget z)).2.2 with z | ⟨j, z⟩
          · rcases (pF.2 a z).2.2 with ⟨j, z⟩ | z
            · exact n j z
            · rw [z] at e; cases e
          · rcases tA.new j a z with ⟨j, z⟩ | z
            · exact n j z
            · rw [z] at e; cases e
        · rcases B2 i a ha with z | ⟨m, z⟩
          · exact tA.new i a (B i a z)
          · exact org t a (t.new m a z)
        · obtain ⟨u1, u2, u3⟩ := U2 i (nm _ _ _ q i hi)
          obtain ⟨w1, w2, w3⟩ := tA.un i hi
          exact ⟨u1.trans w1, u2.trans w2, fun a ha => (u3 a (by rw [w2]; exact ha)).trans (w3 a ha)⟩
      refine ⟨hlen, Z1, ds, lget L, Cs, ?_⟩
      cases qf : φ ds with
      | err => rw [qf] at c; exact c.elim
      | exc cc fs fin =>
        rw [qf] at c
        intro cls dd H' Z' G C t x
        obtain ⟨Fs2, S2, T2, _⟩ := stp C t
        exact c cls dd H' Z' Fs2 S2 T2 x
      | ok d fin =>
        rw [qf] at c
        intro v H' Z' G Fd C t rd pd
        obtain ⟨Fs2, S2, T2, B2⟩ := stp C t
        refine c v H' Z' Fs2 Fd S2 T2 rd ⟨pd.1, fun a ha => ⟨fun i z => ?_, (pd.2 a ha).2.1, org t a (pd.2 a ha).2.2⟩⟩
        rcases B2 i a z with z | ⟨m, z⟩
        · rcases (pd.2 a ha).2.2 with ⟨j, w⟩ | w
          · exact (P a (mem_lget w)).1 i z
          · obtain ⟨o, e⟩ := S1.tr z
            rw [w] at e; cases e
        · exact (pd.2 a ha).1 m z
theorem ve_call (F : FnOk X.prog X.w X.K X.mg X.base (L2.CX X.prog X.w) k fa fd ps (spOf X.K X.mg np φ)) (hr : Room k X.A) (hg : Gl X x) (hm : X.mg x = some (.ref fa)) (hk : PySem.W.keepIn X.K (.ref fa) = true) (hb : Binds X.K fd ps []) (ha : VG X (e :: es) g T) (ln : ∀ env as e', g env = .ok as e' → as.length = np)
    (hdb : (x == ("__debug__" : Str)) = false := by decide) (he : starEach (e :: es) X.env = (false, eval e X.env) :: starEach es X.env := by rfl) (hpl : ∀ pos, (backTo pos (starEach es X.env)).any (·.1) = false := by intro _; rfl) :
    VE X (.Call (.Name x p) (e :: es) [] pos) (callM φ g) T none :=
  ⟨fun W tk => pe_imp (pe_callS (E := WE W) F hr hg hm hk hb (fun σ => passAt tk σ) (ha.run W tk) hdb he (hpl pos)) fun σ H Q h => tE_call ha.nm ln h⟩
end
end VI
/-! V7: statements -/
namespace VI
open PySem PySem.Spec L2

/-- how a statement ends -/
inductive Fl where
  | nx | rt (d : D) | bk | ct
def Pin (p : List Bool) (σ σ' : L2.St) : Prop := ∀ i : Nat, p[i]? = some true → σ'[i]? = σ[i]?
theorem Pin.refl {p : List Bool} {σ : L2.St} : Pin p σ σ := fun _ _ => rfl
theorem Pin.trans {p : List Bool} {σ σ1 σ2 : L2.St} (a : Pin p σ σ1) (b : Pin p σ1 σ2) : Pin p σ σ2 := fun i h => (b i h).trans (a i h)
def ContS (K : PySem.W.Frag) (mg : Mg) (T : Nat → Bool) (W : WX) (D : Ends) (σ : L2.St) (Z : Addr → Prop) (H : Hp) (env : Env) (Fs : Nat → List Addr) : Out Fl → Prop
  | .ok (.rt d) e' => ∀ v σ' H' Z' Fs' Fd, SR K mg Z' H' σ' e' Fs' → Tr T Z H env Fs Z' H' e' Fs' → Pin env.p σ σ' → Rep K mg Z' H' d v Fd → VP none Z H Fs Z' H' Fs' Fd → D.rt v H'
  | .ok .nx e' => ∀ σ' H' Z' Fs', SR K mg Z' H' σ' e' Fs' → Tr T Z H env Fs Z' H' e' Fs' → Pin env.p σ σ' → D.nx σ' H'
  | .ok .bk e' => ∀ σ' H' Z' Fs', SR K mg Z' H' σ' e' Fs' → Tr T Z H env Fs Z' H' e' Fs' → Pin env.p σ σ' → D.bk σ' H'
  | .ok .ct e' => ∀ σ' H' Z' Fs', SR K mg Z' H' σ' e' Fs' → Tr T Z H env Fs Z' H' e' Fs' → Pin env.p σ σ' → D.ct σ' H'
  | .exc c fs e' => ∀ cls dd σ' H' Z' Fs', SR K mg Z' H' σ' e' Fs' → Tr T Z H env Fs Z' H' e' Fs' → Pin env.p σ σ' → XAt K mg Z' H' c fs cls dd → W cls dd σ' H'
  | .err => False
def tS (K : PySem.W.Frag) (mg : Mg) (f : M Fl) (T : Nat → Bool) (W : WX) : TS := fun D σ H => ∃ Z env Fs, SR K mg Z H σ env Fs ∧ ContS K mg T W D σ Z H env Fs (f env)
structure VS (X : Cx) (st : Stmt) (f : M Fl) (T : Nat → Bool) : Prop where
  run : ∀ W, Takes X W → PS X st (tS X.K X.mg f T W)
structure VSs (X : Cx) (st : List Stmt) (f : M Fl) (T : Nat → Bool) : Prop where
  run : ∀ W, Takes X W → PSs X st (tS X.K X.mg f T W)
theorem ps_imp {X : Cx} {st : Stmt} {t t' : TS} (h : PS X st t) (q : ∀ D σ H, t' D σ H → t D σ H) : PS X st t' := ⟨fun pins s σ H D I w => h.run pins s σ H D I (q D σ H w)⟩
theorem pss_imp {X : Cx} {st : List Stmt} {t t' : TS} (h : PSs X st t) (q : ∀ D σ H, t' D σ H → t D σ H) : PSs X st t' := ⟨fun pins s σ H D I w => h.run pins s σ H D I (q D σ H w)⟩

section
variable {K : PySem.W.Frag} {mg : Mg} {Z Z' Z1 Z2 : Addr → Prop} {H H' H1 H2 : Hp} {σ σ1 : L2.St} {env env' env1 env2 : Env} {Fs Fs' Fs1 Fs2 : Nat → List Addr} {T T' T1 T2 : Nat → Bool} {W : WX} {D0 : Ends}
theorem ContS.step {o : Out Fl} (c : ContS K mg T W D0 σ Z H env Fs o) (t : Tr T1 Z H env Fs Z1 H1 env1 Fs1) (h : ∀ i, T i = false → T1 i = false ∧ T2 i = false) (pn : Pin env.p σ σ1) : ContS K mg T2 W D0 σ1 Z1 H1 env1 Fs1 o := by
  have pp := t.p
  cases o with
  | ok d e =>
    cases d with
    | rt d => exact fun v σ' H' Z' Fs' Fd S t2 p2 r p => c v σ' H' Z' Fs' Fd S (t.trans t2 h) (pn.trans (by rw [pp] at p2; exact p2)) r (p.back t)
    | nx => exact fun σ' H' Z' Fs' S t2 p2 => c σ' H' Z' Fs' S (t.trans t2 h) (pn.trans (by rw [pp] at p2; exact p2))
    | bk => exact fun σ' H' Z' Fs' S t2 p2 => c σ' H' Z' Fs' S (t.trans t2 h) (pn.trans (by rw [pp] at p2; exact p2))
    | ct => exact fun σ' H' Z' Fs' S t2 p2 => c σ' H' Z' Fs' S (t.trans t2 h) (pn.trans (by rw [pp] at p2; exact p2))
  | exc x fs e => exact fun cls dd σ' H' Z' Fs' S t2 p2 r => c cls dd σ' H' Z' Fs' S (t.trans t2 h) (pn.trans (by rw [pp] at p2; exact p2)) r
  | err => exact c
theorem ContS.mono {o : Out Fl} (c : ContS K mg T W D0 σ Z H env Fs o) (h : ∀ i, T i = false → T2 i = false) : ContS K mg T2 W D0 σ Z H env Fs o := c.step (T1 := T0) Tr.refl (fun i q => ⟨rfl, h i q⟩) Pin.refl
/-- an exception of an expression is one of the statement -/
theorem ContS.exc {c : Str} {fs : List (Str × D)} {e : Env} (h : ContS K mg T W D0 σ Z H env Fs (.exc c fs e)) (q : ∀ i, T i = false → T1 i = false) {Q : VK} : Cont K mg T1 none W Q σ Z H env Fs (.exc c fs e) :=
  fun cls dd H' Z' Fs' S t r => h cls dd σ H' Z' Fs' S (t.mono q) Pin.refl r
theorem store_ok {d : D} {v : V} {Fd : List Addr} {i : Nat} (S : SR K mg Z H σ env Fs) (hi : i < env.s.length) (r : Rep K mg Z H d v Fd) (nd : Fd.Nodup) (ap : ∀ a ∈ Fd, (∀ j, a ∉ Fs j) ∧ ¬ Z a) : SR K mg Z H (σ.set i (some v)) (env.put i d) (fset Fs i Fd) :=
  S.put hi (by simp) (List.getElem?_set_self (by rw [← S.len]; exact hi)) (fun j hj => List.getElem?_set_ne (Ne.symm hj)) r nd fun a ha => ⟨fun j _ => (ap a ha).1 j, (ap a ha).2⟩
theorem Tr.store {i : Nat} {d : D} {G : List Addr} (t : Tr T1 Z H env Fs Z1 H1 env1 Fs1) (gn : ∀ a ∈ G, (∃ j, a ∈ Fs j) ∨ H a = none) : Tr (tor T1 (T1' i)) Z H env Fs Z1 H1 (env1.put i d) (fset Fs1 i G) where
  z := t.z
  zn := t.zn
  keep := t.keep
  gr := t.gr
  new := fun j a ha => by
    by_cases hj : j = i
    · subst hj; rw [fset_self] at ha; exact gn a ha
    · rw [fset_ne hj] at ha; exact t.new j a ha
  un := fun j hj => by
    obtain ⟨h1, h2⟩ := tor_sub j hj
    have hj' : j ≠ i := by simpa using h2
    obtain ⟨u1, u2, u3⟩ := t.un j h1
    exact ⟨by rw [Env.put, List.getElem?_set_ne (Ne.symm hj')]; exact u1, (fset_ne hj').trans u2, u3⟩
  p := t.p
theorem Pin.set {p : List Bool} {i : Nat} {v : V} (h : p[i]? ≠ some true) : Pin p σ (σ.set i (some v)) := fun j hj => List.getElem?_set_ne (fun e => by subst e; exact h hj)
end

def exprM (f : M D) : M Fl := bnd f fun _ => pur .nx
/-- i = f -/
def asgM (i : Nat) (f : M D) : M Fl := bnd f fun d env => if env.p[i]? = some true then .err else if i < env.s.length then .ok .nx (env.put i d) else .err
def retM (f : M D) : M Fl := bnd f fun d => pur (.rt d)
def seqM (f g : M Fl) : M Fl := bnd f fun d => match d with
  | .nx => g
  | d => pur d
def whileM : Nat → M Bool → M Fl → M Fl
  | 0, _, _ => bad
  | n + 1, fc, fb => bnd fc fun b => if b = true then bnd fb (fun d => match d with
      | .nx => whileM n fc fb
      | .ct => whileM n fc fb
      | .bk => pur .nx
      | .rt d => pur (.rt d)) else pur .nx

section
variable {X : Cx} {e a b c : Expr} {st : Stmt} {sts sts2 : List Stmt} {pos : Pos} {f fa fb : M D} {ga gb gc : M Bool} {fs gs : M Fl} {T Ta Tb Tc Ts Tr' : Nat → Bool} {src sa sb : Option Nat}
theorem vs_expr (he : VE X e f T src) (hs : swapsWith e none pos.line X.env = pure false := by rfl) : VS X (.Expr e pos) (exprM f) T := by
  refine ⟨fun W tk => ps_imp (ps_expr (he.run W tk) hs) fun D σ H ⟨Z, env, Fs, S, c⟩ => ⟨Z, env, Fs, S, ?_⟩⟩
  unfold exprM bnd at c
  cases q : f env with
  | err => rw [q] at c; exact c.elim
  | exc x fs e1 => rw [q] at c; exact fun cls dd H' Z' Fs' S t r => c cls dd σ H' Z' Fs' S t Pin.refl r
  | ok d e1 =>
    rw [q] at c
    exact fun v H' Z' Fs' Fd S' t r p => c σ H' Z' Fs' S' t Pin.refl
theorem vs_asg {i : Nat} {x : Str} {p' : Pos} (hN : X.N.Nodup) (hi : X.N[i]? = some x) (hx : Loc X.env.scope x) (he : VE X e f T none) (hs : swapsWith e (some (.Name x p')) pos.line X.env = pure false := by rfl) (hf : X.fn x = true ∨ X.env.scope.names.lookup x = some .local := by first | exact .inl rfl | exact .inr rfl | assumption) :
    VS X (.Assign [.Name x p'] e pos) (asgM i f) (tor T (T1' i)) := by
  refine ⟨fun W tk => ps_imp (ps_set hN hi hx (he.run W tk) hs hf) fun D σ H ⟨Z, env, Fs, S, c⟩ => ⟨Z, env, Fs, S, ?_⟩⟩
  unfold asgM bnd at c
  cases q : f env with
  | err => rw [q] at c; exact c.elim
  | exc x fs e1 => rw [q] at c; exact fun cls dd H' Z' Fs' S t r => c cls dd σ H' Z' Fs' S (t.mono fun i q => (tor_sub i q).1) Pin.refl r
  | ok d e1 =>
    rw [q] at c
    dsimp only at c
    intro v H1 Z1 Fs1 F1 S1 t1 r1 p1
    split at c
    · exact c.elim
    · rename_i hp
      split at c
      · rename_i hl
        exact c _ H1 Z1 (fset Fs1 i F1) (store_ok S1 hl r1 p1.1 fun a ha => ⟨(p1.2 a ha).1, (p1.2 a ha).2.1⟩) (t1.store fun a ha => (p1.2 a ha).2.2) (Pin.set (by rw [← t1.p]; exact hp))
      · exact c.elim
theorem vs_ret (he : VE X e f T none) : VS X (.Return (some e) pos) (retM f) T := by
  refine ⟨fun W tk => ps_imp (ps_ret (he.run W tk)) fun D σ H ⟨Z, env, Fs, S, c⟩ => ⟨Z, env, Fs, S, ?_⟩⟩
  unfold retM bnd at c
  cases q : f env with
  | err => rw [q] at c; exact c.elim
  | exc x fs e1 => rw [q] at c; exact fun cls dd H' Z' Fs' S t r => c cls dd σ H' Z' Fs' S t Pin.refl r
  | ok d e1 =>
    rw [q] at c
    exact fun v H1 Z1 Fs1 F1 S1 t1 r1 p1 => c v σ H1 Z1 Fs1 F1 S1 t1 Pin.refl r1 p1
theorem vs_retn : VS X (.Return none pos) (pur (.rt .non)) T0 := by
  refine ⟨fun W tk => ps_imp ps_retN fun D σ H ⟨Z, env, Fs, S, c⟩ => ?_⟩
  exact c .non σ H Z Fs [] S Tr.refl Pin.refl (by simp [Rep]) VP.nil
theorem vs_pass : VS X (.Pass pos) (pur .nx) T0 := ⟨fun W tk => ps_imp ps_pass fun D σ H ⟨Z, env, Fs, S, c⟩ => c σ H Z Fs S Tr.refl Pin.refl⟩
theorem vs_break : VS X (.Break pos) (pur .bk) T0 := ⟨fun W tk => ps_imp ps_break fun D σ H ⟨Z, env, Fs, S, c⟩ => c σ H Z Fs S Tr.refl Pin.refl⟩
theorem vs_continue : VS X (.Continue pos) (pur .ct) T0 := ⟨fun W tk => ps_imp ps_continue fun D σ H ⟨Z, env, Fs, S, c⟩ => c σ H Z Fs S Tr.refl Pin.refl⟩
theorem vss_nil : VSs X [] (pur .nx) T0 := ⟨fun W tk => pss_imp pss_nil fun D σ H ⟨Z, env, Fs, S, c⟩ => c σ H Z Fs S Tr.refl Pin.refl⟩
theorem vss_one (h : VS X st fs Ts) : VSs X [st] fs Ts := ⟨fun W tk => pss_one (h.run W tk)⟩
theorem vss_cons (h1 : VS X st fs Ts) (h2 : VSs X sts gs Tr') : VSs X (st :: sts) (seqM fs gs) (tor Ts Tr') := by
  refine ⟨fun W tk => pss_imp (pss_cons (h1.run W tk) (h2.run W tk)) fun D σ H ⟨Z, env, Fs, S, c⟩ => ⟨Z, env, Fs, S, ?_⟩⟩
  unfold seqM bnd at c
  cases q : fs env with
  | err => rw [q] at c; exact c.elim
  | exc x fs e1 => rw [q] at c; exact fun cls dd σ' H' Z' Fs' S t p r => c cls dd σ' H' Z' Fs' S (t.mono fun i q => (tor_sub i q).1) p r
  | ok d e1 =>
    rw [q] at c
    have m : ∀ i, tor Ts Tr' i = false → Ts i = false := fun i q => (tor_sub i q).1
    cases d with
    | rt d => exact fun v σ' H' Z' Fs' Fd S t p r w => c v σ' H' Z' Fs' Fd S (t.mono m) p r w
    | bk => exact fun σ' H' Z' Fs' S t p => c σ' H' Z' Fs' S (t.mono m) p
    | ct => exact fun σ' H' Z' Fs' S t p => c σ' H' Z' Fs' S (t.mono m) p
    | nx => exact fun σ' H' Z' Fs' S t p => ⟨Z', e1, Fs', S, ContS.step c t tor_sub p⟩
theorem vs_if (hc : VT X c gc Tc) (ha : VSs X sts fs Ts) (hb : VSs X sts2 gs Tr') : VS X (.If c sts sts2 pos) (iteM gc fs gs) (tor Tc (tor Ts Tr')) := by
  refine ⟨fun W tk => ps_imp (ps_if (hc.run W tk) (ha.run W tk) (hb.run W tk)) fun D σ H ⟨Z, env, Fs, S, c⟩ => ⟨Z, env, Fs, S, ?_⟩⟩
  unfold iteM bnd at c
  cases q : gc env with
  | err => rw [q] at c; exact c.elim
  | exc x fs e1 =>
    rw [q] at c
    exact fun cls dd H' Z' Fs' S' t r => c cls dd σ H' Z' Fs' S' (t.mono fun i q => (tor_sub i q).1) Pin.refl r
  | ok d e1 =>
    rw [q] at c
    intro H1 Z1 Fs1 S1 t1
    have c := ContS.step (T2 := tor Ts Tr') c t1 tor_sub Pin.refl
    dsimp only at c
    cases d with
    | true => rw [if_pos rfl] at c ⊢; exact ⟨Z1, e1, Fs1, S1, c.mono fun i q => (tor_sub i q).1⟩
    | false => rw [if_neg Bool.false_ne_true] at c ⊢; exact ⟨Z1, e1, Fs1, S1, c.mono fun i q => (tor_sub i q).2⟩
theorem vs_while (n : Nat) (hp : ∀ W, Takes X W → PassesOwn (model X.prog X.w) X.A X.env X.xe) (hc : VT X c gc Tc) (hb : VSs X sts fs Ts) : VS X (.While c sts [] pos) (whileM n gc fs) (tor Tc Ts) := by
  refine ⟨fun W tk => ps_imp (ps_while (hp W tk) (hc.run W tk) (hb.run W tk)) fun D σ H ⟨Z, env, Fs, S, c⟩ => ?_⟩
  refine ⟨fun m σ H => ∃ Z env Fs, SR X.K X.mg Z H σ env Fs ∧ ContS X.K X.mg (tor Tc Ts) W D σ Z H env Fs (whileM m gc fs env), ⟨n, Z, env, Fs, S, c⟩, ?_⟩
  rintro m σ H ⟨Z, env, Fs, S, c⟩
  refine ⟨Z, env, Fs, S, ?_⟩
  cases m with
  | zero => exact c.elim
  | succ m =>
    unfold whileM at c
    unfold bnd at c
    cases q : gc env with
    | err => rw [q] at c; exact c.elim
    | exc x fs e1 =>
      rw [q] at c
      exact fun cls dd H' Z' Fs' S' t r => c cls dd σ H' Z' Fs' S' (t.mono fun i q => (tor_sub i q).1) Pin.refl r
    | ok d e1 =>
      rw [q] at c
      intro H1 Z1 Fs1 S1 t1
      have c := ContS.step (T2 := tor Tc Ts) c t1 (fun i q => ⟨(tor_sub i q).1, q⟩) Pin.refl
      dsimp only at c
      cases d with
      | false =>
        rw [if_neg Bool.false_ne_true] at c ⊢
        exact c σ H1 Z1 Fs1 S1 Tr.refl Pin.refl
      | true =>
        rw [if_pos rfl] at c ⊢
        refine ⟨fun σ' H' => ∃ Z env Fs, SR X.K X.mg Z H' σ' env Fs ∧ ContS X.K X.mg (tor Tc Ts) W D σ' Z H' env Fs (whileM m gc fs env), fun σ' H' h => ⟨m, Nat.lt_succ_self m, h⟩, Z1, e1, Fs1, S1, ?_⟩
        cases q2 : fs e1 with
        | err => rw [q2] at c; exact c.elim
        | exc x fs e2 =>
          rw [q2] at c
          exact fun cls dd σ' H' Z' Fs' S' t p r => c cls dd σ' H' Z' Fs' S' (t.mono fun i q => (tor_sub i q).2) p r
        | ok d e2 =>
          rw [q2] at c
          cases d with
          | rt d => exact fun v σ' H' Z' Fs' Fd S t p r w => c v σ' H' Z' Fs' Fd S (t.mono fun i q => (tor_sub i q).2) p r w
          | bk => exact fun σ' H' Z' Fs' S t p => c σ' H' Z' Fs' S (t.mono fun i q => (tor_sub i q).2) p
          | ct => exact fun σ' H' Z' Fs' S t p => ⟨Z', e2, Fs', S, ContS.step c t (fun i q => ⟨(tor_sub i q).2, q⟩) p⟩
          | nx => exact fun σ' H' Z' Fs' S t p => ⟨Z', e2, Fs', S, ContS.step c t (fun i q => ⟨(tor_sub i q).2, q⟩) p⟩
end
end VI
/-! V8: targets, what is walked, for -/
namespace VI
open PySem PySem.Spec L2

/-! ### targets (of values nothing of which may be changed) -/
def tGt (K : PySem.W.Frag) (mg : Mg) (f : D → M Unit) (T : Nat → Bool) : TG := fun v σ H Q => ∃ Z env Fs d, SR K mg Z H σ env Fs ∧ Rep K mg Z H d v [] ∧
  ∃ env', f d env = .ok () env' ∧ ∀ σ' Fs', SR K mg Z H σ' env' Fs' → Tr T Z H env Fs Z H env' Fs' → Pin env.p σ σ' → (∀ j, T j = false → σ'[j]? = σ[j]?) → σ'.length = σ.length → Q σ' H
def tGts (K : PySem.W.Frag) (mg : Mg) (f : List D → M Unit) (T : Nat → Bool) : TGs := fun vs σ H Q => ∃ Z env Fs ds, SR K mg Z H σ env Fs ∧ Reps K mg Z H ds vs [] ∧
  ∃ env', f ds env = .ok () env' ∧ ∀ σ' Fs', SR K mg Z H σ' env' Fs' → Tr T Z H env Fs Z H env' Fs' → Pin env.p σ σ' → (∀ j, T j = false → σ'[j]? = σ[j]?) → σ'.length = σ.length → Q σ' H
structure VGt (X : Cx) (tg : Expr) (f : D → M Unit) (T : Nat → Bool) : Prop where
  run : PG X tg (tGt X.K X.mg f T)
structure VGts (X : Cx) (tgs : List Expr) (f : List D → M Unit) (T : Nat → Bool) : Prop where
  run : PGs X tgs (tGts X.K X.mg f T)
theorem pg_imp {X : Cx} {tg : Expr} {t t' : TG} (h : PG X tg t) (q : ∀ v σ H Q, t' v σ H Q → t v σ H Q) : PG X tg t' := ⟨fun pins s σ H v u Q I r w => h.run pins s σ H v u Q I r (q v σ H Q w)⟩
theorem pgs_imp {X : Cx} {tg : List Expr} {t t' : TGs} (h : PGs X tg t) (q : ∀ v σ H Q, t' v σ H Q → t v σ H Q) : PGs X tg t' := ⟨fun pins s σ H v u Q I r w => h.run pins s σ H v u Q I r (q v σ H Q w)⟩
def gnM (i : Nat) (d : D) : M Unit := fun env => if env.p[i]? = some true then .err else if i < env.s.length then .ok () (env.put i d) else .err
def gtM (n : Nat) (f : List D → M Unit) (d : D) : M Unit := match d with
  | .tup ds => if ds.length = n then f ds else bad
  | _ => bad
def gnilM (ds : List D) : M Unit := match ds with
  | [] => pur ()
  | _ => bad
def gconsM (f : D → M Unit) (g : List D → M Unit) (ds : List D) : M Unit := match ds with
  | d :: r => bnd (f d) fun _ => g r
  | [] => bad
theorem rep_nil2 {F G : List Addr} (h : [] = F ++ G) : F = [] ∧ G = [] := by
  cases F with
  | nil => exact ⟨rfl, by simpa using h.symm⟩
  | cons a F => simp at h
section
variable {X : Cx} {pos : Pos} {x : Str} {i : Nat} {tg : Expr} {tgs : List Expr} {f : D → M Unit} {g : List D → M Unit} {T Ta Tb : Nat → Bool}
theorem vg_nm (hN : X.N.Nodup) (hi : X.N[i]? = some x) (hx : Loc X.env.scope x) (hf : X.fn x = true ∨ X.env.scope.names.lookup x = some .local := by first | exact .inl rfl | exact .inr rfl | assumption) : VGt X (.Name x pos) (gnM i) (T1' i) := by
  refine ⟨pg_imp (pg_name hN hi hx hf) fun v σ H Q ⟨Z, env, Fs, d, S, r, env', he, c⟩ => ?_⟩
  unfold gnM at he
  split at he
  · cases he
  · rename_i hp
    split at he
    · rename_i hl
      simp only [Out.ok.injEq, true_and] at he
      subst he
      exact c _ (fset Fs i []) (store_ok S hl r List.nodup_nil fun _ h => by simp at h) (Tr.put fun _ h => by simp at h) (Pin.set hp) (fun j hj => List.getElem?_set_ne (Ne.symm (by simpa using hj))) (by simp)
    · cases he
theorem vg_tnil : VGts X [] gnilM T0 := by
  refine ⟨pgs_imp pgs_nil fun vs σ H Q ⟨Z, env, Fs, ds, S, r, env', he, c⟩ => ?_⟩
  cases ds with
  | cons d ds => cases he
  | nil =>
    simp only [Reps] at r
    simp only [gnilM, pur, Out.ok.injEq, true_and] at he
    subst he
    exact ⟨r.1, c σ Fs S Tr.refl Pin.refl (fun _ _ => rfl) rfl⟩
theorem vg_tcons (h1 : VGt X tg f Ta) (h2 : VGts X tgs g Tb) (hs : (assignEach (tg :: tgs) X.env).map (·.2) = assign tg X.env :: (assignEach tgs X.env).map (·.2) := by rfl) : VGts X (tg :: tgs) (gconsM f g) (tor Ta Tb) := by
  refine ⟨pgs_imp (pgs_cons h1.run h2.run hs) fun vs σ H Q ⟨Z, env, Fs, ds, S, r, env', he, c⟩ => ?_⟩
  cases ds with
  | nil => cases he
  | cons d ds =>
    simp only [Reps] at r
    obtain ⟨v, vr, F1, F2, e, a, b, ff⟩ := r
    obtain ⟨e1, e2⟩ := rep_nil2 ff
    subst e1 e2 e
    simp only [gconsM, bnd] at he
    cases q : f d env with
    | err => rw [q] at he; cases he
    | exc c fs e => rw [q] at he; cases he
    | ok u e1 =>
      rw [q] at he
      dsimp only at he
      refine ⟨v, vr, rfl, Z, env, Fs, d, S, a, e1, q, fun σ1 Fs1 S1 t1 p1 o1 l1 => ?_⟩
      refine ⟨Z, e1, Fs1, ds, S1, b, env', he, fun σ2 Fs2 S2 t2 p2 o2 l2 => ?_⟩
      exact c σ2 Fs2 S2 (t1.trans t2 tor_sub) (p1.trans (by rw [← t1.p]; exact p2)) (fun j hj => (o2 j (tor_sub j hj).2).trans (o1 j (tor_sub j hj).1)) (l2.trans l1)
theorem vg_tt {k n : Nat} (hc : X.calm = true) (h : VGts X tgs g T) (hn : (assignEach tgs X.env).length = n := by rfl) (hst : (assignEach tgs X.env).findIdx? (·.1) = none := by rfl) : VGt X (.Tuple tgs k pos) (gtM n g) T := by
  refine ⟨pg_imp (pg_tup hc h.run hn hst) fun v σ H Q ⟨Z, env, Fs, d, S, r, env', he, c⟩ => ?_⟩
  cases d with
  | tup ds =>
    simp only [gtM] at he
    split at he
    · rename_i hl
      simp only [Rep] at r
      obtain ⟨a, vs, e, t, r⟩ := r
      exact ⟨a, vs, e, t.sq, by rw [r.length, hl], Z, env, Fs, ds, S, r, env', he, c⟩
    · cases he
  | _ => cases he
end

/-! ### what is walked -/
/-- J goes through ds; Fd: what has to stay meanwhile -/
def WalkD (K : PySem.W.Frag) (mg : Mg) (J : It) (ds : List D) (Z0 : Addr → Prop) (H0 : Hp) (Fd : List Addr) : Prop :=
  ∃ G Y, Walk J ds.length G Y ∧ (∀ Z H, Stay Z0 Z H0 H → (∀ a ∈ Fd, H a = H0 a) → G H) ∧
    ∀ (i : Nat) d Z H x H', ds[i]? = some d → Stay Z0 Z H0 H → (∀ a ∈ Fd, H a = H0 a) → (∀ a, Z a → ∃ o, H a = some o) → Y i H x H' → ∃ Z', Alloc Z H Z' H' [] ∧ Rep K mg Z' H' d x []
/-- what has to stay is nobody's or some names' -/
def StF (srcs : List Nat) (H' : Hp) (Fs' : Nat → List Addr) (Fd : List Addr) : Prop := ∀ a ∈ Fd, ((∀ i, a ∉ Fs' i) ∧ ∃ o, H' a = some o) ∨ ∃ i ∈ srcs, a ∈ Fs' i
def ContI (K : PySem.W.Frag) (mg : Mg) (T : Nat → Bool) (srcs : List Nat) (W : WX) (R : It → Hp → Prop) (σ : L2.St) (Z : Addr → Prop) (H : Hp) (env : Env) (Fs : Nat → List Addr) : Out (List D) → Prop
  | .ok ds env' => ∀ J H' Z' Fs' Fd, SR K mg Z' H' σ env' Fs' → Tr T Z H env Fs Z' H' env' Fs' → WalkD K mg J ds Z' H' Fd → StF srcs H' Fs' Fd → R J H'
  | .exc c fs env' => ∀ cls dd H' Z' Fs', SR K mg Z' H' σ env' Fs' → Tr T Z H env Fs Z' H' env' Fs' → XAt K mg Z' H' c fs cls dd → W cls dd σ H'
  | .err => False
def tI (K : PySem.W.Frag) (mg : Mg) (f : M (List D)) (T : Nat → Bool) (srcs : List Nat) (W : WX) : TI := fun σ H R => ∃ Z env Fs, SR K mg Z H σ env Fs ∧ ContI K mg T srcs W R σ Z H env Fs (f env)
structure VI (X : Cx) (tg iter : Expr) (f : M (List D)) (T : Nat → Bool) (srcs : List Nat) : Prop where
  run : ∀ W, Takes X W → PI X tg iter (tI X.K X.mg f T srcs W)
theorem pi_imp {X : Cx} {tg iter : Expr} {t t' : TI} (h : PI X tg iter t) (q : ∀ σ H R, t' σ H R → t σ H R) : PI X tg iter t' := ⟨fun pins s σ H R I w => h.run pins s σ H R I (q σ H R w)⟩
section
variable {X : Cx} {tg e a b : Expr} {pos p : Pos} {f fa fb : M D} {T Ta Tb : Nat → Bool} {src sa sb : Option Nat}
/-- a list, a tuple, a text -/
def iAny (K : PySem.W.Frag) (tl : TE) : TI := fun σ H R => tl σ H fun x H1 => (∃ a, x = .ref a ∧ (∃ xs, SqL K H1 a xs) ∧ R (Itl K a) H1) ∨ (∃ a, x = .ref a ∧ (∃ xs, SqT K H1 a xs) ∧ R (Itt K a) H1) ∨ ∃ z, x = .str z ∧ R (Its z) H1
theorem pi_any {l : Expr} {tl : TE} (hl : PE X l tl) : PI X tg l (iAny X.K tl) := by
  refine ⟨fun pins s σ H R I h => thn (hl.run pins s σ H _ I h) fun v s1 ⟨x, H1, I1, r1, q1⟩ => ?_⟩
  have fr : ∀ b ∈ [s1.heap.objs.size], FpOk X pins H1 b := fun b hb => by
    obtain rfl : b = s1.heap.objs.size := by simpa using hb
    exact I1.fpOk (Nat.le_refl _) (I1.hok.fresh (Nat.le_refl _))
  have kk : ∀ (ob : Obj), Inv X pins σ H1 { s1 with heap := s1.heap.push ob } := fun ob => I1.kept (t' := s1.toks) fun b o e => Heap.get?_push_of_some _ e
  rcases q1 with ⟨a, e, ⟨xs, hq⟩, q⟩ | ⟨a, e, ⟨xs, hq⟩, q⟩ | ⟨z, e, q⟩
  · subst e
    cases r1
    obtain ⟨its, rv, pl, hz⟩ := I1.list hq
    exact wpAny_pyIter_list pl.isList ⟨_, [s1.heap.objs.size], _, _, H1, rfl, kk _, turn_list a _, ⟨_, Heap.get?_push_size _ rfl, rfl, rfl⟩, fr, q⟩
  · subst e
    cases r1
    obtain ⟨its, rv, pl, hz⟩ := I1.tuple hq
    exact wpAny_pyIter_tuple (show s1.heap.IsTuple a its.toArray from pl) ⟨_, [s1.heap.objs.size], _, _, H1, rfl, kk _, turn_tuple a _, ⟨_, Heap.get?_push_size _ rfl, rfl, rfl⟩, fr, q⟩
  · subst e
    obtain ⟨t, rfl⟩ := r1
    cases ha : z.cps.all (· < 128)
    · exact wpAny_pyIter_wide ha (pi_one (tk := s1.toks) I1 _ (turn_str _ z t "str_iterator" (.inr rfl)) ⟨_, Heap.get?_push_size _ rfl, rfl, rfl⟩ q)
    · exact wpAny_pyIter_ascii ha (pi_one (tk := s1.toks) I1 _ (turn_str _ z t "str_ascii_iterator" (.inl rfl)) ⟨_, Heap.get?_push_size _ rfl, rfl, rfl⟩ q)
/-- the items of what is walked -/
def itemsD : D → Option (List D)
  | .tup xs => if D.owns xs then none else some xs
  | .lst _ xs => if D.owns xs then none else some xs
  | .str z => some (z.cps.toList.map fun c => .str ⟨#[c]⟩)
  | _ => none
def seqI (f : M D) : M (List D) := bnd f fun d => ofO (itemsD d)
theorem Reps.item {K : PySem.W.Frag} {mg : Mg} {Z : Addr → Prop} {H : Hp} {xs : List D} {vs : List V} {F : List Addr} {i : Nat} {d : D} {v : V} (r : Reps K mg Z H xs vs F) (o : D.owns xs = false) (h : xs[i]? = some d) (hv : vs[i]? = some v) : Rep K mg Z H d v [] := by
  obtain ⟨u, G, h1, h2, h3, _⟩ := r.get h
  rw [hv] at h1
  cases h1
  have e := r.unown o
  subst e
  have : G = [] := by
    cases G with
    | nil => rfl
    | cons a G => exact absurd (h3 a (by simp)) (by simp)
  rw [this] at h2
  exact h2
theorem walkD_list {K : PySem.W.Frag} {mg : Mg} {Z0 : Addr → Prop} {H0 : Hp} {p : Addr} {xs : List D} {vs : List V} {G Fd : List Addr} (r : Reps K mg Z0 H0 xs vs G) (o : D.owns xs = false) (q : ∀ Z H, Stay Z0 Z H0 H → (∀ a ∈ Fd, H a = H0 a) → SqL K H p vs) : WalkD K mg (Itl K p) xs Z0 H0 Fd := by
  have e := r.unown o
  subst e
  refine ⟨fun H => SqL K H p vs, YAt vs, by rw [← r.length]; exact walk_list, q, fun i d Z H x H' hd st hF zs y => ?_⟩
  obtain ⟨rfl, hx⟩ := y
  exact ⟨Z, Alloc.refl zs, (r.item o hd hx).stay st fun _ h => by simp at h⟩
theorem walkD_tup {K : PySem.W.Frag} {mg : Mg} {Z0 : Addr → Prop} {H0 : Hp} {p : Addr} {xs : List D} {vs : List V} {G Fd : List Addr} (r : Reps K mg Z0 H0 xs vs G) (o : D.owns xs = false) (q : ∀ Z H, Stay Z0 Z H0 H → (∀ a ∈ Fd, H a = H0 a) → SqT K H p vs) : WalkD K mg (Itt K p) xs Z0 H0 Fd := by
  have e := r.unown o
  subst e
  refine ⟨fun H => SqT K H p vs, YAt vs, by rw [← r.length]; exact walk_tup, q, fun i d Z H x H' hd st hF zs y => ?_⟩
  obtain ⟨rfl, hx⟩ := y
  exact ⟨Z, Alloc.refl zs, (r.item o hd hx).stay st fun _ h => by simp at h⟩
theorem VP.stF {Z Z' : Addr → Prop} {H H' : Hp} {Fs Fs' : Nat → List Addr} {Fd G : List Addr} (p : VP src Z H Fs Z' H' Fs' Fd) (th : ∀ a ∈ Fd, ∃ o, H' a = some o) (sub : ∀ a ∈ G, a ∈ Fd) : StF src.toList H' Fs' G := fun a ha => by
  cases src with
  | none => exact .inl ⟨(p.2 a (sub a ha)).1, th a (sub a ha)⟩
  | some i => exact .inr ⟨i, by simp, p.2 a (sub a ha)⟩
theorem vi_seq (he : VE X e f T src) : VI X tg e (seqI f) T src.toList := by
  refine ⟨fun W tk => pi_imp (pi_any (he.run W tk)) fun σ H R ⟨Z, env, Fs, S, c⟩ => ⟨Z, env, Fs, S, ?_⟩⟩
  unfold seqI bnd at c
  cases q : f env with
  | err => rw [q] at c; exact c.elim
  | exc x fs e1 => rw [q] at c; exact c
  | ok d e1 =>
    rw [q] at c
    intro v H1 Z1 Fs1 F1 S1 t1 r1 p1
    dsimp only at c
    cases qi : itemsD d with
    | none => rw [qi] at c; exact c.elim
    | some ds =>
      rw [qi] at c
      cases d with
      | tup xs =>
        simp only [itemsD] at qi
        split at qi
        · cases qi
        · rename_i ho
          cases qi
          simp only [Rep] at r1
          obtain ⟨a, vs, e, t, r⟩ := r1
          refine .inr (.inl ⟨a, e, ⟨vs, t.sq⟩, c (Itt X.K a) H1 Z1 Fs1 [] S1 t1 (walkD_tup r (by simpa using ho) fun Z H st _ => (t.stay st).sq) fun _ h => by simp at h⟩)
      | lst o xs =>
        simp only [itemsD] at qi
        split at qi
        · cases qi
        · rename_i ho
          cases qi
          cases o with
          | false =>
            simp only [Rep] at r1
            obtain ⟨a, vs, e, t, r, _⟩ := r1
            exact .inl ⟨a, e, ⟨vs, t.sq⟩, c (Itl X.K a) H1 Z1 Fs1 [] S1 t1 (walkD_list r (by simpa using ho) fun Z H st _ => (t.stay st).sq) fun _ h => by simp at h⟩
          | true =>
            have th := r1.there
            simp only [Rep] at r1
            obtain ⟨a, vs, G, e, t, r, ff⟩ := r1
            subst ff
            exact .inl ⟨a, e, ⟨vs, SqL.of t⟩, c (Itl X.K a) H1 Z1 Fs1 [a] S1 t1 (walkD_list r (by simpa using ho) fun Z H st k => SqL.of ((k a (by simp)).trans t)) (p1.stF th fun b hb => by simp at hb; simp [hb])⟩
      | str z =>
        simp only [itemsD, Option.some.injEq] at qi
        subst qi
        simp only [Rep] at r1
        refine .inr (.inr ⟨z, r1.1, c (Its z) H1 Z1 Fs1 [] S1 t1 ⟨fun _ => True, fun i H v H' => H' = H ∧ ∃ c, z.cps[i]? = some c ∧ v = .str ⟨#[c]⟩, by simpa using walk_str, fun _ _ _ _ => trivial, fun i d Z H x H' hd st hF zs y => ?_⟩ fun _ h => by simp at h⟩)
        obtain ⟨rfl, cc, h1, h2⟩ := y
        refine ⟨Z, Alloc.refl zs, ?_⟩
        simp only [List.getElem?_map, Array.getElem?_toList, h1, Option.map_some, Option.some.injEq] at hd
        rw [← hd, h2]
        simp [Rep]
      | _ => cases qi
end
end VI
/-! V9: range, enumerate, zip; for -/
namespace VI
open PySem PySem.Spec L2

def small62 (i : Int) : Bool := decide (-(2 ^ 62) ≤ i) && decide (i < 2 ^ 62)
def rangeD (lo hi : Int) : List D := (List.range (hi - lo).toNat).map fun (k : Nat) => .int (lo + k)
def range1I (fa : M D) : M (List D) := bnd fa fun d => match d with
  | .int j => if small62 j = true then pur (rangeD 0 j) else bad
  | _ => bad
def range2I (fa fb : M D) : M (List D) := bnd fa fun d => bnd fb fun d2 => match d, d2 with
  | .int i, .int j => if (small62 i && small62 j) = true then pur (rangeD i j) else bad
  | _, _ => bad
def enumD (n : Nat) : List D → List D
  | [] => []
  | d :: ds => .tup [.int (n : Nat), d] :: enumD (n + 1) ds
def enumI (f : M D) : M (List D) := bnd f fun d => match d with
  | .lst _ xs => if D.owns xs then bad else pur (enumD 0 xs)
  | _ => bad
def zipD : List D → List D → List D
  | x :: xs, y :: ys => .tup [x, y] :: zipD xs ys
  | _, _ => []
def zipI (k : Bool) (fa fb : M D) : M (List D) := bnd fa fun d => if k || !d.own then bnd fb fun d2 => (match d, d2 with
  | .lst _ xs, .lst _ ys => if D.owns xs || D.owns ys then bad else pur (zipD xs ys)
  | .tup xs, .tup ys => if D.owns xs || D.owns ys then bad else pur (zipD xs ys)
  | _, _ => bad) else bad
section
variable {X : Cx} {tg e a b : Expr} {pos p : Pos} {f fa fb : M D} {T Ta Tb : Nat → Bool} {src sa sb : Option Nat}
theorem small62_iff {i : Int} (h : small62 i = true) : -(2 ^ 62) ≤ i ∧ i < 2 ^ 62 := by
  unfold small62 at h
  simpa using h
theorem walkD_range {K : PySem.W.Frag} {mg : Mg} {Z0 : Addr → Prop} {H0 : Hp} {lo hi : Int} : WalkD K mg (Itr lo (hi - lo).toNat) (rangeD lo hi) Z0 H0 [] := by
  refine ⟨fun _ => True, YFn fun i => .int (lo + i), by simpa [rangeD] using walk_range, fun _ _ _ _ => trivial, fun i d Z H x H' hd st hF zs y => ?_⟩
  obtain ⟨rfl, hx⟩ := y
  refine ⟨Z, Alloc.refl zs, ?_⟩
  simp only [rangeD, List.getElem?_map] at hd
  cases q : (List.range (hi - lo).toNat)[i]? with
  | none => rw [q] at hd; cases hd
  | some k =>
    rw [q] at hd
    have ek : k = i := by
      have := List.getElem?_eq_some_iff.mp q
      obtain ⟨h1, h2⟩ := this
      simpa using h2.symm
    subst ek
    simp only [Option.map_some, Option.some.injEq] at hd
    rw [← hd, hx]
    simp [Rep]
theorem vi_range1 (hg : Gl X "range") (hm : X.mg "range" = none) (ha : VE X a fa Ta sa) (hs : starEach [a] X.env = [(false, eval a X.env)] := by rfl) : VI X tg (.Call (.Name "range" p) [a] [] pos) (range1I fa) Ta [] := by
  refine ⟨fun W tk => pi_imp (pi_range1 hg hm (pa_cons (ha.run W tk) pa_nil hs) hs) fun σ H R ⟨Z, env, Fs, S, c⟩ => ⟨Z, env, Fs, S, ?_⟩⟩
  unfold range1I bnd at c
  cases q : fa env with
  | err => rw [q] at c; exact c.elim
  | exc x fs e1 => rw [q] at c; exact c
  | ok d e1 =>
    rw [q] at c
    intro v H1 Z1 Fs1 F1 S1 t1 r1 p1
    cases d <;> first | exact c.elim | skip
    rename_i j
    simp only [Rep] at r1
    dsimp only at c
    split at c
    · rename_i hj
      obtain ⟨h1, h2⟩ := small62_iff hj
      refine ⟨j, by rw [r1.1], h1, h2, ?_⟩
      have := c (Itr 0 (j - 0).toNat) H1 Z1 Fs1 [] S1 t1 walkD_range fun _ h => by simp at h
      simpa using this
    · exact c.elim
theorem vi_range2 (hg : Gl X "range") (hm : X.mg "range" = none) (ha : VE X a fa Ta sa) (hb : VE X b fb Tb sb) (hs : starEach [a, b] X.env = [(false, eval a X.env), (false, eval b X.env)] := by rfl) (hs2 : starEach [b] X.env = [(false, eval b X.env)] := by rfl) :
    VI X tg (.Call (.Name "range" p) [a, b] [] pos) (range2I fa fb) (tor Ta Tb) [] := by
  refine ⟨fun W tk => pi_imp (pi_range2 hg hm (pa_cons (ha.run W tk) (pa_cons (hb.run W tk) pa_nil hs2) (by rw [hs, hs2])) hs hs2) fun σ H R ⟨Z, env, Fs, S, c⟩ => ⟨Z, env, Fs, S, ?_⟩⟩
  unfold range2I bnd at c
  cases q : fa env with
  | err => rw [q] at c; exact c.elim
  | exc x fs e1 => rw [q] at c; exact fun cls dd H' Z' Fs' S' t r => c cls dd H' Z' Fs' S' (t.mono fun i q => (tor_sub i q).1) r
  | ok d e1 =>
    rw [q] at c
    intro v H1 Z1 Fs1 F1 S1 t1 r1 p1
    refine ⟨Z1, e1, Fs1, S1, ?_⟩
    dsimp only at c
    cases q2 : fb e1 with
    | err => rw [q2] at c; exact c.elim
    | exc x fs e2 => rw [q2] at c; exact fun cls dd H' Z' Fs' S' t r => c cls dd H' Z' Fs' S' (t1.trans t tor_sub) r
    | ok d2 e2 =>
      rw [q2] at c
      intro v2 H2 Z2 Fs2 F2 S2 t2 r2 p2
      cases d <;> first | exact c.elim | skip
      cases d2 <;> first | exact c.elim | skip
      rename_i i j
      simp only [Rep] at r1 r2
      dsimp only at c
      split at c
      · rename_i hj
        simp only [Bool.and_eq_true] at hj
        obtain ⟨h1, h2⟩ := small62_iff hj.1
        obtain ⟨h3, h4⟩ := small62_iff hj.2
        exact ⟨i, j, by rw [r1.1, r2.1], ⟨h1, h2, h3, h4⟩, c (Itr i (j - i).toNat) H2 Z2 Fs2 [] S2 (t1.trans t2 tor_sub) walkD_range fun _ h => by simp at h⟩
      · exact c.elim
theorem enumD_get : ∀ (xs : List D) (n i : Nat), (enumD n xs)[i]? = xs[i]?.map fun d => .tup [.int ((n + i : Nat) : Int), d]
  | [], _, _ => by simp [enumD]
  | x :: xs, n, 0 => by simp [enumD]
  | x :: xs, n, i + 1 => by
    simp only [enumD, List.getElem?_cons_succ]
    rw [enumD_get xs (n + 1) i]
    have e : n + 1 + i = n + (i + 1) := by omega
    rw [e]
theorem enumD_len : ∀ (xs : List D) (n : Nat), (enumD n xs).length = xs.length
  | [], _ => rfl
  | x :: xs, n => by simp [enumD, enumD_len xs (n + 1)]
/-- a new pair -/
theorem rep_pair {K : PySem.W.Frag} {mg : Mg} {Z : Addr → Prop} {H : Hp} {T : Addr} {x y : V} {d e : D} (hT : H T = none) (zs : ∀ a, Z a → ∃ o, H a = some o) (rx : Rep K mg Z H d x []) (ry : Rep K mg Z H e y []) : ∃ Z', Alloc Z H Z' (upd H T (.tup [x, y])) [] ∧ Rep K mg Z' (upd H T (.tup [x, y])) (.tup [d, e]) (.ref T) [] := by
  have al : Alloc Z H (fun a => Z a ∨ a = T) (upd H T (.tup [x, y])) [] := Alloc.tup hT
  refine ⟨_, al, ?_⟩
  simp only [Rep]
  exact ⟨T, [x, y], rfl, .inl ⟨.inr rfl, .inl upd_same⟩, Reps.cons (F := []) (rx.stay (al.stay zs) fun _ h => by simp at h) (Reps.one (ry.stay (al.stay zs) fun _ h => by simp at h))⟩
theorem vi_enum {kk : Nat} {tpos : Pos} {elts : List Expr} (hg : Gl X "enumerate") (hm : X.mg "enumerate" = none) (ha : VE X a f T src) (hs : starEach [a] X.env = [(false, eval a X.env)] := by rfl) : VI X (.Tuple elts kk tpos) (.Call (.Name "enumerate" p) [a] [] pos) (enumI f) T src.toList := by
  refine ⟨fun W tk => pi_imp (pi_enum hg hm (pa_cons (ha.run W tk) pa_nil hs) hs) fun σ H R ⟨Z, env, Fs, S, c⟩ => ⟨Z, env, Fs, S, ?_⟩⟩
  unfold enumI bnd at c
  cases q : f env with
  | err => rw [q] at c; exact c.elim
  | exc x fs e1 => rw [q] at c; exact c
  | ok d e1 =>
    rw [q] at c
    intro v H1 Z1 Fs1 F1 S1 t1 r1 p1
    cases d <;> first | exact c.elim | skip
    rename_i o xs
    dsimp only at c
    split at c
    · exact c.elim
    · rename_i ho
      have ho : D.owns xs = false := by simpa using ho
      have wk : ∀ {p : Addr} {vs : List V} {G Fd : List Addr}, Reps X.K X.mg Z1 H1 xs vs G → (∀ Z H, Stay Z1 Z H1 H → (∀ a ∈ Fd, H a = H1 a) → SqL X.K H p vs) → WalkD X.K X.mg (Ite X.K p) (enumD 0 xs) Z1 H1 Fd := fun {p vs G Fd} r qq => by
        refine ⟨fun H => SqL X.K H p vs, YPair (fun i => some (.int (i : Nat))) (fun i => vs[i]?), by rw [enumD_len, ← r.length]; exact walk_enum, qq, fun i d Z H x H' hd st hF zs y => ?_⟩
        obtain ⟨T', y1, y2, rfl, hT, rfl, h1, h2⟩ := y
        rw [enumD_get] at hd
        cases qx : xs[i]? with
        | none => rw [qx] at hd; cases hd
        | some d0 =>
          rw [qx] at hd
          simp only [Option.map_some, Option.some.injEq] at hd h1
          subst hd h1
          exact rep_pair hT zs (by simp [Rep]) ((r.item ho qx h2).stay st fun _ h => by simp at h)
      cases o with
      | false =>
        simp only [Rep] at r1
        obtain ⟨a, vs, e, t, r, _⟩ := r1
        exact ⟨a, vs, by rw [e], t.sq, c (Ite X.K a) H1 Z1 Fs1 [] S1 t1 (wk r fun Z H st _ => (t.stay st).sq) fun _ h => by simp at h⟩
      | true =>
        have th := r1.there
        simp only [Rep] at r1
        obtain ⟨a, vs, G, e, t, r, ff⟩ := r1
        subst ff
        exact ⟨a, vs, by rw [e], SqL.of t, c (Ite X.K a) H1 Z1 Fs1 [a] S1 t1 (wk r fun Z H st k => SqL.of ((k a (by simp)).trans t)) (p1.stF th fun b hb => by simp at hb; simp [hb])⟩
theorem zipD_get : ∀ (xs ys : List D) (i : Nat), (zipD xs ys)[i]? = match xs[i]?, ys[i]? with
    | some x, some y => some (.tup [x, y])
    | _, _ => none
  | [], ys, i => by simp [zipD]
  | x :: xs, [], i => by
    simp only [zipD, List.getElem?_nil]
    cases (x :: xs)[i]? <;> rfl
  | x :: xs, y :: ys, 0 => by simp [zipD]
  | x :: xs, y :: ys, i + 1 => by
    simp only [zipD, List.getElem?_cons_succ]
    exact zipD_get xs ys i
theorem zipD_len : ∀ (xs ys : List D), (zipD xs ys).length = min xs.length ys.length
  | [], _ => by simp [zipD]
  | _ :: _, [] => by simp [zipD]
  | x :: xs, y :: ys => by simp [zipD, zipD_len xs ys, Nat.succ_min_succ]
theorem walk_zipT {K : PySem.W.Frag} {a b : Addr} {xs ys : List V} {n : Nat} (hn : n = min xs.length ys.length) : Walk (RZ.ItzT K a b) n (fun H => SqT K H a xs ∧ SqT K H b ys) (YPair (fun i => xs[i]?) (fun i => ys[i]?)) := by
  subst hn
  refine ⟨fun i H hi q => ?_, fun H q => ⟨xs, ys, q.1, q.2, by omega⟩, fun i H v H' hi q y => ?_⟩
  · exact ⟨xs, ys, xs[i]'(by omega), ys[i]'(by omega), q.1, q.2, List.getElem?_eq_getElem _, List.getElem?_eq_getElem _⟩
  · obtain ⟨T, x, z, h1, h2, h3, h4, h5⟩ := y
    exact ⟨T, x, z, h1, h2, h3, h4 xs q.1, h5 ys q.2⟩
theorem zip_item {K : PySem.W.Frag} {mg : Mg} {Z0 Z : Addr → Prop} {H0 H H' : Hp} {xs ys : List D} {vs us : List V} {G1 G2 : List Addr} {i : Nat} {d : D} {x : V} (r1 : Reps K mg Z0 H0 xs vs G1) (r2 : Reps K mg Z0 H0 ys us G2) (o1 : D.owns xs = false) (o2 : D.owns ys = false)
    (hd : (zipD xs ys)[i]? = some d) (st : Stay Z0 Z H0 H) (zs : ∀ a, Z a → ∃ o, H a = some o) (y : YPair (fun i => vs[i]?) (fun i => us[i]?) i H x H') : ∃ Z', Alloc Z H Z' H' [] ∧ Rep K mg Z' H' d x [] := by
  obtain ⟨T', y1, y2, rfl, hT, rfl, h1, h2⟩ := y
  rw [zipD_get] at hd
  cases qx : xs[i]? with
  | none => rw [qx] at hd; cases hd
  | some d0 =>
    cases qy : ys[i]? with
    | none => rw [qx, qy] at hd; cases hd
    | some d1 =>
      rw [qx, qy] at hd
      simp only [Option.some.injEq] at hd
      subst hd
      exact rep_pair hT zs ((r1.item o1 qx h1).stay st fun _ h => by simp at h) ((r2.item o2 qy h2).stay st fun _ h => by simp at h)
/-- what a list is read by, and what has to stay for it -/
theorem lst_read {K : PySem.W.Frag} {mg : Mg} {Z : Addr → Prop} {H : Hp} {o : Bool} {xs : List D} {v : V} {F : List Addr} (r : Rep K mg Z H (.lst o xs) v F) : ∃ (a : Addr) (vs : List V) (G Fd : List Addr), v = .ref a ∧ SqL K H a vs ∧ Reps K mg Z H xs vs G ∧ (∀ b ∈ Fd, b ∈ F) ∧ ∀ Z' H', Stay Z Z' H H' → (∀ b ∈ Fd, H' b = H b) → SqL K H' a vs := by
  cases o with
  | false =>
    simp only [Rep] at r
    obtain ⟨a, vs, e, t, r, _⟩ := r
    exact ⟨a, vs, [], [], e, t.sq, r, fun _ h => by simp at h, fun Z' H' st _ => (t.stay st).sq⟩
  | true =>
    simp only [Rep] at r
    obtain ⟨a, vs, G, e, t, r, ff⟩ := r
    exact ⟨a, vs, G, [a], e, SqL.of t, r, fun b hb => by rw [ff]; simp at hb; simp [hb], fun Z' H' st k => SqL.of ((k a (by simp)).trans t)⟩
theorem vi_zip {kk : Nat} {tpos : Pos} {elts : List Expr} (k : Bool) (hg : Gl X "zip") (hm : X.mg "zip" = none) (ha : VE X a fa Ta sa) (hb : VE X b fb Tb sb) (hk : k = true → ∀ i, sa = some i → Tb i = false)
    (hs : starEach [a, b] X.env = (false, eval a X.env) :: starEach [b] X.env := by rfl) (hs2 : starEach [b] X.env = (false, eval b X.env) :: starEach [] X.env := by rfl) (hpl : ∀ pos, (backTo pos (starEach [b] X.env)).any (·.1) = false := by intro _; rfl) :
    VI X (.Tuple elts kk tpos) (.Call (.Name "zip" p) [a, b] [] pos) (zipI k fa fb) (tor Ta Tb) (sa.toList ++ sb.toList) := by
  refine ⟨fun W tk => pi_imp (RZ.pi_zipA hg hm (pa_cons (ha.run W tk) (pa_cons (hb.run W tk) pa_nil hs2) hs) hs (hpl pos)) fun σ H R ⟨Z, env, Fs, S, c⟩ => ⟨Z, env, Fs, S, ?_⟩⟩
  unfold zipI bnd at c
  cases q : fa env with
  | err => rw [q] at c; exact c.elim
  | exc x fs e1 => rw [q] at c; exact fun cls dd H' Z' Fs' S' t r => c cls dd H' Z' Fs' S' (t.mono fun i q => (tor_sub i q).1) r
  | ok d e1 =>
    rw [q] at c
    intro v H1 Z1 Fs1 F1 S1 t1 r1 p1
    refine ⟨Z1, e1, Fs1, S1, ?_⟩
    dsimp only at c
    by_cases hc : (k || !d.own) = true
    · rw [if_pos hc] at c
      cases q2 : fb e1 with
      | err => rw [q2] at c; exact c.elim
      | exc x fs e2 => rw [q2] at c; exact fun cls dd H' Z' Fs' S' t r => c cls dd H' Z' Fs' S' (t1.trans t tor_sub) r
      | ok d2 e2 =>
        rw [q2] at c
        intro v2 H2 Z2 Fs2 F2 S2 t2 r2 p2
        dsimp only at c
        have hk' : d.own = false ∨ ∀ i, sa = some i → Tb i = false := (Bool.or_eq_true_iff.mp hc).elim (fun q => .inr (hk q)) fun q => .inl (by simpa using q)
        have r1' := Rep.over S1 p1 r1 t2 hk'
        -- what has to stay for the first one
        have sf1 : ∀ {G : List Addr}, (∀ a ∈ G, a ∈ F1) → StF (sa.toList ++ sb.toList) H2 Fs2 G := fun {G} sub a hm0 => by
          have hm1 := sub a hm0
          clear hm0 ha hk c
          cases sa with
          | none => exact .inl ⟨((p1.over r1.there t2).2 a hm1).1, r1'.there a hm1⟩
          | some i =>
            rcases hk' with z | z
            · rw [r1.unown z] at hm1; cases hm1
            · exact .inr ⟨i, by simp, by rw [(t2.un i (z i rfl)).2.1]; exact p1.2 a hm1⟩
        have sf2 : ∀ {G : List Addr}, (∀ a ∈ G, a ∈ F2) → StF (sa.toList ++ sb.toList) H2 Fs2 G := fun {G} sub a ha => by
          rcases p2.stF r2.there sub a ha with z | ⟨i, z1, z2⟩
          · exact .inl z
          · exact .inr ⟨i, by simp [z1], z2⟩
        have tt := t1.trans t2 (T := tor Ta Tb) tor_sub
        cases d <;> first | exact c.elim | skip
        · cases d2 <;> first | exact c.elim | skip
          rename_i xs ys
          dsimp only at c
          split at c
          · exact c.elim
          · rename_i ho
            simp only [Bool.or_eq_true, not_or, Bool.not_eq_true] at ho
            simp only [Rep] at r1' r2
            obtain ⟨a1, vs1, e1, h1, g1⟩ := r1'
            obtain ⟨a2, vs2, e2, h2, g2⟩ := r2
            subst e1 e2
            refine ⟨a1, a2, vs1, vs2, rfl, .inr ⟨h1.sq, h2.sq, c (RZ.ItzT X.K a1 a2) H2 Z2 Fs2 [] S2 tt ⟨fun H => SqT X.K H a1 vs1 ∧ SqT X.K H a2 vs2, _, walk_zipT (by rw [zipD_len, g1.length, g2.length]), fun Z H st _ => ⟨(h1.stay st).sq, (h2.stay st).sq⟩, fun i d Z H x H' hd st hF zs y => zip_item g1 g2 ho.1 ho.2 hd st zs y⟩ fun _ h => by simp at h⟩⟩
        · cases d2 <;> first | exact c.elim | skip
          rename_i o1 xs o2 ys
          dsimp only at c
          split at c
          · exact c.elim
          · rename_i ho
            simp only [Bool.or_eq_true, not_or, Bool.not_eq_true] at ho
            obtain ⟨a1, vs1, G1, Fd1, e1, h1, g1, s1, k1⟩ := lst_read r1'
            obtain ⟨a2, vs2, G2, Fd2, e2, h2, g2, s2, k2⟩ := lst_read r2
            subst e1 e2
            refine ⟨a1, a2, vs1, vs2, rfl, .inl ⟨h1, h2, c (Itz X.K a1 a2) H2 Z2 Fs2 (Fd1 ++ Fd2) S2 tt ⟨fun H => SqL X.K H a1 vs1 ∧ SqL X.K H a2 vs2, _, walk_zip (by rw [zipD_len, g1.length, g2.length]), fun Z H st hF => ⟨k1 Z H st fun b hb => hF b (by simp [hb]), k2 Z H st fun b hb => hF b (by simp [hb])⟩, fun i d Z H x H' hd st hF zs y => zip_item g1 g2 ho.1 ho.2 hd st zs y⟩ fun b hb => (List.mem_append.mp hb).elim (sf1 s1 b) (sf2 s2 b)⟩⟩
    · rw [if_neg hc] at c
      exact c.elim
end

/-! ### for -/
def gtb (g : M Unit) (k : M Fl) : M Fl := fun env => match g env with
  | .ok _ e => k e
  | _ => .err
def forM (gt : D → M Unit) (fb : M Fl) : List D → M Fl
  | [] => pur .nx
  | d :: ds => if d.own then bad else gtb (gt d) <| bnd fb fun r => match r with
    | .nx => forM gt fb ds
    | .ct => forM gt fb ds
    | .bk => pur .nx
    | .rt d => pur (.rt d)
def forS (fi : M (List D)) (gt : D → M Unit) (fb : M Fl) : M Fl := bnd fi fun ds => forM gt fb ds
section
variable {X : Cx} {tg iter : Expr} {body : List Stmt} {pos : Pos} {fi : M (List D)} {gt : D → M Unit} {fb : M Fl} {Ti Tg Tb : Nat → Bool} {srcs : List Nat}
theorem vs_for (hp : ∀ W, Takes X W → PassesOwn (model X.prog X.w) X.A X.env X.xe) (hc : X.calm = true) (hi : VI X tg iter fi Ti srcs) (hg : VGt X tg gt Tg) (hb : VSs X body fb Tb) (hu : ∀ i ∈ srcs, tor Tg Tb i = false) (hs : ∀ x, foldedSetIterable iter X.env x = pure x := by intro _; rfl) :
    VS X (.For tg iter body [] pos) (forS fi gt fb) (tor Ti (tor Tg Tb)) := by
  refine ⟨fun W tk => ps_imp (ps_for (hp W tk) hc (hi.run W tk) hg.run (hb.run W tk) hs) fun D σ H ⟨Z, env, Fs, S, c⟩ => ⟨Z, env, Fs, S, ?_⟩⟩
  unfold forS bnd at c
  cases q : fi env with
  | err => rw [q] at c; exact c.elim
  | exc x fs e1 => rw [q] at c; exact fun cls dd H' Z' Fs' S' t r => c cls dd σ H' Z' Fs' S' (t.mono fun i q => (tor_sub i q).1) Pin.refl r
  | ok ds e1 =>
    rw [q] at c
    dsimp only at c
    intro J H1 Z1 Fs1 Fd S1 t1 wk sf
    have c := ContS.step (T2 := tor Tg Tb) c t1 tor_sub Pin.refl
    obtain ⟨G, Y, w, hG, hY⟩ := wk
    -- what holds between two turns
    refine for_it w (fun i σ' H' => ∃ Z' env' Fs', SR X.K X.mg Z' H' σ' env' Fs' ∧ Tr (tor Tg Tb) Z1 H1 e1 Fs1 Z' H' env' Fs' ∧ ContS X.K X.mg (tor Tg Tb) W D σ' Z' H' env' Fs' (forM gt fb (ds.drop i) env')) ⟨Z1, e1, Fs1, S1, Tr.refl, by simpa using c⟩ ?_ ?_ ?_
    · rintro i σ' H' hi ⟨Z', env', Fs', S', t', c'⟩
      refine hG Z' H' (t'.stay S1) fun a ha => ?_
      rcases sf a ha with ⟨z1, o, z2⟩ | ⟨j, z1, z2⟩
      · rw [z2]; exact t'.keep a o z2 z1
      · exact (t'.un j (hu j z1)).2.2 a z2
    · rintro i x σ' H' H2 hi ⟨Z', env', Fs', S', t', c'⟩ y
      have hd : ds[i]? = some ds[i] := List.getElem?_eq_getElem hi
      rw [List.drop_eq_getElem_cons hi] at c'
      unfold forM at c'
      split at c'
      · exact c'.elim
      · unfold gtb bnd at c'
        obtain ⟨Z2, al, r⟩ := hY i ds[i] Z' H' x H2 hd (t'.stay S1) (fun a ha => by
          rcases sf a ha with ⟨z1, o, z2⟩ | ⟨j, z1, z2⟩
          · rw [z2]; exact t'.keep a o z2 z1
          · exact (t'.un j (hu j z1)).2.2 a z2) S'.zs y
        have S2 := S'.alloc al
        have ta : Tr T0 Z' H' env' Fs' Z2 H2 env' Fs' := Tr.alloc S' al
        have c2 := ContS.step (T2 := tor Tg Tb) c' ta (fun i q => ⟨rfl, q⟩) Pin.refl
        cases qg : gt ds[i] env' with
        | err => rw [qg] at c2; exact c2.elim
        | exc x fs e2 => rw [qg] at c2; exact c2.elim
        | ok u e2 =>
          rw [qg] at c2
          dsimp only at c2
          refine ⟨Z2, env', Fs', _, S2, r, e2, qg, fun σ3 Fs3 S3 t3 p3 o3 l3 => ?_⟩
          have t03 : Tr (tor Tg Tb) Z1 H1 e1 Fs1 Z2 H2 e2 Fs3 := (t'.trans (ta.trans t3 (T := Tg) fun i q => ⟨rfl, q⟩) (T := tor Tg Tb) fun i q => ⟨q, (tor_sub i q).1⟩)
          have c3 := ContS.step (T2 := tor Tg Tb) c2 t3 (fun i q => ⟨(tor_sub i q).1, q⟩) p3
          refine ⟨Z2, e2, Fs3, S3, ?_⟩
          cases qb : fb e2 with
          | err => rw [qb] at c3; exact c3.elim
          | exc x fs e4 =>
            rw [qb] at c3
            exact fun cls dd σ' H' Z' Fs' S t p r => c3 cls dd σ' H' Z' Fs' S (t.mono fun i q => (tor_sub i q).2) p r
          | ok dd e4 =>
            rw [qb] at c3
            have nx : ∀ {σ5 H5 Z5 Fs5}, SR X.K X.mg Z5 H5 σ5 e4 Fs5 → Tr Tb Z2 H2 e2 Fs3 Z5 H5 e4 Fs5 → Pin e2.p σ3 σ5 → ContS X.K X.mg (tor Tg Tb) W D σ3 Z2 H2 e2 Fs3 (forM gt fb (ds.drop (i + 1)) e4) →
                ∃ Z' env' Fs', SR X.K X.mg Z' H5 σ5 env' Fs' ∧ Tr (tor Tg Tb) Z1 H1 e1 Fs1 Z' H5 env' Fs' ∧ ContS X.K X.mg (tor Tg Tb) W D σ5 Z' H5 env' Fs' (forM gt fb (ds.drop (i + 1)) env') :=
              fun {σ5 H5 Z5 Fs5} S t p cc => ⟨Z5, e4, Fs5, S, t03.trans t fun i q => ⟨q, (tor_sub i q).2⟩, ContS.step cc t (fun i q => ⟨(tor_sub i q).2, q⟩) p⟩
            cases dd with
            | rt d => exact fun v σ' H' Z' Fs' Fd S t p r w => c3 v σ' H' Z' Fs' Fd S (t.mono fun i q => (tor_sub i q).2) p r w
            | bk => exact fun σ' H' Z' Fs' S t p => c3 σ' H' Z' Fs' S (t.mono fun i q => (tor_sub i q).2) p
            | ct => exact fun σ' H' Z' Fs' S t p => nx S t p c3
            | nx => exact fun σ' H' Z' Fs' S t p => nx S t p c3
    · rintro σ' H' ⟨Z', env', Fs', S', t', c'⟩
      rw [List.drop_length] at c'
      exact c' σ' H' Z' Fs' S' Tr.refl Pin.refl
end
end VI
/-! V10: list comprehensions -/
namespace VI
open PySem PySem.Spec L2

def Env.dropL (env : Env) : List Nat → Env
  | [] => env
  | i :: is => (env.dropL is).drop i
/-- the slots of e1 again -/
def Env.restL (env e1 : Env) : List Nat → Env
  | [] => env
  | i :: is => match e1.s[i]? with
    | some (some d) => (env.restL e1 is).put i d
    | _ => (env.restL e1 is).drop i
def savedOk (e1 : Env) (vs : List Nat) : Bool := vs.all fun i => match e1.s[i]? with
  | some (some d) => !d.own
  | _ => true
def compLoop (gt : D → M Unit) (ft : M Bool) (fe : M D) (vs : List Nat) : List D → List D → M (List D)
  | [], acc => pur acc
  | d :: ds, acc => fun env => if d.own then .err else match gt d env with
    | .ok _ e1 => (match ft e1 with
      | .ok true e2 => (match fe e2 with
        | .ok y e3 => if acc.length < 16777216 then compLoop gt ft fe vs ds (acc ++ [y]) (e3.dropL vs) else .err
        | _ => .err)
      | .ok false e2 => compLoop gt ft fe vs ds acc (e2.dropL vs)
      | _ => .err)
    | _ => .err
def compM (vs : List Nat) (fi : M (List D)) (gt : D → M Unit) (ft : M Bool) (fe : M D) : M D := bnd fi fun ds e1 =>
  if savedOk e1 vs = true then (match compLoop gt ft fe vs ds [] (e1.dropL vs) with
    | .ok acc e2 => .ok (.lst true acc) (e2.restL e1 vs)
    | _ => .err) else .err
def fsetL (Fs : Nat → List Addr) (vs : List Nat) : Nat → List Addr := fun j => if j ∈ vs then [] else Fs j
section
variable {K : PySem.W.Frag} {mg : Mg} {Z Z' Z1 Z2 : Addr → Prop} {H H' H1 H2 : Hp} {σ σ1 : L2.St} {env env' env1 env2 : Env} {Fs Fs' Fs1 Fs2 : Nat → List Addr} {T T' T1 T2 : Nat → Bool} {vs : List Nat}
theorem dropL_in : ∀ {vs : List Nat} {env : Env} {j : Nat}, j ∈ vs → ∀ d, (env.dropL vs).s[j]? ≠ some (some d)
  | i :: is, env, j, h, d => by
    intro q
    simp only [Env.dropL, Env.drop] at q
    by_cases e : i = j
    · subst e
      by_cases hl : i < (env.dropL is).s.length
      · rw [List.getElem?_set_self hl] at q; cases q
      · rw [List.getElem?_eq_none (by simpa using hl)] at q; cases q
    · rw [List.getElem?_set_ne e] at q
      exact dropL_in ((List.mem_cons.mp h).resolve_left (Ne.symm e)) d q
theorem dropL_out : ∀ {vs : List Nat} {env : Env} {j : Nat}, j ∉ vs → (env.dropL vs).s[j]? = env.s[j]?
  | [], _, _, _ => rfl
  | i :: is, env, j, h => by
    simp only [List.mem_cons, not_or] at h
    simp only [Env.dropL, Env.drop]
    rw [List.getElem?_set_ne (Ne.symm h.1)]
    exact dropL_out h.2
theorem dropL_get : ∀ {vs : List Nat} {env : Env} {j : Nat}, j ∈ vs → j < env.s.length → (env.dropL vs).s[j]? = some none
  | i :: is, env, j, h, hl => by
    have dl : ∀ {vs : List Nat} {env : Env}, (env.dropL vs).s.length = env.s.length := fun {vs} => by
      induction vs with
      | nil => intro env; rfl
      | cons i is ih => intro env; simp only [Env.dropL, Env.drop, List.length_set]; exact ih
    simp only [Env.dropL, Env.drop]
    by_cases e : i = j
    · subst e
      rw [List.getElem?_set_self (by rw [dl]; exact hl)]
    · rw [List.getElem?_set_ne e]
      exact dropL_get ((List.mem_cons.mp h).resolve_left (Ne.symm e)) hl
theorem dropL_len : ∀ {vs : List Nat} {env : Env}, (env.dropL vs).s.length = env.s.length ∧ (env.dropL vs).p = env.p
  | [], _ => ⟨rfl, rfl⟩
  | i :: is, env => by
    simp only [Env.dropL, Env.drop, List.length_set]
    exact dropL_len (vs := is)
theorem dropL_same {vs : List Nat} {a b : Env} {j : Nat} (h : j ∈ vs) (hl : a.s.length = b.s.length) : (a.dropL vs).s[j]? = (b.dropL vs).s[j]? := by
  by_cases q : j < b.s.length
  · rw [dropL_get h q, dropL_get h (by omega)]
  · rw [List.getElem?_eq_none (by rw [dropL_len.1]; omega), List.getElem?_eq_none (by rw [dropL_len.1]; omega)]
theorem restL_len : ∀ {vs : List Nat} {env e1 : Env}, (env.restL e1 vs).s.length = env.s.length ∧ (env.restL e1 vs).p = env.p
  | [], _, _ => ⟨rfl, rfl⟩
  | i :: is, env, e1 => by
    simp only [Env.restL]
    split
    · simp only [Env.put, List.length_set]; exact restL_len (vs := is)
    · simp only [Env.drop, List.length_set]; exact restL_len (vs := is)
theorem restL_out : ∀ {vs : List Nat} {env e1 : Env} {j : Nat}, j ∉ vs → (env.restL e1 vs).s[j]? = env.s[j]?
  | [], _, _, _, _ => rfl
  | i :: is, env, e1, j, h => by
    simp only [List.mem_cons, not_or] at h
    simp only [Env.restL]
    split
    · rw [Env.put, List.getElem?_set_ne (Ne.symm h.1)]; exact restL_out h.2
    · rw [Env.drop, List.getElem?_set_ne (Ne.symm h.1)]; exact restL_out h.2
theorem restL_in : ∀ {vs : List Nat} {env e1 : Env} {j : Nat}, env.s.length = e1.s.length → j ∈ vs → (env.restL e1 vs).s[j]? = e1.s[j]?
  | i :: is, env, e1, j, hl, h => by
    simp only [Env.restL]
    by_cases e : i = j
    · subst e
      split
      · rename_i d hd
        rw [Env.put, List.getElem?_set_self (by rw [restL_len.1, hl]; exact (List.getElem?_eq_some_iff.mp hd).1), hd]
      · rename_i hn
        by_cases hlt : i < e1.s.length
        · rw [Env.drop, List.getElem?_set_self (by rw [restL_len.1, hl]; exact hlt)]
          cases q : e1.s[i]? with
          | none => rw [List.getElem?_eq_none_iff] at q; omega
          | some o =>
            cases o with
            | none => rfl
            | some d => exact absurd q (hn d)
        · rw [List.getElem?_eq_none (by simpa [Env.drop, restL_len.1, hl] using hlt), List.getElem?_eq_none (by simpa using hlt)]
    · have h' := (List.mem_cons.mp h).resolve_left (Ne.symm e)
      split
      · rw [Env.put, List.getElem?_set_ne e]; exact restL_in hl h'
      · rw [Env.drop, List.getElem?_set_ne e]; exact restL_in hl h'
theorem fsetL_in {j : Nat} (h : j ∈ vs) : fsetL Fs vs j = [] := if_pos h
theorem fsetL_out {j : Nat} (h : j ∉ vs) : fsetL Fs vs j = Fs j := if_neg h
theorem fsetL_mem {j : Nat} {a : Addr} (h : a ∈ fsetL Fs vs j) : a ∈ Fs j ∧ j ∉ vs := by
  by_cases q : j ∈ vs
  · rw [fsetL_in q] at h; cases h
  · rw [fsetL_out q] at h; exact ⟨h, q⟩
/-- the state without some slots -/
theorem SR.dropL {τ : L2.St} (S : SR K mg Z H σ env Fs) (hl : τ.length = σ.length) (ho : ∀ j, j ∉ vs → τ[j]? = σ[j]?) : SR K mg Z H τ (env.dropL vs) (fsetL Fs vs) where
  len := by rw [dropL_len.1, hl, S.len]
  rep := fun j d e => by
    by_cases q : j ∈ vs
    · exact absurd e (dropL_in q d)
    · rw [dropL_out q] at e
      rw [fsetL_out q, ho j q]
      exact S.rep j d e
  no := fun j h => by
    by_cases q : j ∈ vs
    · exact fsetL_in q
    · rw [fsetL_out q]
      exact S.no j fun d z => h d (by rw [dropL_out q]; exact z)
  nd := fun j => by
    by_cases q : j ∈ vs
    · rw [fsetL_in q]; exact List.nodup_nil
    · rw [fsetL_out q]; exact S.nd j
  dj := fun i j ne a ha hb => S.dj i j ne a (fsetL_mem ha).1 (fsetL_mem hb).1
  zf := fun i a ha => S.zf i a (fsetL_mem ha).1
  zs := S.zs
/-- a thing of nobody's here is written -/
theorem SR.fore {p : Addr} {o : HO} (S : SR K mg Z H σ env Fs) (h1 : ∀ i, p ∉ Fs i) (h2 : ¬ Z p) : SR K mg Z (upd H p o) σ env Fs where
  len := S.len
  rep := fun j d e => by
    obtain ⟨v, q1, q2⟩ := S.rep j d e
    exact ⟨v, q1, q2.stay ⟨fun _ h => h, fun a ha => upd_ne (fun e => by subst e; exact h2 ha)⟩ fun a ha => upd_ne (fun e => by subst e; exact h1 j ha)⟩
  no := S.no
  nd := S.nd
  dj := S.dj
  zf := S.zf
  zs := fun a ha => by
    obtain ⟨u, e⟩ := S.zs a ha
    exact ⟨u, by rw [upd_ne (fun e => by subst e; exact h2 ha)]; exact e⟩
theorem Tr.fore {p : Addr} {o : HO} (t : Tr T Z1 H1 env1 Fs1 Z H env Fs) (hp : H1 p = none) (h : ∀ j, p ∉ Fs1 j) : Tr T Z1 H1 env1 Fs1 Z (upd H p o) env Fs where
  z := t.z
  zn := t.zn
  keep := fun a u e n => by
    rw [upd_ne (ne_of_none e hp)]
    exact t.keep a u e n
  gr := fun a e => by
    by_cases q : a = p
    · subst q; rw [upd_same] at e; cases e
    · rw [upd_ne q] at e; exact t.gr a e
  new := t.new
  un := fun i hi => by
    obtain ⟨u1, u2, u3⟩ := t.un i hi
    exact ⟨u1, u2, fun a ha => by rw [upd_ne (fun e => by subst e; exact h i ha)]; exact u3 a ha⟩
  p := t.p
/-- the state with the slots of an elder one again -/
theorem SR.restL (S1 : SR K mg Z1 H1 σ env1 Fs1) (S : SR K mg Z H σ1 env Fs) (st : Stay Z1 Z H1 H) (hl : σ1.length = σ.length) (ho : ∀ j, j ∉ vs → σ1[j]? = σ[j]?) (hn : ∀ j, j ∈ vs → ∀ d, env.s[j]? ≠ some (some d)) (ok : savedOk env1 vs = true) : SR K mg Z H σ (env.restL env1 vs) Fs where
  len := by rw [restL_len.1, S.len, hl]
  rep := fun j d e => by
    by_cases q : j ∈ vs
    · rw [restL_in (by rw [S.len, hl, S1.len]) q] at e
      obtain ⟨v, q1, q2⟩ := S1.rep j d e
      have ou : d.own = false := by
        have := List.all_eq_true.mp ok j q
        rw [e] at this
        simpa using this
      have e0 := q2.unown ou
      rw [S.no j (hn j q)]
      rw [e0] at q2
      exact ⟨v, q1, q2.stay st fun _ h => by simp at h⟩
    · rw [restL_out q] at e
      obtain ⟨v, q1, q2⟩ := S.rep j d e
      exact ⟨v, by rw [← ho j q]; exact q1, q2⟩
  no := fun j h => by
    by_cases q : j ∈ vs
    · exact S.no j (hn j q)
    · exact S.no j fun d z => h d (by rw [restL_out q]; exact z)
  nd := S.nd
  dj := S.dj
  zf := S.zf
  zs := S.zs
theorem wipe_get : ∀ {vs : List Nat} {σ : L2.St} {j : Nat}, j ∈ vs → j < σ.length → (wipe σ vs)[j]? = some none
  | i :: is, σ, j, h, hl => by
    simp only [wipe]
    by_cases e : i = j
    · subst e
      rw [List.getElem?_set_self (by rw [wipe_length]; exact hl)]
    · rw [List.getElem?_set_ne e]
      exact wipe_get ((List.mem_cons.mp h).resolve_left (Ne.symm e)) hl
theorem wipe_eq {σ τ : L2.St} (hl : τ.length = σ.length) (ho : ∀ j, j ∉ vs → τ[j]? = σ[j]?) : wipe τ vs = wipe σ vs := by
  apply List.ext_getElem?
  intro j
  by_cases q : j ∈ vs
  · by_cases hlt : j < σ.length
    · rw [wipe_get q hlt, wipe_get q (by rw [hl]; exact hlt)]
    · rw [List.getElem?_eq_none (by rw [wipe_length]; omega), List.getElem?_eq_none (by rw [wipe_length]; omega)]
  · rw [wipe_out q, wipe_out q]
    exact ho j q
end
/-- a clause's tests -/
structure VTs (X : Cx) (ifs : List Expr) (f : M Bool) (T : Nat → Bool) : Prop where
  run : ∀ W, Takes X W → PTs X ifs (tT X.K X.mg f T W)
section
variable {X : Cx} {c : Expr} {f : M Bool} {T : Nat → Bool}
theorem vts_nil : VTs X [] (pur true) T0 := ⟨fun W tk => ⟨fun pins s σ H Q I ⟨Z, env, Fs, S, c⟩ => pts_nil.run pins s σ H Q I (c H Z Fs S Tr.refl)⟩⟩
theorem vts_one (h : VT X c f T) : VTs X [c] f T := ⟨fun W tk => pts_one (h.run W tk)⟩
end
section
variable {X : Cx} {elt tg iter : Expr} {ifs : List Expr} {scope : Scope} {own : List (Str × Nat)} {pos : Pos} {fi : M (List D)} {gt : D → M Unit} {ft : M Bool} {fe : M D} {Ti Tg Tt Te : Nat → Bool} {srcs : List Nat} {se : Option Nat} {vs : List Nat}
theorem comp_read {W : WX} {σ : L2.St} {H : Hp} {Q : VK} (hT : ∀ j, Tg j = true → j ∈ vs) (hu : ∀ i ∈ srcs, i ∉ vs ∧ Tt i = false ∧ Te i = false) (h : tE X.K X.mg (compM vs fi gt ft fe) (tor Ti (tor Tt Te)) none W σ H Q) :
    tLc (tI X.K X.mg fi Ti srcs W) (tGt X.K X.mg gt Tg) (tT X.K X.mg ft Tt (fun _ _ _ _ => False)) (tE X.K X.mg fe Te none (fun _ _ _ _ => False)) vs σ H Q := by
  obtain ⟨Z, env, Fs, S, c⟩ := h
  refine ⟨Z, env, Fs, S, ?_⟩
  unfold compM bnd at c
  cases q : fi env with
  | err => rw [q] at c; exact c.elim
  | exc x fs e1 => rw [q] at c; exact fun cls dd H' Z' Fs' S' t r => c cls dd H' Z' Fs' S' (t.mono fun i q => (tor_sub i q).1) r
  | ok ds e1 =>
    rw [q] at c
    dsimp only at c
    intro J H1 Z1 Fs1 Fd S1 t1 wk sf D hD
    split at c
    · rename_i hsv
      cases ql : compLoop gt ft fe vs ds [] (e1.dropL vs) with
      | err => rw [ql] at c; exact c.elim
      | exc x fs e2 => rw [ql] at c; exact c.elim
      | ok accF eF =>
        rw [ql] at c
        dsimp only at c
        have c := Cont.step (T2 := tor Tt Te) c t1 tor_sub
        obtain ⟨G, Y, w, hG, hY⟩ := wk
        have Tgn : ∀ j, j ∉ vs → Tg j = false := fun j hj => by
          cases e : Tg j with
          | false => rfl
          | true => exact absurd (hT j e) hj
        have SD : SR X.K X.mg Z1 H1 (wipe σ vs) (e1.dropL vs) (fsetL Fs1 vs) := S1.dropL (wipe_length _ _) fun j hj => wipe_out hj
        -- what has to stay for the walk
        have keepFd : ∀ {Z' H' env' Fs'}, Tr (tor Tg (tor Tt Te)) Z1 H1 (e1.dropL vs) (fsetL Fs1 vs) Z' H' env' Fs' → ∀ a ∈ Fd, H' a = H1 a := fun {Z' H' env' Fs'} t a ha => by
          rcases sf a ha with ⟨z1, o, z2⟩ | ⟨j, z1, z2⟩
          · rw [z2]; exact t.keep a o z2 fun i z => z1 i (fsetL_mem z).1
          · obtain ⟨u1, u2, u3⟩ := hu j z1
            exact (t.un j (by simp [Tgn j u1, u2, u3])).2.2 a (by rw [fsetL_out u1]; exact z2)
        refine lc_it w (fun i H' => ∃ Z' env' Fs' acc accV Fa, SR X.K X.mg Z' H' (wipe σ vs) env' Fs' ∧ Tr (tor Tg (tor Tt Te)) Z1 H1 (e1.dropL vs) (fsetL Fs1 vs) Z' H' env' Fs' ∧ (∀ j, j ∈ vs → ∀ d, env'.s[j]? ≠ some (some d)) ∧ H' D = some (.lst accV) ∧
          Reps X.K X.mg Z' H' acc accV Fa ∧ Fa.Nodup ∧ (∀ a ∈ Fa, (∀ i, a ∉ Fs' i) ∧ ¬ Z' a ∧ ((∃ j, a ∈ Fs1 j) ∨ H1 a = none)) ∧ (∀ i, D ∉ Fs' i) ∧ ¬ Z' D ∧ D ∉ Fa ∧ compLoop gt ft fe vs (ds.drop i) acc env' = .ok accF eF) ?_ ?_ ?_ ?_
        · have al : Alloc Z1 H1 Z1 (upd H1 D (.lst [])) [D] := Alloc.own hD S1.zs
          refine ⟨Z1, e1.dropL vs, fsetL Fs1 vs, [], [], [], SD.alloc al, Tr.alloc SD al, fun j hj d => dropL_in hj d, upd_same, Reps.nil, List.nodup_nil, fun _ h => by simp at h, fun i z => ?_, (al.fd D (by simp)).2, by simp, by simpa using ql⟩
          obtain ⟨o, e⟩ := S1.tr (fsetL_mem z).1
          rw [hD] at e; cases e
        · rintro i H' hi ⟨Z', env', Fs', acc, accV, Fa, S', t', hn, hDD, ra, na, pa, d1, d2, d3, hl⟩
          exact hG Z' H' (t'.stay SD) (keepFd t')
        · rintro i x H' H2 hi ⟨Z', env', Fs', acc, accV, Fa, S', t', hn, hDD, ra, na, pa, d1, d2, d3, hl⟩ y
          have hd : ds[i]? = some ds[i] := List.getElem?_eq_getElem hi
          rw [List.drop_eq_getElem_cons hi] at hl
          unfold compLoop at hl
          split at hl
          · cases hl
          · obtain ⟨Z2, al, r⟩ := hY i ds[i] Z' H' x H2 hd (t'.stay SD) (keepFd t') S'.zs y
            have S2 := S'.alloc al
            have ta : Tr T0 Z' H' env' Fs' Z2 H2 env' Fs' := Tr.alloc S' al
            cases qg : gt ds[i] env' with
            | err => rw [qg] at hl; cases hl
            | exc x fs e2 => rw [qg] at hl; cases hl
            | ok u e2 =>
              rw [qg] at hl
              dsimp only at hl
              refine ⟨Z2, env', Fs', _, S2, r, e2, qg, fun σ3 Fs3 S3 t3 p3 o3 l3 => ?_⟩
              have ww : wipe σ3 vs = wipe σ vs := by
                rw [wipe_eq (σ := wipe σ vs) (τ := σ3) l3 (fun j hj => o3 j (Tgn j hj))]
                exact wipe_eq (wipe_length _ _) fun j hj => wipe_out hj
              refine ⟨ww, Z2, e2, Fs3, S3, ?_⟩
              have t03 : Tr Tg Z' H' env' Fs' Z2 H2 e2 Fs3 := ta.trans t3 fun i q => ⟨rfl, q⟩
              have σo : ∀ j, j ∉ vs → (wipe σ vs)[j]? = σ3[j]? := fun j hj => (o3 j (Tgn j hj)).symm
              -- back to the turn's end: the slots dropped, what was made so far as it was
              have back : ∀ {T4 : Nat → Bool} {Z4 H4 e4 Fs4}, SR X.K X.mg Z4 H4 σ3 e4 Fs4 → Tr T4 Z' H' env' Fs' Z4 H4 e4 Fs4 → (∀ j, T4 j = false ∨ tor Tg (tor Tt Te) j = true) →
                  SR X.K X.mg Z4 H4 (wipe σ vs) (e4.dropL vs) (fsetL Fs4 vs) ∧ Tr (tor Tg (tor Tt Te)) Z1 H1 (e1.dropL vs) (fsetL Fs1 vs) Z4 H4 (e4.dropL vs) (fsetL Fs4 vs) ∧ H4 D = some (.lst accV) ∧ Reps X.K X.mg Z4 H4 acc accV Fa ∧
                  (∀ a ∈ Fa, (∀ i, a ∉ fsetL Fs4 vs i) ∧ ¬ Z4 a ∧ ((∃ j, a ∈ Fs1 j) ∨ H1 a = none)) ∧ (∀ i, D ∉ fsetL Fs4 vs i) ∧ ¬ Z4 D := fun {T4 Z4 H4 e4 Fs4} S4 t4 hsub => by
                have tt := t'.trans t4 (T := tor Tg (tor Tt Te)) fun j hj => ⟨hj, (hsub j).resolve_right (by rw [hj]; exact Bool.false_ne_true)⟩
                have hD4 : H4 D = some (.lst accV) := t4.keep D _ hDD d1
                have th := ra.there
                have a4 : ∀ a ∈ Fa, H4 a = H' a := fun a ha => by
                  obtain ⟨o, e⟩ := th a ha
                  rw [e]
                  exact t4.keep a o e (pa a ha).1
                refine ⟨S4.dropL l3.symm σo, ⟨tt.z, tt.zn, tt.keep, tt.gr, fun j a ha => tt.new j a (fsetL_mem ha).1, fun j hj => ?_, dropL_len.2.trans tt.p⟩, hD4, Reps.stay (t4.stay S') ra a4, fun a ha => ⟨fun j z => ?_, fun z => ?_, (pa a ha).2.2⟩, fun j z => ?_, fun z => ?_⟩
                · obtain ⟨u1, u2, u3⟩ := tt.un j hj
                  by_cases hj' : j ∈ vs
                  · refine ⟨?_, by rw [fsetL_in hj', fsetL_in hj'], u3⟩
                    exact dropL_same hj' (by rw [S4.len, l3, ← SD.len, dropL_len.1])
                  · exact ⟨by rw [dropL_out hj']; exact u1, by rw [fsetL_out hj']; exact u2, u3⟩
                · obtain ⟨o, e⟩ := th a ha
                  rcases t4.new j a (fsetL_mem z).1 with ⟨k, z⟩ | z
                  · exact (pa a ha).1 k z
                  · rw [e] at z; cases z
                · obtain ⟨o, e⟩ := th a ha
                  rcases t4.zn a z with z | ⟨k, z⟩ | z
                  · exact (pa a ha).2.1 z
                  · exact (pa a ha).1 k z
                  · rw [e] at z; cases z
                · rcases t4.new j D (fsetL_mem z).1 with ⟨k, z⟩ | z
                  · exact d1 k z
                  · rw [hDD] at z; cases z
                · rcases t4.zn D z with z | ⟨k, z⟩ | z
                  · exact d2 z
                  · exact d1 k z
                  · rw [hDD] at z; cases z
              cases qt : ft e2 with
              | err => rw [qt] at hl; cases hl
              | exc x fs e3 => rw [qt] at hl; cases hl
              | ok b e3 =>
                rw [qt] at hl
                intro H5 Z5 Fs5 S5 t5
                have t05 : Tr (tor Tg Tt) Z' H' env' Fs' Z5 H5 e3 Fs5 := t03.trans t5 tor_sub
                cases b with
                | false =>
                  dsimp only at hl
                  rw [if_neg Bool.false_ne_true]
                  obtain ⟨b1, b2, b3, b4, b5, b6, b7⟩ := back S5 t05 fun j => by
                    cases e1 : Tg j <;> cases e2 : Tt j <;> simp [e1, e2]
                  exact ⟨Z5, e3.dropL vs, fsetL Fs5 vs, acc, accV, Fa, b1, b2, fun j hj d => dropL_in hj d, b3, b4, na, b5, b6, b7, d3, hl⟩
                | true =>
                  dsimp only at hl
                  rw [if_pos rfl]
                  refine ⟨Z5, e3, Fs5, S5, ?_⟩
                  cases qe : fe e3 with
                  | err => rw [qe] at hl; cases hl
                  | exc x fs e4 => rw [qe] at hl; cases hl
                  | ok yd e4 =>
                    rw [qe] at hl
                    dsimp only at hl
                    split at hl
                    · rename_i hlt
                      intro yv H6 Z6 Fs6 Fy S6 t6 ry py
                      have t06 : Tr (tor (tor Tg Tt) Te) Z' H' env' Fs' Z6 H6 e4 Fs6 := t05.trans t6 tor_sub
                      obtain ⟨b1, b2, b3, b4, b5, b6, b7⟩ := back S6 t06 fun j => by
                        cases e1 : Tg j <;> cases e2 : Tt j <;> cases e3 : Te j <;> simp [e1, e2, e3]
                      have nDy : D ∉ Fy := fun z => by
                        rcases (py.2 D z).2.2 with ⟨j, z⟩ | z
                        · rcases t05.new j D z with ⟨k, z⟩ | z
                          · exact d1 k z
                          · rw [hDD] at z; cases z
                        · rw [t05.keep D _ hDD d1] at z; cases z
                      refine ⟨accV, b3, by rw [ra.length, sizeLine_eq]; exact hlt, Z6, e4.dropL vs, fsetL Fs6 vs, acc ++ [yd], accV ++ [yv], Fa ++ Fy, b1.fore b6 b7, b2.fore hD fun j z => ?_, fun j hj d => dropL_in hj d, upd_same, ?_, ?_, fun a ha => ?_, b6, b7, ?_, hl⟩
                      · obtain ⟨o, e⟩ := S1.tr (fsetL_mem z).1
                        rw [hD] at e; cases e
                      · have st : Stay Z6 Z6 H6 (upd H6 D (.lst (accV ++ [yv]))) := ⟨fun _ h => h, fun a ha => upd_ne (fun e => by subst e; exact b7 ha)⟩
                        exact Reps.app (Reps.stay st b4 fun a ha => upd_ne (fun e => by subst e; exact d3 ha)) (Reps.one (ry.stay st fun a ha => upd_ne (fun e => by subst e; exact nDy ha)))
                      · refine List.nodup_append.mpr ⟨na, py.1, fun a ha b hb e => ?_⟩
                        subst e
                        obtain ⟨o, e⟩ := ra.there a ha
                        rcases (py.2 a hb).2.2 with ⟨j, z⟩ | z
                        · rcases t05.new j a z with ⟨k, z⟩ | z
                          · exact (pa a ha).1 k z
                          · rw [e] at z; cases z
                        · rw [t05.keep a o e (pa a ha).1] at z; cases z
                      · rcases List.mem_append.mp ha with ha | ha
                        · exact b5 a ha
                        · refine ⟨fun j z => (py.2 a ha).1 j (fsetL_mem z).1, (py.2 a ha).2.1, ?_⟩
                          have t15 := t'.trans t05 (T := fun _ => true) fun i q => by cases q
                          rcases (py.2 a ha).2.2 with ⟨j, z⟩ | z
                          · rcases t15.new j a z with ⟨k, z⟩ | z
                            · exact .inl ⟨k, (fsetL_mem z).1⟩
                            · exact .inr z
                          · exact .inr (t15.gr a z)
                      · intro z
                        exact (List.mem_append.mp z).elim d3 nDy
                    · cases hl
        · rintro H' ⟨Z', env', Fs', acc, accV, Fa, S', t', hn, hDD, ra, na, pa, d1, d2, d3, hl⟩
          rw [List.drop_length] at hl
          simp only [compLoop, pur, Out.ok.injEq] at hl
          obtain ⟨rfl, rfl⟩ := hl
          refine c (.ref D) H' Z' Fs' (D :: Fa) (SR.restL S1 S' (t'.stay SD) (wipe_length _ _) (fun j hj => wipe_out hj) hn hsv) ⟨t'.z, fun a z => ?_, fun a o e n => t'.keep a o e fun i z => n i (fsetL_mem z).1, t'.gr, fun j a ha => ?_, fun j hj => ?_, restL_len.2.trans (t'.p.trans dropL_len.2)⟩ ?_ ⟨List.nodup_cons.mpr ⟨d3, na⟩, fun a ha => ?_⟩
          · rcases t'.zn a z with z | ⟨k, z⟩ | z
            · exact .inl z
            · exact .inr (.inl ⟨k, (fsetL_mem z).1⟩)
            · exact .inr (.inr z)
          · rcases t'.new j a ha with ⟨k, z⟩ | z
            · exact .inl ⟨k, (fsetL_mem z).1⟩
            · exact .inr z
          · by_cases hj' : j ∈ vs
            · have f1 : Fs1 j = [] := by
                cases q1 : e1.s[j]? with
                | none => exact S1.no j fun d z => by rw [q1] at z; cases z
                | some o =>
                  cases o with
                  | none => exact S1.no j fun d z => by rw [q1] at z; cases z
                  | some d =>
                    obtain ⟨v, z1, z2⟩ := S1.rep j d q1
                    refine z2.unown ?_
                    have := List.all_eq_true.mp hsv j hj'
                    rw [q1] at this
                    simpa using this
              refine ⟨restL_in (by rw [S'.len, wipe_length, S1.len]) hj', by rw [f1, S'.no j (hn j hj')], fun a ha => by rw [f1] at ha; cases ha⟩
            · obtain ⟨u1, u2, u3⟩ := t'.un j (by simp [Tgn j hj', tor_sub j hj])
              exact ⟨by rw [restL_out hj', u1, dropL_out hj'], by rw [u2, fsetL_out hj'], fun a ha => u3 a (by rw [fsetL_out hj']; exact ha)⟩
          · simp only [Rep]
            exact ⟨D, accV, Fa, rfl, hDD, ra, rfl⟩
          · rcases List.mem_cons.mp ha with rfl | ha
            · exact ⟨d1, d2, .inr hD⟩
            · exact pa a ha
    · exact c.elim
end
end VI
/-! V11: list comprehensions as values -/
namespace VI
open PySem PySem.Spec L2
section
variable {X : Cx} {elt tg iter : Expr} {ifs : List Expr} {scope : Scope} {own : List (Str × Nat)} {pos : Pos} {fi : M (List D)} {gt : D → M Unit} {ft : M Bool} {fe : M D} {Ti Tg Tt Te : Nat → Bool} {srcs : List Nat}
theorem takes0 {X : Cx} : Takes X (fun _ _ _ _ => False) := fun u s' h => by
  obtain ⟨_, _, _, _, h⟩ := h
  simp at h
theorem ve_lc (hc : X.calm = true) (hN : X.N.Nodup) (ok : blkC X.N X.env.scope scope own = true) (hi : VI X tg iter fi Ti srcs)
    (hg : ∀ (s : Shared) (H : Hp) (C : Addr) (cl : List (Str × Addr)) (fp : List Addr), VGt (X.blk s H scope (compEnvC scope cl C X.env) fp) tg gt Tg)
    (ht : ∀ (s : Shared) (H : Hp) (C : Addr) (cl : List (Str × Addr)) (fp : List Addr), VTs (X.blk s H scope (compEnvC scope cl C X.env) fp) ifs ft Tt)
    (he : ∀ (s : Shared) (H : Hp) (C : Addr) (cl : List (Str × Addr)) (fp : List Addr), VE (X.blk s H scope (compEnvC scope cl C X.env) fp) elt fe Te none)
    (hT : ∀ j, Tg j = true → j ∈ own.map (·.2)) (hu : ∀ i ∈ srcs, i ∉ own.map (·.2) ∧ Tt i = false ∧ Te i = false) (hs : ∀ x, foldedSetIterable iter X.env x = pure x := by intro _; rfl) :
    VE X (.ListComp elt [⟨tg, iter, ifs, 0⟩] scope pos) (compM (own.map (·.2)) fi gt ft fe) (tor Ti (tor Tt Te)) none := by
  refine ⟨fun W tk => pe_imp (pe_lc (wi := tI X.K X.mg fi Ti srcs W) (g := tGt X.K X.mg gt Tg) (tt := tT X.K X.mg ft Tt (fun _ _ _ _ => False)) (te := tE X.K X.mg fe Te none (fun _ _ _ _ => False)) hc hN (hi.run W tk) (blkOk_by ok) (fun s H C cl fp => (hg s H C cl fp).run) (fun s H C cl fp => (ht s H C cl fp).run _ takes0) (fun s H C cl fp => (he s H C cl fp).run _ takes0) hs) fun σ H Q h => ?_⟩
  exact comp_read hT hu h
end
end VI
/-! V12: operations on values -/
namespace VI
open PySem PySem.Spec L2

theorem res_flat {K : PySem.W.Frag} {mg : Mg} {Z : Addr → Prop} {H : Hp} {d : D} {v : V} {Q : VK} (zs : ∀ a, Z a → ∃ o, H a = some o) (h : Res K mg Z H d Q) (r : Rep K mg Z H d v []) : Q v H := h v H Z [] (Alloc.refl zs) r
theorem OpD.or {X : Cx} {f : Value → Value → Sem Value} {g g1 g2 : D → D → Option D} (h1 : OpD X f g1) (h2 : OpD X f g2) (h : ∀ a b d, g a b = some d → g1 a b = some d ∨ g2 a b = some d) : OpD X f g := by
  obtain ⟨r1, o1, q1⟩ := h1
  obtain ⟨r2, o2, q2⟩ := h2
  refine ⟨_, OpR.or o1 o2, fun {Z H d1 d2 d v1 v2 F1 F2 Q} zs ra rb e res => ?_⟩
  rcases h _ _ _ e with e | e
  · exact .inl (q1 zs ra rb e res)
  · exact .inr (q2 zs ra rb e res)
/-- an operation of two ints -/
theorem opd_int {X : Cx} {f : Value → Value → Sem Value} {C : Int → Int → Prop} {g : Int → Int → V} {gd : D → D → Option D} (h : OpR X f (rI C g))
    (q : ∀ d1 d2 d, gd d1 d2 = some d → ∃ i j, d1 = .int i ∧ d2 = .int j ∧ C i j ∧ ((∃ k, d = .int k ∧ g i j = .int k) ∨ ∃ b, d = .bl b ∧ g i j = .bl b)) : OpD X f gd := by
  refine ⟨_, h, fun {Z H d1 d2 d v1 v2 F1 F2 Q} zs ra rb e res => ?_⟩
  obtain ⟨i, j, rfl, rfl, hC, hk⟩ := q _ _ _ e
  simp only [Rep] at ra rb
  refine ⟨i, j, ra.1, rb.1, hC, ?_⟩
  rcases hk with ⟨k, rfl, ek⟩ | ⟨k, rfl, ek⟩
  · rw [ek]
    exact res_flat zs res (by simp [Rep])
  · rw [ek]
    exact res_flat zs res (by simp [Rep])
theorem opd_int0 {X : Cx} {f : Value → Value → Sem Value} {g : Int → Int → V} {gd : D → D → Option D} (h : OpR X f (rI0 g))
    (q : ∀ d1 d2 d, gd d1 d2 = some d → ∃ i j, d1 = .int i ∧ d2 = .int j ∧ ((∃ k, d = .int k ∧ g i j = .int k) ∨ ∃ b, d = .bl b ∧ g i j = .bl b)) : OpD X f gd := by
  refine ⟨_, h, fun {Z H d1 d2 d v1 v2 F1 F2 Q} zs ra rb e res => ?_⟩
  obtain ⟨i, j, rfl, rfl, hk⟩ := q _ _ _ e
  simp only [Rep] at ra rb
  refine ⟨i, j, ra.1, rb.1, ?_⟩
  rcases hk with ⟨k, rfl, ek⟩ | ⟨k, rfl, ek⟩
  · rw [ek]
    exact res_flat zs res (by simp [Rep])
  · rw [ek]
    exact res_flat zs res (by simp [Rep])
def subD : D → D → Option D
  | .int i, .int j => some (.int (i - j))
  | _, _ => none
def mulI : D → D → Option D
  | .int i, .int j => if (decide (-(2 ^ 64) < i) && decide (i < 2 ^ 64)) || (decide (-(2 ^ 64) < j) && decide (j < 2 ^ 64)) then some (.int (i * j)) else none
  | _, _ => none
def fdivD : D → D → Option D
  | .int i, .int j => if decide (0 < j) && decide (j < 1073741824) then some (.int (i / j)) else none
  | _, _ => none
def modD : D → D → Option D
  | .int i, .int j => if decide (0 < j) then some (.int (i % j)) else none
  | _, _ => none
def powD : D → D → Option D
  | .int i, .int j => if decide (0 ≤ j) && decide (j ≤ 1000000) && decide (i.natAbs < 2 ^ 64) then some (.int (i ^ j.toNat)) else none
  | _, _ => none
def leD : D → D → Option D
  | .int i, .int j => some (.bl (decide (i ≤ j)))
  | _, _ => none
def gtD : D → D → Option D
  | .int i, .int j => some (.bl (decide (j < i)))
  | _, _ => none
def geD : D → D → Option D
  | .int i, .int j => some (.bl (decide (j ≤ i)))
  | _, _ => none
def ltI : D → D → Option D
  | .int i, .int j => some (.bl (decide (i < j)))
  | _, _ => none
def ltS : D → D → Option D
  | .str i, .str j => some (.bl (decide (i.cps.toList < j.cps.toList)))
  | _, _ => none
def ltD : D → D → Option D
  | .int i, .int j => some (.bl (decide (i < j)))
  | .str i, .str j => some (.bl (decide (i.cps.toList < j.cps.toList)))
  | _, _ => none
def addI : D → D → Option D
  | .int i, .int j => some (.int (i + j))
  | _, _ => none
def addS : D → D → Option D
  | .str x, .str y => if x.length + y.length ≤ 16777216 then some (.str (x ++ y)) else none
  | _, _ => none
def addL : D → D → Option D
  | .lst _ xs, .lst _ ys => if D.owns xs || D.owns ys then none else if xs.length + ys.length ≤ 16777216 then some (.lst true (xs ++ ys)) else none
  | _, _ => none
def addT : D → D → Option D
  | .tup xs, .tup ys => if D.owns xs || D.owns ys then none else if xs.length + ys.length ≤ 16777216 then some (.tup (xs ++ ys)) else none
  | _, _ => none
/-- a thing of the heap -/
def refB : D → Bool
  | .non => false
  | .bl _ => false
  | .int _ => false
  | .str _ => false
  | _ => true
def addD : D → D → Option D
  | .int i, .int j => some (.int (i + j))
  | .str x, .str y => if x.length + y.length ≤ 16777216 then some (.str (x ++ y)) else none
  | .lst _ xs, .lst _ ys => if D.owns xs || D.owns ys then none else if xs.length + ys.length ≤ 16777216 then some (.lst true (xs ++ ys)) else none
  | .tup xs, .tup ys => if D.owns xs || D.owns ys then none else if xs.length + ys.length ≤ 16777216 then some (.tup (xs ++ ys)) else none
  | _, _ => none
def isND : D → D → Option D
  | .non, .non => some (.bl true)
  | _, .non => some (.bl false)
  | _, _ => none
def notND : D → D → Option D
  | .non, .non => some (.bl false)
  | _, .non => some (.bl true)
  | _, _ => none
/-- a text's sign within a text -/
def inSD : D → D → Option D
  | .str x, .str z => match x.cps.toList with
    | [c] => some (.bl (decide (c ∈ z.cps.toList)))
    | _ => none
  | _, _ => none
def ninSD : D → D → Option D
  | .str x, .str z => match x.cps.toList with
    | [c] => some (.bl (!decide (c ∈ z.cps.toList)))
    | _ => none
  | _, _ => none
def negD : D → Option D
  | .int i => some (.int (-i))
  | _ => none
section
variable {X : Cx}
theorem od_sub : OpD X (binaryOp .Sub) subD := opd_int0 op_sub fun d1 d2 d e => by
  unfold subD at e
  split at e <;> cases e
  exact ⟨_, _, rfl, rfl, .inl ⟨_, rfl, rfl⟩⟩
theorem od_addI : OpD X (binaryOp .Add) addI := opd_int0 op_add fun d1 d2 d e => by
  unfold addI at e
  split at e <;> cases e
  exact ⟨_, _, rfl, rfl, .inl ⟨_, rfl, rfl⟩⟩
theorem od_mulI : OpD X (binaryOp .Mult) mulI := opd_int op_mul fun d1 d2 d e => by
  unfold mulI at e
  split at e
  · split at e
    · rename_i h
      cases e
      exact ⟨_, _, rfl, rfl, by simpa [CMul] using h, .inl ⟨_, rfl, rfl⟩⟩
    · cases e
  · cases e
theorem od_fdiv : OpD X (binaryOp .FloorDiv) fdivD := opd_int op_fdiv fun d1 d2 d e => by
  unfold fdivD at e
  split at e
  · split at e
    · rename_i h
      cases e
      exact ⟨_, _, rfl, rfl, by simpa [CDiv] using h, .inl ⟨_, rfl, rfl⟩⟩
    · cases e
  · cases e
theorem od_mod : OpD X (binaryOp .Mod) modD := opd_int op_mod fun d1 d2 d e => by
  unfold modD at e
  split at e
  · split at e
    · rename_i h
      cases e
      exact ⟨_, _, rfl, rfl, by simpa using h, .inl ⟨_, rfl, rfl⟩⟩
    · cases e
  · cases e
theorem od_pow : OpD X (binaryOp .Pow) powD := opd_int op_pow fun d1 d2 d e => by
  unfold powD at e
  split at e
  · split at e
    · rename_i h
      cases e
      simp only [Bool.and_eq_true, decide_eq_true_eq] at h
      exact ⟨_, _, rfl, rfl, ⟨h.1.1, h.1.2, h.2⟩, .inl ⟨_, rfl, rfl⟩⟩
    · cases e
  · cases e
theorem od_le : OpD X (compareOp .LtE) leD := opd_int0 op_le fun d1 d2 d e => by
  unfold leD at e
  split at e <;> cases e
  exact ⟨_, _, rfl, rfl, .inr ⟨_, rfl, rfl⟩⟩
theorem od_gt : OpD X (compareOp .Gt) gtD := opd_int0 op_gt fun d1 d2 d e => by
  unfold gtD at e
  split at e <;> cases e
  exact ⟨_, _, rfl, rfl, .inr ⟨_, rfl, rfl⟩⟩
theorem od_ge : OpD X (compareOp .GtE) geD := opd_int0 op_ge fun d1 d2 d e => by
  unfold geD at e
  split at e <;> cases e
  exact ⟨_, _, rfl, rfl, .inr ⟨_, rfl, rfl⟩⟩
theorem od_ltI : OpD X (compareOp .Lt) ltI := opd_int0 op_lt fun d1 d2 d e => by
  unfold ltI at e
  split at e <;> cases e
  exact ⟨_, _, rfl, rfl, .inr ⟨_, rfl, rfl⟩⟩
theorem od_ltS : OpD X (compareOp .Lt) ltS := by
  refine ⟨_, op_lt_str, fun {Z H d1 d2 d v1 v2 F1 F2 Q} zs ra rb e res => ?_⟩
  unfold ltS at e
  split at e <;> cases e
  simp only [Rep] at ra rb
  exact ⟨_, _, ra.1, rb.1, res_flat zs res (by simp [Rep])⟩
theorem od_lt : OpD X (compareOp .Lt) ltD := OpD.or od_ltI od_ltS fun a b d e => by
  unfold ltD at e
  split at e <;> cases e
  · exact .inl rfl
  · exact .inr rfl
theorem od_addS : OpD X (binaryOp .Add) addS := by
  refine ⟨_, op_add_str, fun {Z H d1 d2 d v1 v2 F1 F2 Q} zs ra rb e res => ?_⟩
  unfold addS at e
  split at e
  · split at e
    · rename_i h
      cases e
      simp only [Rep] at ra rb
      exact ⟨_, _, ra.1, rb.1, by rw [sizeLine_eq]; exact h, res_flat zs res (by simp [Rep])⟩
    · cases e
  · cases e
/-- list + list -/
def rCatQ (K : PySem.W.Frag) : R2 := fun x y H Q => ∃ l b xs zs, x = .ref l ∧ y = .ref b ∧ SqL K H l xs ∧ SqL K H b zs ∧ xs.length + zs.length ≤ sizeLine ∧ ∀ p, H p = none → Q (.ref p) (upd H p (.lst (xs ++ zs)))
theorem op_catQ : OpR X (binaryOp .Add) (rCatQ X.K) := by
  intro pins s σ H x y v u Q I rx ry h
  obtain ⟨l, b, xs, zs, rfl, rfl, hH, hB, hz, q⟩ := h
  cases rx
  cases ry
  obtain ⟨its, r, ⟨⟨cls, dd, data, sl⟩, n, ho, hc, hdd, hd⟩, hs⟩ := I.list hH
  obtain ⟨its2, r2, ⟨⟨cls2, dd2, data2, sl2⟩, n2, ho2, hc2, hdd2, hd2⟩, hs2⟩ := I.list hB
  simp only at hc hd hc2 hd2 hdd hdd2
  subst hc hd hc2 hd2 hdd hdd2
  have l1 := r.length
  have l2 := r2.length
  have hsz : its.toArray.size + its2.toArray.size ≤ sizeLine := by simp only [List.size_toArray]; omega
  have ea : its.toArray ++ its2.toArray = (its ++ its2).toArray := by simp
  refine concat_meets ⟨_, ho, rfl⟩ ⟨_, ho2, rfl⟩ noFill_list_add seq_list_add PySem.F.slot_list_add PySem.F.entry_list_add (PySem.F.args_list_add_2 _ _) (PyProof.Rows.list_addW l b its.toArray its2.toArray n n2 none none sl sl2 hsz) ⟨ho, ho2, ?_⟩
  rw [ea]
  exact ⟨.ref _, _, I.lnew (t' := s.toks) (r.append r2) (by rw [List.length_append]; omega), rfl, q _ I.fresh⟩
theorem tup_read {K : PySem.W.Frag} {mg : Mg} {Z : Addr → Prop} {H : Hp} {xs : List D} {v : V} {F : List Addr} (r : Rep K mg Z H (.tup xs) v F) : ∃ (a : Addr) (vs : List V), v = .ref a ∧ SqT K H a vs ∧ Reps K mg Z H xs vs F := by
  simp only [Rep] at r
  obtain ⟨a, vs, e, t, r⟩ := r
  exact ⟨a, vs, e, t.sq, r⟩
theorem od_addL : OpD X (binaryOp .Add) addL := by
  refine ⟨_, op_catQ, fun {Z H d1 d2 d v1 v2 F1 F2 Q} zs ra rb e res => ?_⟩
  unfold addL at e
  split at e
  · rename_i o1 xs o2 ys
    split at e
    · cases e
    · rename_i ho
      split at e
      · rename_i h
        cases e
        simp only [Bool.or_eq_true, not_or, Bool.not_eq_true] at ho
        obtain ⟨a, vs, G, _, rfl, s1, r1, _⟩ := lst_read ra
        obtain ⟨b, us, G2, _, rfl, s2, r2, _⟩ := lst_read rb
        refine ⟨a, b, vs, us, rfl, rfl, s1, s2, by rw [r1.length, r2.length, sizeLine_eq]; exact h, fun p hp => ?_⟩
        have e1 := r1.unown ho.1
        have e2 := r2.unown ho.2
        subst e1 e2
        have al : Alloc Z H Z (upd H p (.lst (vs ++ us))) [p] := Alloc.own hp zs
        refine res _ _ Z [p] al ?_
        simp only [Rep]
        exact ⟨p, _, [], rfl, upd_same, Reps.stay (al.stay zs) (Reps.app r1 r2) (fun _ h => by simp at h), rfl⟩
      · cases e
  · cases e
theorem od_addT : OpD X (binaryOp .Add) addT := by
  refine ⟨_, op_catA, fun {Z H d1 d2 d v1 v2 F1 F2 Q} zs ra rb e res => ?_⟩
  unfold addT at e
  split at e
  · rename_i xs ys
    split at e
    · cases e
    · rename_i ho
      split at e
      · rename_i h
        cases e
        simp only [Bool.or_eq_true, not_or, Bool.not_eq_true] at ho
        have ra' := ra
        have rb' := rb
        obtain ⟨a, vs, rfl, s1, r1⟩ := tup_read ra
        obtain ⟨b, us, rfl, s2, r2⟩ := tup_read rb
        have e1 := r1.unown ho.1
        have e2 := r2.unown ho.2
        subst e1 e2
        have l1 := r1.length
        have l2 := r2.length
        refine ⟨a, b, vs, us, rfl, rfl, s1, s2, by rw [l1, l2, sizeLine_eq]; exact h, fun hx => ?_, fun hx hy => ?_, fun hx hy p hp => ?_⟩
        · subst hx
          have : xs = [] := List.eq_nil_of_length_eq_zero (by simpa using l1.symm)
          subst this
          exact res_flat zs res (by simpa using rb')
        · subst hy
          have : ys = [] := List.eq_nil_of_length_eq_zero (by simpa using l2.symm)
          subst this
          exact res_flat zs res (by simpa using ra')
        · have al : Alloc Z H (fun a => Z a ∨ a = p) (upd H p (.tup (vs ++ us))) [] := Alloc.tup hp
          refine res _ _ _ [] al ?_
          simp only [Rep]
          exact ⟨p, _, rfl, .inl ⟨.inr rfl, .inl upd_same⟩, Reps.stay (al.stay zs) (Reps.app r1 r2) (fun _ h => by simp at h)⟩
      · cases e
  · cases e
theorem od_add : OpD X (binaryOp .Add) addD := OpD.or (OpD.or od_addI od_addS (g := fun a b => match a, b with | .int i, .int j => addI a b | .str _, .str _ => addS a b | _, _ => none) fun a b d e => by
    split at e
    · exact .inl e
    · exact .inr e
    · cases e) (OpD.or od_addL od_addT (g := fun a b => match a, b with | .lst _ _, .lst _ _ => addL a b | .tup _, .tup _ => addT a b | _, _ => none) fun a b d e => by
    split at e
    · exact .inl e
    · exact .inr e
    · cases e) fun a b d e => by
  unfold addD at e
  split at e
  · exact .inl e
  · exact .inl e
  · exact .inr e
  · exact .inr e
  · cases e
theorem rep_ref {K : PySem.W.Frag} {mg : Mg} {Z : Addr → Prop} {H : Hp} : ∀ {d : D} {v : V} {F : List Addr}, Rep K mg Z H d v F → refB d = true → ∃ a, v = .ref a
  | .tup _, _, _, h, _ => by
    simp only [Rep] at h
    obtain ⟨a, _, e, _⟩ := h
    exact ⟨a, e⟩
  | .lst true _, _, _, h, _ => by
    simp only [Rep] at h
    obtain ⟨a, _, _, e, _⟩ := h
    exact ⟨a, e⟩
  | .lst false _, _, _, h, _ => by
    simp only [Rep] at h
    obtain ⟨a, _, e, _⟩ := h
    exact ⟨a, e⟩
  | .dct true _, _, _, h, _ => by
    simp only [Rep] at h
    obtain ⟨a, _, _, _, e, _⟩ := h
    exact ⟨a, e⟩
  | .dct false _, _, _, h, _ => by
    simp only [Rep] at h
    obtain ⟨a, _, _, e, _⟩ := h
    exact ⟨a, e⟩
  | .ins true _ _, _, _, h, _ => by
    simp only [Rep] at h
    obtain ⟨a, _, _, _, _, e, _⟩ := h
    exact ⟨a, e⟩
  | .ins false _ _, _, _, h, _ => by
    simp only [Rep] at h
    obtain ⟨a, _, _, _, e, _⟩ := h
    exact ⟨a, e⟩
  | .exc _ _, _, _, h, _ => by
    simp only [Rep] at h
    obtain ⟨a, _, _, _, e, _⟩ := h
    exact ⟨a, e⟩
theorem isN_b {K : PySem.W.Frag} {mg : Mg} {Z : Addr → Prop} {H : Hp} {d d2 r : D} {v : V} {F : List Addr} (ra : Rep K mg Z H d v F) (e : isND d d2 = some r) : d2 = .non ∧ r = .bl (decide (v = .non)) := by
  have hb : d2 = .non := by
    cases d <;> cases d2 <;> first | rfl | cases e
  subst hb
  refine ⟨rfl, ?_⟩
  by_cases q : refB d = true
  · obtain ⟨a, rfl⟩ := rep_ref ra q
    cases d <;> first | (exact absurd q Bool.false_ne_true) | (cases e; simp)
  · cases d <;> first | (exact absurd rfl q) | (simp only [Rep] at ra; obtain ⟨rfl, _⟩ := ra; cases e; simp)
theorem od_isN : OpD X (compareOp .Is) isND := by
  refine ⟨_, op_isN, fun {Z H d1 d2 d v1 v2 F1 F2 Q} zs ra rb e res => ?_⟩
  obtain ⟨rfl, rfl⟩ := isN_b ra e
  simp only [Rep] at rb
  exact ⟨rb.1, res_flat zs res (by simp [Rep])⟩
theorem od_notN : OpD X (compareOp .IsNot) notND := by
  refine ⟨_, op_notN, fun {Z H d1 d2 d v1 v2 F1 F2 Q} zs ra rb e res => ?_⟩
  have e' : ∃ b, isND d1 d2 = some (.bl b) ∧ d = .bl (!b) := by
    cases d1 <;> cases d2 <;> first | (cases e; exact ⟨_, rfl, rfl⟩) | cases e
  obtain ⟨b, e1, rfl⟩ := e'
  obtain ⟨rfl, hb⟩ := isN_b ra e1
  cases hb
  simp only [Rep] at rb
  exact ⟨rb.1, res_flat zs res (by simp [Rep])⟩
theorem od_inS : OpD X (compareOp .In) inSD := by
  refine ⟨_, op_in_sign, fun {Z H d1 d2 d v1 v2 F1 F2 Q} zs ra rb e res => ?_⟩
  unfold inSD at e
  split at e
  · rename_i x z
    split at e
    · rename_i c hc
      cases e
      simp only [Rep] at ra rb
      refine ⟨c, z, ?_, rb.1, res_flat zs res (by simp [Rep])⟩
      rw [ra.1]
      congr 1
      cases x
      simp only at hc
      rw [← hc]
    · cases e
  · cases e
theorem od_ninS : OpD X (compareOp .NotIn) ninSD := by
  refine ⟨_, op_notIn_sign, fun {Z H d1 d2 d v1 v2 F1 F2 Q} zs ra rb e res => ?_⟩
  unfold ninSD at e
  split at e
  · rename_i x z
    split at e
    · rename_i c hc
      cases e
      simp only [Rep] at ra rb
      refine ⟨c, z, ?_, rb.1, res_flat zs res (by simp [Rep])⟩
      rw [ra.1]
      congr 1
      cases x
      simp only at hc
      rw [← hc]
    · cases e
  · cases e
theorem ud_neg : UnD X (unaryOp .USub) negD := by
  refine ⟨_, un_neg, fun {Z H d1 d v1 F1 Q} zs ra e res => ?_⟩
  unfold negD at e
  split at e <;> cases e
  simp only [Rep] at ra
  exact ⟨_, ra.1, res_flat zs res (by simp [Rep])⟩
end
end VI
/-! V13: equality, len, places, isinstance -/
namespace VI
open PySem PySem.Spec L2

mutual
def D.dat : D → Option PyData
  | .non => some .none
  | .bl b => some (.bool b)
  | .int i => some (.int i)
  | .str x => some (.str x)
  | .tup xs => match D.dats xs with
    | some ys => some (.tuple ys)
    | none => none
  | .lst _ xs => match D.dats xs with
    | some ys => some (.list ys)
    | none => none
  | _ => none
def D.dats : List D → Option (List PyData)
  | [] => some []
  | x :: xs => match x.dat, D.dats xs with
    | some y, some ys => some (y :: ys)
    | _, _ => none
end
section
variable {K : PySem.W.Frag} {mg : Mg} {Z : Addr → Prop} {H : Hp}
theorem lst_sq {o : Bool} {xs : List D} {v : V} {F : List Addr} (r : Rep K mg Z H (.lst o xs) v F) : ∃ a vs G, v = .ref a ∧ SqL K H a vs ∧ Reps K mg Z H xs vs G := by
  obtain ⟨a, vs, G, _, e, s, r, _⟩ := lst_read r
  exact ⟨a, vs, G, e, s, r⟩
mutual
theorem rep_dp : ∀ {d : D} {v : V} {F : List Addr} {p : PyData}, Rep K mg Z H d v F → d.dat = some p → Dp K H v p
  | .non, v, F, p, r, h => by
    simp only [Rep, D.dat, Option.some.injEq] at r h
    subst h; rw [r.1]; exact .non
  | .bl b, v, F, p, r, h => by
    simp only [Rep, D.dat, Option.some.injEq] at r h
    subst h; rw [r.1]; exact .bl b
  | .int b, v, F, p, r, h => by
    simp only [Rep, D.dat, Option.some.injEq] at r h
    subst h; rw [r.1]; exact .int b
  | .str b, v, F, p, r, h => by
    simp only [Rep, D.dat, Option.some.injEq] at r h
    subst h; rw [r.1]; exact .str b
  | .tup xs, v, F, p, r, h => by
    obtain ⟨a, vs, rfl, s, r⟩ := tup_read r
    unfold D.dat at h
    split at h
    · rename_i ys e
      cases h
      exact .tup s (reps_dp r e)
    · cases h
  | .lst o xs, v, F, p, r, h => by
    obtain ⟨a, vs, G, rfl, s, r⟩ := lst_sq r
    unfold D.dat at h
    split at h
    · rename_i ys e
      cases h
      exact .lst s (reps_dp r e)
    · cases h
  | .dct _ _, _, _, _, _, h | .ins _ _ _, _, _, _, _, h | .exc _ _, _, _, _, _, h => by simp [D.dat] at h
theorem reps_dp : ∀ {xs : List D} {vs : List V} {F : List Addr} {ps : List PyData}, Reps K mg Z H xs vs F → D.dats xs = some ps → DpAll K H vs ps
  | [], vs, F, ps, r, h => by
    simp only [Reps, D.dats, Option.some.injEq] at r h
    subst h; rw [r.1]; exact .nil
  | x :: xs, vs, F, ps, r, h => by
    simp only [Reps] at r
    obtain ⟨v, us, F1, F2, rfl, r1, r2, _⟩ := r
    unfold D.dats at h
    split at h
    · rename_i y ys e1 e2
      cases h
      exact .cons (rep_dp r1 e1) (reps_dp r2 e2)
    · cases h
end
end
/-- both as data -/
def datEq (a b : D) : Option Bool := match a.dat, b.dat with
  | some p, some q => if p.canLay0 && q.canLay0 && decide (min p.depth q.depth ≤ 150) then some (PyData.eqv p q) else none
  | _, _ => none
def eqB : D → D → Option Bool
  | .non, .non => some true
  | .non, .int _ => some false
  | .int _, .non => some false
  | .non, .bl _ => some false
  | .bl _, .non => some false
  | .non, .str _ => some false
  | .str _, .non => some false
  | .int i, .int j => some (decide (i = j))
  | .bl i, .bl j => some (decide (i = j))
  | .str i, .str j => some (decide (i = j))
  | .int _, .str _ => some false
  | .str _, .int _ => some false
  | .bl _, .str _ => some false
  | .str _, .bl _ => some false
  | .lst o xs, .lst o' ys => if xs.length = ys.length then datEq (.lst o xs) (.lst o' ys) else some false
  | .tup [], .tup [] => some true
  | .tup [], .tup (_ :: _) => some false
  | .tup (_ :: _), .tup [] => some false
  | a, b => datEq a b
def eqD (a b : D) : Option D := (eqB a b).map .bl
def neD (a b : D) : Option D := (eqB a b).map fun x => .bl (!x)
/-- what one has for two values that are compared -/
def rEqW (K : PySem.W.Frag) (b : Bool) (r : Bool) : V → V → Hp → Prop := fun x y H => (scal x y = true ∧ b = decide (x = y)) ∨ (∃ d e, Dp K H x d ∧ Dp K H y e ∧ d.canLay0 = true ∧ e.canLay0 = true ∧ min d.depth e.depth ≤ 150 ∧ b = PyData.eqv d e) ∨
  (∃ p q xs ys, x = .ref p ∧ y = .ref q ∧ SqL K H p xs ∧ SqL K H q ys ∧ xs.length ≠ ys.length ∧ b = false) ∨ ∃ p q xs ys, x = .ref p ∧ y = .ref q ∧ SqT K H p xs ∧ SqT K H q ys ∧ (xs = [] ∨ ys = []) ∧ b = (xs.isEmpty && ys.isEmpty)
theorem eqB_read {K : PySem.W.Frag} {mg : Mg} {Z : Addr → Prop} {H : Hp} {d1 d2 : D} {v1 v2 : V} {F1 F2 : List Addr} {b : Bool} (ra : Rep K mg Z H d1 v1 F1) (rb : Rep K mg Z H d2 v2 F2) (e : eqB d1 d2 = some b) : rEqW K b true v1 v2 H := by
  have dq : datEq d1 d2 = some b → rEqW K b true v1 v2 H := fun e => by
    unfold datEq at e
    split at e
    · rename_i p q e1 e2
      split at e
      · rename_i hc
        cases e
        simp only [Bool.and_eq_true, decide_eq_true_eq] at hc
        exact .inr (.inl ⟨p, q, rep_dp ra e1, rep_dp rb e2, hc.1.1, hc.1.2, hc.2, rfl⟩)
      · cases e
    · cases e
  unfold eqB at e
  split at e
  all_goals first
    | (cases e; simp only [Rep] at ra rb; rw [ra.1, rb.1]; exact .inl ⟨rfl, by simp⟩)
    | skip
  · split at e
    · exact dq e
    · rename_i hl
      cases e
      obtain ⟨a, vs, G, rfl, s1, r1⟩ := lst_sq ra
      obtain ⟨c, us, G2, rfl, s2, r2⟩ := lst_sq rb
      exact .inr (.inr (.inl ⟨a, c, vs, us, rfl, rfl, s1, s2, by rw [r1.length, r2.length]; exact hl, rfl⟩))
  · cases e
    obtain ⟨a, vs, rfl, s1, r1⟩ := tup_read ra
    obtain ⟨c, us, rfl, s2, r2⟩ := tup_read rb
    simp only [Reps] at r1 r2
    exact .inr (.inr (.inr ⟨a, c, vs, us, rfl, rfl, s1, s2, .inl r1.1, by rw [r1.1, r2.1]; rfl⟩))
  · cases e
    obtain ⟨a, vs, rfl, s1, r1⟩ := tup_read ra
    obtain ⟨c, us, rfl, s2, r2⟩ := tup_read rb
    have l2 := r2.length
    simp only [Reps] at r1
    refine .inr (.inr (.inr ⟨a, c, vs, us, rfl, rfl, s1, s2, .inl r1.1, ?_⟩))
    cases us with
    | nil => simp at l2
    | cons => simp
  · cases e
    obtain ⟨a, vs, rfl, s1, r1⟩ := tup_read ra
    obtain ⟨c, us, rfl, s2, r2⟩ := tup_read rb
    have l1 := r1.length
    simp only [Reps] at r2
    refine .inr (.inr (.inr ⟨a, c, vs, us, rfl, rfl, s1, s2, .inr r2.1, ?_⟩))
    cases vs with
    | nil => simp at l1
    | cons => simp
  · exact dq e
section
variable {X : Cx}
theorem op_eqW (hu : X.A.units + 150 < cLine) : OpR X (compareOp .Eq) (fun x y H Q => ∃ b, rEqW X.K b true x y H ∧ Q (.bl b) H) := by
  intro pins s σ H x y v u Q I rx ry h
  obtain ⟨b, h, q⟩ := h
  rcases h with ⟨hs, rfl⟩ | ⟨d, e, hd, he, sd, se, hm, rfl⟩ | ⟨p, p', xs, ys, rfl, rfl, h1, h2, hl, rfl⟩ | ⟨p, p', xs, ys, rfl, rfl, h1, h2, hl, rfl⟩
  · exact op_eq pins s σ H x y v u Q I rx ry ⟨hs, q⟩
  · obtain ⟨as, r1⟩ := Dp.reads I d x v hd rx
    obtain ⟨bs, r2⟩ := Dp.reads I e y u he ry
    exact SeqAt.compareEq_reads r1 r2 sd se (by omega) ⟨.bl _, H, I, rfl, q⟩
  · cases rx
    cases ry
    obtain ⟨its, r1, p1, _⟩ := I.list h1
    obtain ⟨its2, r2, p2, _⟩ := I.list h2
    have l1 := r1.length
    have l2 := r2.length
    exact SeqAt.eq_list_lengthsAt p1.isList p2.isList (by simp only [List.size_toArray]; simp; omega) (by omega) ⟨.bl _, H, I, rfl, q⟩
  · cases rx
    cases ry
    obtain ⟨its, r1, p1, _⟩ := I.tuple h1
    obtain ⟨its2, r2, p2, _⟩ := I.tuple h2
    have l1 := r1.length
    have l2 := r2.length
    have h0 : its.length = 0 ∨ its2.length = 0 := hl.imp (fun e => by rw [← l1, e]; rfl) fun e => by rw [← l2, e]; rfl
    refine SeqAt.eq_tupleAt (e := fun _ => true) p1 p2 (by omega) (fun j j1 j2 => ?_) ⟨.bl _, H, I, rfl, ?_⟩
    · simp only [List.size_toArray] at j1 j2
      omega
    · have e : ((List.range (min its.toArray.size its2.toArray.size)).all (fun _ => true) && its.toArray.size == its2.toArray.size) = (xs.isEmpty && ys.isEmpty) := by
        simp only [List.size_toArray]
        rw [← l1, ← l2]
        cases xs <;> cases ys <;> simp_all <;> omega
      rw [e]
      exact q
theorem op_neW (hu : X.A.units + 150 < cLine) : OpR X (compareOp .NotEq) (fun x y H Q => ∃ b, rEqW X.K b true x y H ∧ Q (.bl (!b)) H) := by
  intro pins s σ H x y v u Q I rx ry h
  obtain ⟨b, h, q⟩ := h
  rcases h with ⟨hs, rfl⟩ | ⟨d, e, hd, he, sd, se, hm, rfl⟩ | ⟨p, p', xs, ys, rfl, rfl, h1, h2, hl, rfl⟩ | ⟨p, p', xs, ys, rfl, rfl, h1, h2, hl, rfl⟩
  · exact op_ne pins s σ H x y v u Q I rx ry ⟨hs, q⟩
  · obtain ⟨as, r1⟩ := Dp.reads I d x v hd rx
    obtain ⟨bs, r2⟩ := Dp.reads I e y u he ry
    exact SeqAt.compareNe_reads r1 r2 sd se (by omega) ⟨.bl _, H, I, rfl, q⟩
  · cases rx
    cases ry
    obtain ⟨its, r1, p1, _⟩ := I.list h1
    obtain ⟨its2, r2, p2, _⟩ := I.list h2
    have l1 := r1.length
    have l2 := r2.length
    exact SeqAt.RcNeAt.lists_lengths p1.isList p2.isList (by simp only [List.size_toArray]; simp; omega) (by omega) _ _ _ _ ⟨.bl _, H, I, rfl, q⟩
  · cases rx
    cases ry
    obtain ⟨its, r1, p1, _⟩ := I.tuple h1
    obtain ⟨its2, r2, p2, _⟩ := I.tuple h2
    have l1 := r1.length
    have l2 := r2.length
    have h0 : its.length = 0 ∨ its2.length = 0 := hl.imp (fun e => by rw [← l1, e]; rfl) fun e => by rw [← l2, e]; rfl
    refine SeqAt.RcNeAt.tuples (e := fun _ => true) p1 p2 (by omega) (fun j j1 j2 => ?_) _ _ _ _ ⟨.bl _, H, I, rfl, ?_⟩
    · simp only [List.size_toArray] at j1 j2
      omega
    · have e : ((List.range (min its.toArray.size its2.toArray.size)).all (fun _ => true) && its.toArray.size == its2.toArray.size) = (xs.isEmpty && ys.isEmpty) := by
        simp only [List.size_toArray]
        rw [← l1, ← l2]
        cases xs <;> cases ys <;> simp_all <;> omega
      rw [e]
      exact q
theorem od_eq (hu : X.A.units + 150 < cLine) : OpD X (compareOp .Eq) eqD := by
  refine ⟨_, op_eqW hu, fun {Z H d1 d2 d v1 v2 F1 F2 Q} zs ra rb e res => ?_⟩
  unfold eqD at e
  cases h : eqB d1 d2 with
  | none => rw [h] at e; cases e
  | some b =>
    rw [h] at e
    cases e
    exact ⟨b, eqB_read ra rb h, res_flat zs res (by simp [Rep])⟩
theorem od_ne (hu : X.A.units + 150 < cLine) : OpD X (compareOp .NotEq) neD := by
  refine ⟨_, op_neW hu, fun {Z H d1 d2 d v1 v2 F1 F2 Q} zs ra rb e res => ?_⟩
  unfold neD at e
  cases h : eqB d1 d2 with
  | none => rw [h] at e; cases e
  | some b =>
    rw [h] at e
    cases e
    exact ⟨b, eqB_read ra rb h, res_flat zs res (by simp [Rep])⟩
end
end VI
/-! V14: places within a value -/
namespace VI
open PySem PySem.Spec L2

inductive Stp where
  | ix (i : Nat)
  | key (k : Key)
  | fld (f : Str)
def dAt : List (D × D) → Key → Option D
  | [], _ => none
  | (k', x) :: r, k => if keyD k' = some k then some x else dAt r k
def dSet : List (D × D) → Key → D → List (D × D)
  | [], _, _ => []
  | (k', x) :: r, k, y => if keyD k' = some k then (k', y) :: r else (k', x) :: dSet r k y
def fAt : List (Str × D) → Str → Option D
  | [], _ => none
  | (k', x) :: r, k => if k == k' then some x else fAt r k
def fSet : List (Str × D) → Str → D → List (Str × D)
  | [], _, _ => []
  | (k', x) :: r, k, y => if k == k' then (k', y) :: r else (k', x) :: fSet r k y
def D.at1 : D → Stp → Option D
  | .lst _ xs, .ix i => xs[i]?
  | .tup xs, .ix i => xs[i]?
  | .dct _ kvs, .key k => dAt kvs k
  | .ins _ _ fs, .fld f => fAt fs f
  | _, _ => none
def D.upd1 : D → Stp → D → Option D
  | .lst true xs, .ix i, y => some (.lst true (xs.set i y))
  | .dct true kvs, .key k, y => some (.dct true (dSet kvs k y))
  | .ins true c fs, .fld f, y => some (.ins true c (fSet fs f y))
  | _, _, _ => none
def D.at : D → List Stp → Option D
  | d, [] => some d
  | d, s :: π => match d.at1 s with
    | some d1 => D.at d1 π
    | none => none
def D.upd : D → List Stp → D → Option D
  | _, [], y => some y
  | d, s :: π, y => match d.at1 s with
    | some d1 => (match D.upd d1 π y with
      | some d2 => d.upd1 s d2
      | none => none)
    | none => none
theorem at_app : ∀ {π ρ : List Stp} {d d1 : D}, d.at π = some d1 → d.at (π ++ ρ) = d1.at ρ
  | [], _, d, d1, h => by simp only [D.at, Option.some.injEq] at h; subst h; rfl
  | s :: π, ρ, d, d1, h => by
    simp only [D.at, List.cons_append] at h ⊢
    split at h
    · rename_i d2 e
      exact at_app h
    · cases h
theorem upd_app : ∀ {π ρ : List Stp} {d d1 e dn : D}, d.at π = some d1 → d.upd (π ++ ρ) e = some dn → ∃ e1, d1.upd ρ e = some e1 ∧ d.upd π e1 = some dn
  | [], _, d, d1, e, dn, h, q => by
    simp only [D.at, Option.some.injEq, List.nil_append] at h q
    subst h
    exact ⟨dn, q, rfl⟩
  | s :: π, ρ, d, d1, e, dn, h, q => by
    simp only [D.at, List.cons_append, D.upd] at h q
    cases e1 : d.at1 s with
    | none => rw [e1] at h; cases h
    | some d2 =>
      rw [e1] at h q
      dsimp only at h q
      cases e2 : d2.upd (π ++ ρ) e with
      | none => rw [e2] at q; cases q
      | some d3 =>
        rw [e2] at q
        obtain ⟨x, h1, h2⟩ := upd_app h e2
        refine ⟨x, h1, ?_⟩
        simp only [D.upd, e1, h2]
        exact q

section
variable {K : PySem.W.Frag} {mg : Mg} {Z Z' Z1 Z2 : Addr → Prop} {H H' H1 H2 : Hp}
/-- d1, that v stands for, is at π within d, that u stands for; F, F1: what may be changed in them -/
structure Foc (K : PySem.W.Frag) (mg : Mg) (Z : Addr → Prop) (H : Hp) (d : D) (u : V) (F : List Addr) (π : List Stp) (d1 : D) (v : V) (F1 : List Addr) : Prop where
  at_ : d.at π = some d1
  r : Rep K mg Z H d u F
  r1 : Rep K mg Z H d1 v F1
  nd : F.Nodup
  sub : F1.Sublist F
  up : ∀ Z' H' e F'' dn, d.upd π e = some dn → Stay Z Z' H H' → (∀ a ∈ F, a ∉ F1 → H' a = H a) → Rep K mg Z' H' e v F'' →
    ∃ G, Rep K mg Z' H' dn u G ∧ (∀ a ∈ G, a ∈ F'' ∨ (a ∈ F ∧ a ∉ F1)) ∧ (F''.Nodup → (∀ a ∈ F'', a ∈ F → a ∈ F1) → G.Nodup)
theorem Foc.nil {d : D} {u : V} {F : List Addr} (r : Rep K mg Z H d u F) (nd : F.Nodup) : Foc K mg Z H d u F [] d u F :=
  ⟨rfl, r, r, nd, List.Sublist.refl F, fun Z' H' e F'' dn h st k r' => by
    simp only [D.upd, Option.some.injEq] at h
    subst h
    exact ⟨F'', r', fun a ha => .inl ha, fun n _ => n⟩⟩
theorem Foc.stay {d d1 : D} {u v : V} {F F1 : List Addr} {π : List Stp} (f : Foc K mg Z H d u F π d1 v F1) (st : Stay Z Z1 H H1) (k : ∀ a ∈ F, H1 a = H a) : Foc K mg Z1 H1 d u F π d1 v F1 :=
  ⟨f.at_, f.r.stay st k, f.r1.stay st fun a ha => k a (f.sub.subset ha), f.nd, f.sub, fun Z' H' e F'' dn h s2 k2 r' => f.up Z' H' e F'' dn h (st.trans s2) (fun a ha n => (k2 a ha n).trans (k a ha)) r'⟩
theorem Foc.trans {d d1 d2 : D} {u v w : V} {F F1 F2 : List Addr} {π ρ : List Stp} (f : Foc K mg Z H d u F π d1 v F1) (g : Foc K mg Z H d1 v F1 ρ d2 w F2) : Foc K mg Z H d u F (π ++ ρ) d2 w F2 :=
  ⟨(at_app f.at_).trans g.at_, f.r, g.r1, f.nd, g.sub.trans f.sub, fun Z' H' e F'' dn h st k r' => by
    obtain ⟨e1, h1, h2⟩ := upd_app f.at_ h
    obtain ⟨G1, q1, q2, q3⟩ := g.up Z' H' e F'' e1 h1 st (fun a ha n => k a (f.sub.subset ha) n) r'
    obtain ⟨G, p1, p2, p3⟩ := f.up Z' H' e1 G1 dn h2 st (fun a ha n => k a ha fun z => n (g.sub.subset z)) q1
    refine ⟨G, p1, fun a ha => ?_, fun n s => p3 (q3 n fun a ha hb => s a ha (f.sub.subset hb)) fun a ha hb => ?_⟩
    · rcases p2 a ha with z | z
      · rcases q2 a z with z | z
        · exact .inl z
        · exact .inr ⟨f.sub.subset z.1, z.2⟩
      · exact .inr ⟨z.1, fun y => z.2 (g.sub.subset y)⟩
    · rcases q2 a ha with z | z
      · exact g.sub.subset (s a z hb)
      · exact z.1⟩
/-- one item of a row -/
theorem Reps.focus : ∀ {xs : List D} {vs : List V} {F : List Addr} {i : Nat} {x : D}, Reps K mg Z H xs vs F → xs[i]? = some x → F.Nodup →
    ∃ v F1, vs[i]? = some v ∧ Rep K mg Z H x v F1 ∧ F1.Sublist F ∧ ∀ Z' H' e F'', Stay Z Z' H H' → (∀ a ∈ F, a ∉ F1 → H' a = H a) → Rep K mg Z' H' e v F'' →
      ∃ G, Reps K mg Z' H' (xs.set i e) vs G ∧ (∀ a ∈ G, a ∈ F'' ∨ (a ∈ F ∧ a ∉ F1)) ∧ (F''.Nodup → (∀ a ∈ F'', a ∈ F → a ∈ F1) → G.Nodup)
  | [], vs, F, i, x, r, h, nd => by simp at h
  | x0 :: xs, vs, F, 0, x, r, h, nd => by
    simp only [List.getElem?_cons_zero, Option.some.injEq] at h
    subst h
    simp only [Reps] at r
    obtain ⟨v, us, F1, F2, rfl, r1, r2, rfl⟩ := r
    rw [List.nodup_append] at nd
    refine ⟨v, F1, rfl, r1, List.sublist_append_left _ _, fun Z' H' e F'' st k r' => ⟨F'' ++ F2, ?_, fun a ha => ?_, fun n s => ?_⟩⟩
    · exact Reps.cons r' (Reps.stay st r2 fun a ha => k a (List.mem_append_right _ ha) fun z => nd.2.2 a z a ha rfl)
    · rcases List.mem_append.mp ha with z | z
      · exact .inl z
      · exact .inr ⟨List.mem_append_right _ z, fun y => nd.2.2 a y a z rfl⟩
    · refine List.nodup_append.mpr ⟨n, nd.2.1, fun a ha b hb e => ?_⟩
      subst e
      exact nd.2.2 a (s a ha (List.mem_append_right _ hb)) a hb rfl
  | x0 :: xs, vs, F, i + 1, x, r, h, nd => by
    simp only [List.getElem?_cons_succ] at h
    simp only [Reps] at r
    obtain ⟨v0, us, Fa, Fb, rfl, r1, r2, rfl⟩ := r
    rw [List.nodup_append] at nd
    obtain ⟨v, F1, e1, q1, q2, q3⟩ := Reps.focus r2 h nd.2.1
    refine ⟨v, F1, e1, q1, q2.trans (List.sublist_append_right _ _), fun Z' H' e F'' st k r' => ?_⟩
    obtain ⟨G, p1, p2, p3⟩ := q3 Z' H' e F'' st (fun a ha n => k a (List.mem_append_right _ ha) n) r'
    have ap : ∀ a ∈ Fa, a ∉ F1 := fun a ha z => nd.2.2 a ha a (q2.subset z) rfl
    refine ⟨Fa ++ G, ?_, fun a ha => ?_, fun n s => ?_⟩
    · exact Reps.cons (r1.stay st fun a ha => k a (List.mem_append_left _ ha) (ap a ha)) p1
    · rcases List.mem_append.mp ha with z | z
      · exact .inr ⟨List.mem_append_left _ z, ap a z⟩
      · exact (p2 a z).imp_right fun y => ⟨List.mem_append_right _ y.1, y.2⟩
    · refine List.nodup_append.mpr ⟨nd.1, p3 n fun a ha hb => s a ha (List.mem_append_right _ hb), fun a ha b hb e => ?_⟩
      subst e
      rcases p2 a hb with z | z
      · exact ap a ha (s a z (List.mem_append_left _ ha))
      · exact nd.2.2 a ha a z.1 rfl
theorem Repk.focus : ∀ {xs : List (D × D)} {ks : List Key} {vs : List V} {F : List Addr} {k : Key} {x : D}, Repk K mg Z H xs vs F → keysD xs = some ks → dAt xs k = some x → F.Nodup →
    ∃ v F1, valV (ks.zip vs) k = some v ∧ Rep K mg Z H x v F1 ∧ F1.Sublist F ∧ ∀ Z' H' e F'', Stay Z Z' H H' → (∀ a ∈ F, a ∉ F1 → H' a = H a) → Rep K mg Z' H' e v F'' →
      keysD (dSet xs k e) = some ks ∧ ∃ G, Repk K mg Z' H' (dSet xs k e) vs G ∧ (∀ a ∈ G, a ∈ F'' ∨ (a ∈ F ∧ a ∉ F1)) ∧ (F''.Nodup → (∀ a ∈ F'', a ∈ F → a ∈ F1) → G.Nodup)
  | [], ks, vs, F, k, x, r, hk, h, nd => by simp [dAt] at h
  | (k0, x0) :: xs, ks, vs, F, k, x, r, hk, h, nd => by
    simp only [Repk] at r
    obtain ⟨v0, us, Fa, Fb, rfl, r1, r2, rfl⟩ := r
    rw [List.nodup_append] at nd
    simp only [keysD] at hk
    split at hk
    · rename_i a b ea eb
      cases hk
      simp only [dAt] at h
      by_cases hq : keyD k0 = some k
      · rw [if_pos hq] at h
        cases h
        rw [ea] at hq
        cases hq
        refine ⟨v0, Fa, by rw [List.zip_cons_cons, valV_pos (by rfl)], r1, List.sublist_append_left _ _, fun Z' H' e F'' st kk r' => ⟨?_, F'' ++ Fb, ?_, fun c ha => ?_, fun n s => ?_⟩⟩
        · simp only [dSet, ea, if_true, keysD, eb]
        · simp only [dSet, ea, if_true, Repk]
          exact ⟨v0, us, F'', Fb, rfl, r', Repk.stay st r2 fun c hc => kk c (List.mem_append_right _ hc) fun z => nd.2.2 c z c hc rfl, rfl⟩
        · rcases List.mem_append.mp ha with z | z
          · exact .inl z
          · exact .inr ⟨List.mem_append_right _ z, fun y => nd.2.2 c y c z rfl⟩
        · refine List.nodup_append.mpr ⟨n, nd.2.1, fun c ha d hb e => ?_⟩
          subst e
          exact nd.2.2 c (s c ha (List.mem_append_right _ hb)) c hb rfl
      · rw [if_neg hq] at h
        obtain ⟨v, F1, e1, q1, q2, q3⟩ := Repk.focus r2 eb h nd.2.1
        have hne : ¬ a = k := fun z => hq (by rw [ea, z])
        have ap : ∀ c ∈ Fa, c ∉ F1 := fun c ha z => nd.2.2 c ha c (q2.subset z) rfl
        refine ⟨v, F1, by rw [List.zip_cons_cons, valV_neg (by exact hne)]; exact e1, q1, q2.trans (List.sublist_append_right _ _), fun Z' H' e F'' st kk r' => ?_⟩
        obtain ⟨z1, G, p1, p2, p3⟩ := q3 Z' H' e F'' st (fun c ha n => kk c (List.mem_append_right _ ha) n) r'
        refine ⟨?_, Fa ++ G, ?_, fun c ha => ?_, fun n s => ?_⟩
        · have h2 : dSet ((k0, x0) :: xs) k e = (k0, x0) :: dSet xs k e := by simp only [dSet, if_neg hq]
          rw [h2]
          simp only [keysD, z1, ea]
        · have h2 : dSet ((k0, x0) :: xs) k e = (k0, x0) :: dSet xs k e := by simp only [dSet, if_neg hq]
          rw [h2]
          simp only [Repk]
          exact ⟨v0, us, Fa, G, rfl, r1.stay st fun c ha => kk c (List.mem_append_left _ ha) (ap c ha), p1, rfl⟩
        · rcases List.mem_append.mp ha with z | z
          · exact .inr ⟨List.mem_append_left _ z, ap c z⟩
          · exact (p2 c z).imp_right fun y => ⟨List.mem_append_right _ y.1, y.2⟩
        · refine List.nodup_append.mpr ⟨nd.1, p3 n fun c ha hb => s c ha (List.mem_append_right _ hb), fun c ha d hb e => ?_⟩
          subst e
          rcases p2 c hb with z | z
          · exact ap c ha (s c z (List.mem_append_left _ ha))
          · exact nd.2.2 c ha c z.1 rfl
    · cases hk
theorem Repf.focus : ∀ {xs : List (Str × D)} {vs : List V} {F : List Addr} {k : Str} {x : D}, Repf K mg Z H xs vs F → fAt xs k = some x → F.Nodup →
    ∃ v F1, ((xs.map (·.1)).zip vs).lookup k = some v ∧ Rep K mg Z H x v F1 ∧ F1.Sublist F ∧ ∀ Z' H' e F'', Stay Z Z' H H' → (∀ a ∈ F, a ∉ F1 → H' a = H a) → Rep K mg Z' H' e v F'' →
      (fSet xs k e).map (·.1) = xs.map (·.1) ∧ ∃ G, Repf K mg Z' H' (fSet xs k e) vs G ∧ (∀ a ∈ G, a ∈ F'' ∨ (a ∈ F ∧ a ∉ F1)) ∧ (F''.Nodup → (∀ a ∈ F'', a ∈ F → a ∈ F1) → G.Nodup)
  | [], vs, F, k, x, r, h, nd => by simp [fAt] at h
  | (k0, x0) :: xs, vs, F, k, x, r, h, nd => by
    simp only [Repf] at r
    obtain ⟨v0, us, Fa, Fb, rfl, r1, r2, rfl⟩ := r
    rw [List.nodup_append] at nd
    simp only [fAt] at h
    by_cases hq : (k == k0) = true
    · rw [if_pos hq] at h
      cases h
      refine ⟨v0, Fa, by simp [List.lookup, hq], r1, List.sublist_append_left _ _, fun Z' H' e F'' st kk r' => ⟨?_, F'' ++ Fb, ?_, fun c ha => ?_, fun n s => ?_⟩⟩
      · simp only [fSet, hq, if_true, List.map_cons]
      · simp only [fSet, hq, if_true, Repf]
        exact ⟨v0, us, F'', Fb, rfl, r', Repf.stay st r2 fun c hc => kk c (List.mem_append_right _ hc) fun z => nd.2.2 c z c hc rfl, rfl⟩
      · rcases List.mem_append.mp ha with z | z
        · exact .inl z
        · exact .inr ⟨List.mem_append_right _ z, fun y => nd.2.2 c y c z rfl⟩
      · refine List.nodup_append.mpr ⟨n, nd.2.1, fun c ha d hb e => ?_⟩
        subst e
        exact nd.2.2 c (s c ha (List.mem_append_right _ hb)) c hb rfl
    · rw [if_neg hq] at h
      obtain ⟨v, F1, e1, q1, q2, q3⟩ := Repf.focus r2 h nd.2.1
      have ap : ∀ c ∈ Fa, c ∉ F1 := fun c ha z => nd.2.2 c ha c (q2.subset z) rfl
      have hqf : (k == k0) = false := by simpa using hq
      refine ⟨v, F1, by simp only [List.map_cons, List.zip_cons_cons, List.lookup, hqf]; exact e1, q1, q2.trans (List.sublist_append_right _ _), fun Z' H' e F'' st kk r' => ?_⟩
      obtain ⟨z1, G, p1, p2, p3⟩ := q3 Z' H' e F'' st (fun c ha n => kk c (List.mem_append_right _ ha) n) r'
      refine ⟨?_, Fa ++ G, ?_, fun c ha => ?_, fun n s => ?_⟩
      · simp only [fSet, hqf, List.map_cons]
        rw [if_neg Bool.false_ne_true, List.map_cons, z1]
      · simp only [fSet, hqf, Bool.false_eq_true, if_false, Repf]
        exact ⟨v0, us, Fa, G, rfl, r1.stay st fun c ha => kk c (List.mem_append_left _ ha) (ap c ha), p1, rfl⟩
      · rcases List.mem_append.mp ha with z | z
        · exact .inr ⟨List.mem_append_left _ z, ap c z⟩
        · exact (p2 c z).imp_right fun y => ⟨List.mem_append_right _ y.1, y.2⟩
      · refine List.nodup_append.mpr ⟨nd.1, p3 n fun c ha hb => s c ha (List.mem_append_right _ hb), fun c ha d hb e => ?_⟩
        subst e
        rcases p2 c hb with z | z
        · exact ap c ha (s c z (List.mem_append_left _ ha))
        · exact nd.2.2 c ha c z.1 rfl
/-- the step, by what is tracked -/
def D.len : D → Nat
  | .lst _ xs => xs.length
  | .tup xs => xs.length
  | _ => 0
def StpV (K : PySem.W.Frag) (H : Hp) (n : Nat) (u : V) (v : V) : Stp → Prop
  | .ix i => ∃ a vs, u = .ref a ∧ (SqL K H a vs ∨ SqT K H a vs) ∧ vs[i]? = some v ∧ vs.length = n
  | .key k => ∃ a kvs, u = .ref a ∧ H a = some (.dK kvs) ∧ valV kvs k = some v
  | .fld f => ∃ a C dx fs, u = .ref a ∧ H a = some (.ins C dx fs) ∧ fs.lookup f = some v
theorem Foc.step {d d1 : D} {u : V} {F : List Addr} {s : Stp} (r : Rep K mg Z H d u F) (nd : F.Nodup) (h : d.at1 s = some d1) : ∃ v F1, StpV K H d.len u v s ∧ Foc K mg Z H d u F [s] d1 v F1 := by
  have hat : d.at [s] = some d1 := by simp only [D.at, h]
  have upd1 : ∀ {e dn}, d.upd [s] e = some dn → d.upd1 s e = some dn := fun {e dn} q => by
    simp only [D.upd, h] at q
    exact q
  unfold D.at1 at h
  split at h
  · rename_i o xs i
    cases o with
    | false =>
      obtain ⟨a, vs, G, e, sq, rs⟩ := lst_sq r
      have r0 := r
      simp only [Rep] at r
      obtain ⟨a', vs', e', t, rs, rfl⟩ := r
      obtain ⟨v, F1, e1, q1, q2, q3⟩ := Reps.focus rs h List.nodup_nil
      refine ⟨v, F1, ⟨a', vs', e', .inl t.sq, e1, rs.length⟩, hat, r0, q1, nd, q2, fun Z' H' e F'' dn hu st k r' => ?_⟩
      have := upd1 hu
      simp [D.upd1] at this
    | true =>
      have r0 := r
      simp only [Rep] at r
      obtain ⟨a, vs, G, rfl, t, rs, rfl⟩ := r
      have nd' := List.nodup_cons.mp nd
      obtain ⟨v, F1, e1, q1, q2, q3⟩ := Reps.focus rs h nd'.2
      refine ⟨v, F1, ⟨a, vs, rfl, .inl (.inl (.inl t)), e1, rs.length⟩, hat, r0, q1, nd, q2.trans (List.sublist_cons_self _ _), fun Z' H' e F'' dn hu st k r' => ?_⟩
      have := upd1 hu
      simp only [D.upd1, Option.some.injEq] at this
      subst this
      obtain ⟨G', p1, p2, p3⟩ := q3 Z' H' e F'' st (fun b hb n => k b (List.mem_cons_of_mem _ hb) n) r'
      have ha : a ∉ F1 := fun z => nd'.1 (q2.subset z)
      refine ⟨a :: G', ?_, fun b hb => ?_, fun n s => ?_⟩
      · simp only [Rep]
        exact ⟨a, vs, G', rfl, (k a List.mem_cons_self ha).trans t, p1, rfl⟩
      · rcases List.mem_cons.mp hb with rfl | hb
        · exact .inr ⟨List.mem_cons_self, ha⟩
        · exact (p2 b hb).imp_right fun y => ⟨List.mem_cons_of_mem _ y.1, y.2⟩
      · refine List.nodup_cons.mpr ⟨fun z => ?_, p3 n fun b hb hc => s b hb (List.mem_cons_of_mem _ hc)⟩
        rcases p2 a z with z | z
        · exact ha (s a z List.mem_cons_self)
        · exact nd'.1 z.1
  · rename_i xs i
    have r0 := r
    simp only [Rep] at r
    obtain ⟨a, vs, e', t, rs⟩ := r
    obtain ⟨v, F1, e1, q1, q2, q3⟩ := Reps.focus rs h nd
    refine ⟨v, F1, ⟨a, vs, e', .inr t.sq, e1, rs.length⟩, hat, r0, q1, nd, q2, fun Z' H' e F'' dn hu st k r' => ?_⟩
    have := upd1 hu
    simp [D.upd1] at this
  · rename_i o kvs kk
    cases o with
    | false =>
      have r0 := r
      simp only [Rep] at r
      obtain ⟨a, ks, vs, e', t, z, hk, rs, rfl⟩ := r
      obtain ⟨v, F1, e1, q1, q2, q3⟩ := Repk.focus rs hk.1 h List.nodup_nil
      refine ⟨v, F1, ⟨a, _, e', t, e1⟩, hat, r0, q1, nd, q2, fun Z' H' e F'' dn hu st k r' => ?_⟩
      have := upd1 hu
      simp [D.upd1] at this
    | true =>
      have r0 := r
      simp only [Rep] at r
      obtain ⟨a, ks, vs, G, rfl, t, hk, rs, rfl⟩ := r
      have nd' := List.nodup_cons.mp nd
      obtain ⟨v, F1, e1, q1, q2, q3⟩ := Repk.focus rs hk.1 h nd'.2
      refine ⟨v, F1, ⟨a, _, rfl, t, e1⟩, hat, r0, q1, nd, q2.trans (List.sublist_cons_self _ _), fun Z' H' e F'' dn hu st k r' => ?_⟩
      have := upd1 hu
      simp only [D.upd1, Option.some.injEq] at this
      subst this
      obtain ⟨z1, G', p1, p2, p3⟩ := q3 Z' H' e F'' st (fun b hb n => k b (List.mem_cons_of_mem _ hb) n) r'
      have ha : a ∉ F1 := fun z => nd'.1 (q2.subset z)
      refine ⟨a :: G', ?_, fun b hb => ?_, fun n s => ?_⟩
      · simp only [Rep]
        exact ⟨a, ks, vs, G', rfl, (k a List.mem_cons_self ha).trans t, ⟨z1, hk.2⟩, p1, rfl⟩
      · rcases List.mem_cons.mp hb with rfl | hb
        · exact .inr ⟨List.mem_cons_self, ha⟩
        · exact (p2 b hb).imp_right fun y => ⟨List.mem_cons_of_mem _ y.1, y.2⟩
      · refine List.nodup_cons.mpr ⟨fun z => ?_, p3 n fun b hb hc => s b hb (List.mem_cons_of_mem _ hc)⟩
        rcases p2 a z with z | z
        · exact ha (s a z List.mem_cons_self)
        · exact nd'.1 z.1
  · rename_i o c fs f
    cases o with
    | false =>
      have r0 := r
      simp only [Rep] at r
      obtain ⟨a, C, dx, vs, e', m, t, w, z1, z2, rs, rfl⟩ := r
      obtain ⟨v, F1, e1, q1, q2, q3⟩ := Repf.focus rs h List.nodup_nil
      refine ⟨v, F1, ⟨a, C, dx, _, e', t, e1⟩, hat, r0, q1, nd, q2, fun Z' H' e F'' dn hu st k r' => ?_⟩
      have := upd1 hu
      simp [D.upd1] at this
    | true =>
      have r0 := r
      simp only [Rep] at r
      obtain ⟨a, C, dx, vs, G, rfl, m, t, w, rs, rfl⟩ := r
      have nd' := List.nodup_cons.mp nd
      have nd2 := List.nodup_cons.mp nd'.2
      obtain ⟨v, F1, e1, q1, q2, q3⟩ := Repf.focus rs h nd2.2
      refine ⟨v, F1, ⟨a, C, dx, _, rfl, t, e1⟩, hat, r0, q1, nd, q2.trans ((List.sublist_cons_self _ _).trans (List.sublist_cons_self _ _)), fun Z' H' e F'' dn hu st k r' => ?_⟩
      have := upd1 hu
      simp only [D.upd1, Option.some.injEq] at this
      subst this
      obtain ⟨z1, G', p1, p2, p3⟩ := q3 Z' H' e F'' st (fun b hb n => k b (List.mem_cons_of_mem _ (List.mem_cons_of_mem _ hb)) n) r'
      have hd : dx ∉ F1 := fun z => nd2.1 (q2.subset z)
      have ha : a ∉ F1 := fun z => nd'.1 (List.mem_cons_of_mem _ (q2.subset z))
      refine ⟨a :: dx :: G', ?_, fun b hb => ?_, fun n s => ?_⟩
      · simp only [Rep]
        exact ⟨a, C, dx, vs, G', rfl, m, by rw [z1]; exact (k a List.mem_cons_self ha).trans t, (k dx (List.mem_cons_of_mem _ List.mem_cons_self) hd).trans w, p1, rfl⟩
      · rcases List.mem_cons.mp hb with rfl | hb
        · exact .inr ⟨List.mem_cons_self, ha⟩
        · rcases List.mem_cons.mp hb with rfl | hb
          · exact .inr ⟨List.mem_cons_of_mem _ List.mem_cons_self, hd⟩
          · exact (p2 b hb).imp_right fun y => ⟨List.mem_cons_of_mem _ (List.mem_cons_of_mem _ y.1), y.2⟩
      · refine List.nodup_cons.mpr ⟨fun z => ?_, List.nodup_cons.mpr ⟨fun z => ?_, p3 n fun b hb hc => s b hb (List.mem_cons_of_mem _ (List.mem_cons_of_mem _ hc))⟩⟩
        · rcases List.mem_cons.mp z with z | z
          · exact nd'.1 (by rw [z]; exact List.mem_cons_self)
          · rcases p2 a z with z | z
            · exact ha (s a z List.mem_cons_self)
            · exact nd'.1 (List.mem_cons_of_mem _ z.1)
        · rcases p2 dx z with z | z
          · exact hd (s dx z (List.mem_cons_of_mem _ List.mem_cons_self))
          · exact nd2.1 z.1
  · cases h
end
end VI
/-! V15: paths as expressions; what changes a value in its place -/
namespace VI
open PySem PySem.Spec L2

section
variable {K : PySem.W.Frag} {mg : Mg} {Z Z' Z0 Z1 Z2 : Addr → Prop} {H H' H0 H1 H2 : Hp} {σ : L2.St} {env env' env0 env1 env2 : Env} {Fs Fs' Fs0 Fs1 Fs2 : Nat → List Addr} {T T' T1 T2 : Nat → Bool}
/-- what stands for a slot's value is changed, other things may be taken in -/
theorem SR.mut2 (S : SR K mg Z H σ env Fs) {i : Nat} {d d' : D} {u : V} {G : List Addr} (hd : env.s[i]? = some (some d)) (hu : σ[i]? = some (some u)) (keep : ∀ a o, H a = some o → a ∉ Fs i → H' a = some o) (r : Rep K mg Z H' d' u G) (nd : G.Nodup)
    (ap : ∀ a ∈ G, (∀ j, j ≠ i → a ∉ Fs j) ∧ ¬ Z a) : SR K mg Z H' σ (env.put i d') (fset Fs i G) := by
  have hi : i < env.s.length := (List.getElem?_eq_some_iff.mp hd).1
  have stay : Stay Z Z H H' := ⟨fun _ h => h, fun a h => by
    obtain ⟨o, e⟩ := S.zs a h
    rw [e]
    exact keep a o e fun q => S.zf i a q h⟩
  have kj : ∀ j, j ≠ i → ∀ a ∈ Fs j, H' a = H a := fun j hj a ha => by
    obtain ⟨o, e⟩ := S.tr ha
    rw [e]
    exact keep a o e fun q => S.dj j i hj a ha q
  refine ⟨by simpa [Env.put] using S.len, fun j x e => ?_, fun j h => ?_, fun j => ?_, fun j k hjk a ha q => ?_, fun j a ha => ?_, fun a z => ?_⟩
  · by_cases hj : j = i
    · subst hj
      rw [Env.put, List.getElem?_set_self hi] at e
      cases e
      exact ⟨u, hu, by rw [fset_self]; exact r⟩
    · rw [Env.put, List.getElem?_set_ne (Ne.symm hj)] at e
      obtain ⟨w, h1, h2⟩ := S.rep j x e
      exact ⟨w, h1, by rw [fset_ne hj]; exact h2.stay stay (kj j hj)⟩
  · by_cases hj : j = i
    · subst hj
      exact absurd (List.getElem?_set_self hi) (h d')
    · rw [fset_ne hj]
      exact S.no j fun x q => h x (by rw [Env.put, List.getElem?_set_ne (Ne.symm hj)]; exact q)
  · by_cases hj : j = i
    · subst hj; rw [fset_self]; exact nd
    · rw [fset_ne hj]; exact S.nd j
  · by_cases hj : j = i
    · subst hj
      rw [fset_self] at ha
      rw [fset_ne (Ne.symm hjk)] at q
      exact (ap a ha).1 k (Ne.symm hjk) q
    · rw [fset_ne hj] at ha
      by_cases hk : k = i
      · subst hk; rw [fset_self] at q; exact (ap a q).1 j hj ha
      · rw [fset_ne hk] at q; exact S.dj j k hjk a ha q
  · by_cases hj : j = i
    · subst hj; rw [fset_self] at ha; exact (ap a ha).2
    · rw [fset_ne hj] at ha; exact S.zf j a ha
  · obtain ⟨o, e⟩ := S.zs a z
    exact ⟨o, keep a o e fun q => S.zf i a q z⟩
theorem Tr.mut2 (t : Tr T Z0 H0 env0 Fs0 Z H env Fs) (S : SR K mg Z H σ env Fs) {i : Nat} {d' : D} {G : List Addr} (keep : ∀ a o, H a = some o → a ∉ Fs i → H' a = some o) (gr : ∀ a, H' a = none → H a = none) (gn : ∀ a ∈ G, (∃ j, a ∈ Fs0 j) ∨ H0 a = none) :
    Tr (tor T (T1' i)) Z0 H0 env0 Fs0 Z H' (env.put i d') (fset Fs i G) where
  z := t.z
  zn := t.zn
  keep := fun a o e n => keep a o (t.keep a o e n) fun q => by
    rcases t.new i a q with ⟨j, z⟩ | z
    · exact n j z
    · rw [e] at z; cases z
  gr := fun a e => t.gr a (gr a e)
  new := fun j a ha => by
    by_cases hj : j = i
    · subst hj; rw [fset_self] at ha; exact gn a ha
    · rw [fset_ne hj] at ha; exact t.new j a ha
  un := fun j hj => by
    obtain ⟨h1, h2⟩ := tor_sub j hj
    have hj' : j ≠ i := by simpa using h2
    obtain ⟨u1, u2, u3⟩ := t.un j h1
    refine ⟨by rw [Env.put, List.getElem?_set_ne (Ne.symm hj')]; exact u1, (fset_ne hj').trans u2, fun a ha => ?_⟩
    have ha' : a ∈ Fs j := by rw [u2]; exact ha
    obtain ⟨o, e⟩ := S.tr ha'
    rw [← u3 a ha, e]
    exact keep a o e fun q => S.dj j i hj' a ha' q
  p := t.p
end

/-! ### paths -/
def ContP (K : PySem.W.Frag) (mg : Mg) (T : Nat → Bool) (i : Nat) (W : WX) (Q : VK) (σ : L2.St) (Z : Addr → Prop) (H : Hp) (env : Env) (Fs : Nat → List Addr) : Out (List Stp) → Prop
  | .ok π env' => ∀ d d1 u v H' Z' Fs' F1, SR K mg Z' H' σ env' Fs' → Tr T Z H env Fs Z' H' env' Fs' → env'.s[i]? = some (some d) → σ[i]? = some (some u) → Foc K mg Z' H' d u (Fs' i) π d1 v F1 → Q v H'
  | .exc c fs env' => ∀ cls dd H' Z' Fs', SR K mg Z' H' σ env' Fs' → Tr T Z H env Fs Z' H' env' Fs' → XAt K mg Z' H' c fs cls dd → W cls dd σ H'
  | .err => False
def tP (K : PySem.W.Frag) (mg : Mg) (i : Nat) (f : M (List Stp)) (T : Nat → Bool) (W : WX) : TE := fun σ H Q => ∃ Z env Fs, SR K mg Z H σ env Fs ∧ ContP K mg T i W Q σ Z H env Fs (f env)
structure VPa (X : Cx) (e : Expr) (i : Nat) (f : M (List Stp)) (T : Nat → Bool) : Prop where
  run : ∀ W, Takes X W → PE X e (tP X.K X.mg i f T W)
/-- the value there -/
def atE (env : Env) (i : Nat) (π : List Stp) : Option D := match env.s[i]? with
  | some (some d) => d.at π
  | _ => none
def updE (env : Env) (i : Nat) (π : List Stp) (y : D) : Option Env := match env.s[i]? with
  | some (some d) => (match d.upd π y with
    | some d' => some (env.put i d')
    | none => none)
  | _ => none
theorem atE_of {env : Env} {i : Nat} {π : List Stp} {d1 : D} (h : atE env i π = some d1) : ∃ d, env.s[i]? = some (some d) ∧ d.at π = some d1 := by
  unfold atE at h
  split at h
  · rename_i d e
    exact ⟨d, e, h⟩
  · cases h
def rootM (i : Nat) : M (List Stp) := fun env => match env.s[i]? with
  | some (some _) => .ok [] env
  | _ => .err
def stepOf : D → D → Option Stp
  | .lst _ xs, .int i => (ixN xs.length i).map .ix
  | .tup xs, .int i => (ixN xs.length i).map .ix
  | .dct _ _, k => (keyD k).map .key
  | _, _ => none
def pixM (i : Nat) (fp : M (List Stp)) (fk : M D) : M (List Stp) := bnd fp fun π => bnd fk fun dk env => match atE env i π with
  | some d1 => (match stepOf d1 dk with
    | some s => (match d1.at1 s with
      | some _ => .ok (π ++ [s]) env
      | none => .err)
    | none => .err)
  | none => .err
def pfldM (i : Nat) (c f : Str) (fp : M (List Stp)) : M (List Stp) := bnd fp fun π env => match atE env i π with
  | some (.ins _ c' fs) => if c' = c then (match fAt fs f with
    | some _ => .ok (π ++ [.fld f]) env
    | none => .err) else .err
  | _ => .err
def getM (i : Nat) (fp : M (List Stp)) : M D := bnd fp fun π env => match atE env i π with
  | some d1 => .ok d1 env
  | none => .err
/-- a list's, a tuple's, a dict's item -/
def rIxP (K : PySem.W.Frag) : R2 := fun x y H Q => rIxL K x y H Q ∨ rIxT K x y H Q ∨ ∃ a kvs k v, x = .ref a ∧ H a = some (.dK kvs) ∧ y = kV k ∧ valV kvs k = some v ∧ Q v H
theorem rep_key {K : PySem.W.Frag} {mg : Mg} {Z : Addr → Prop} {H : Hp} {d : D} {v : V} {F : List Addr} {k : Key} (r : Rep K mg Z H d v F) (h : keyD d = some k) : v = kV k := by
  unfold keyD at h
  split at h
  · cases h; simp only [Rep] at r; exact r.1
  · cases h; simp only [Rep] at r; exact r.1
  · cases h
section
variable {X : Cx} {e a b k : Expr} {pos p cpos apos : Pos} {es : List Expr} {i : Nat} {fp : M (List Stp)} {f fk fa : M D} {fl : M (List D)} {T Tp Tk Ta : Nat → Bool} {src sk : Option Nat}
theorem ix_dictP (hu : X.A.units + 1 < cLine) : IxR X (fun x y H Q => ∃ a kvs k v, x = .ref a ∧ H a = some (.dK kvs) ∧ y = kV k ∧ valV kvs k = some v ∧ Q v H) := by
  intro value slice pins s σ H x y v u Q I rx ry h hs
  obtain ⟨a, kvs, k, w, rfl, hH, rfl, hv, q⟩ := h
  cases rx
  have g : DGet H a (kV k) (some w) := by
    have := DGet.k (k := k) hH
    rw [hv] at this
    exact this
  exact PyProof.Rows.tail_any (dict_typeIs I g) PySem.F.slot_dict_getitem.lookup (d_getItem hu I g ry fun w' s3 I3 rw' => ⟨w, H, I3, rw', q⟩) hs
theorem ix_P (hu : X.A.units + 1 < cLine) : IxR X (rIxP X.K) := ix_list.or (ix_tup.or (ix_dictP hu))
theorem vp_name {x : Str} (hN : X.N[i]? = some x) (hv : Vis X.env.scope x) (hd : (x == ("__debug__" : Str)) = false := by decide) (hcd : (x == ("__classdict__" : Str)) = false := by decide) : VPa X (.Name x pos) i (rootM i) T0 := by
  refine ⟨fun W tk => pe_imp (pe_var hN hv hd hcd) fun σ H Q ⟨Z, env, Fs, S, c⟩ => ?_⟩
  unfold rootM at c
  split at c
  · rename_i d hd
    obtain ⟨v, h1, h2⟩ := S.rep i d hd
    exact ⟨v, h1, c d d v v H Z Fs (Fs i) S Tr.refl hd h1 (Foc.nil h2 (S.nd i))⟩
  · exact c.elim
/-- the path's focus behind another expression -/
theorem Foc.over {K : PySem.W.Frag} {mg : Mg} {Z1 Z2 : Addr → Prop} {H1 H2 : Hp} {σ : L2.St} {env1 env2 : Env} {Fs1 Fs2 : Nat → List Addr} {π : List Stp} {d d1 : D} {u v : V} {F1 : List Addr} (S : SR K mg Z1 H1 σ env1 Fs1) (t : Tr Tk Z1 H1 env1 Fs1 Z2 H2 env2 Fs2) (h : Tk i = false)
    (f : Foc K mg Z1 H1 d u (Fs1 i) π d1 v F1) (hd : env1.s[i]? = some (some d)) : Foc K mg Z2 H2 d u (Fs2 i) π d1 v F1 ∧ env2.s[i]? = some (some d) := by
  obtain ⟨u1, u2, u3⟩ := t.un i h
  have := f.stay (t.stay S) u3
  rw [← u2] at this
  exact ⟨this, u1.trans hd⟩
theorem StpV.ixP {K : PySem.W.Frag} {mg : Mg} {Z : Addr → Prop} {H : Hp} {u v y : V} {s : Stp} {d1 dk : D} {Fk : List Addr} {Q : VK} (h : StpV K H d1.len u v s) (rk : Rep K mg Z H dk y Fk) (hs : stepOf d1 dk = some s) (q : Q v H) : rIxP K u y H Q := by
  have hix : ∀ {n : Nat} {i : Int} {j : Nat} {vs : List V}, ixN n i = some j → vs.length = n → vs[j]? = some v → atI vs i = some v := fun {n i j vs} e1 e2 e3 => by
    unfold atI
    rw [e2, e1]
    exact e3
  unfold stepOf at hs
  split at hs
  · rename_i o xs i
    cases e : ixN xs.length i with
    | none => rw [e] at hs; cases hs
    | some j =>
      rw [e] at hs
      cases hs
      simp only [Rep] at rk
      obtain ⟨a, vs, eu, sq, hj, hl⟩ := h
      rcases sq with sq | sq
      · exact .inl ⟨a, vs, i, v, eu, rk.1, sq, hix e hl hj, q⟩
      · exact .inr (.inl ⟨a, vs, i, v, eu, rk.1, sq, hix e hl hj, q⟩)
  · rename_i xs i
    cases e : ixN xs.length i with
    | none => rw [e] at hs; cases hs
    | some j =>
      rw [e] at hs
      cases hs
      simp only [Rep] at rk
      obtain ⟨a, vs, eu, sq, hj, hl⟩ := h
      rcases sq with sq | sq
      · exact .inl ⟨a, vs, i, v, eu, rk.1, sq, hix e hl hj, q⟩
      · exact .inr (.inl ⟨a, vs, i, v, eu, rk.1, sq, hix e hl hj, q⟩)
  · cases e : keyD dk with
    | none => rw [e] at hs; cases hs
    | some kk =>
      rw [e] at hs
      cases hs
      obtain ⟨a, kvs, eu, hH, hv⟩ := h
      exact .inr (.inr ⟨a, kvs, kk, v, eu, hH, rep_key rk e, hv, q⟩)
  · cases hs
theorem vp_ix (hu : X.A.units + 1 < cLine) (hP : VPa X e i fp Tp) (hk : VE X k fk Tk sk) (ht : Tk i = false) (hs : PlainIx k) : VPa X (.Subscript e k pos) i (pixM i fp fk) (tor Tp Tk) := by
  refine ⟨fun W tk => pe_imp (pe_ix (ix_P hu) (hP.run W tk) (hk.run W tk) hs) fun σ H Q ⟨Z, env, Fs, S, c⟩ => ⟨Z, env, Fs, S, ?_⟩⟩
  unfold pixM bnd at c
  cases qp : fp env with
  | err => rw [qp] at c; exact c.elim
  | exc x fs e1 =>
    rw [qp] at c
    exact fun cls dd H' Z' Fs' S' t r => c cls dd H' Z' Fs' S' (t.mono fun i q => (tor_sub i q).1) r
  | ok π e1 =>
    rw [qp] at c
    dsimp only at c
    intro d d1 u v H1 Z1 Fs1 F1 S1 t1 hd hu foc
    refine ⟨Z1, e1, Fs1, S1, ?_⟩
    cases qk : fk e1 with
    | err => rw [qk] at c; exact c.elim
    | exc x fs e2 =>
      rw [qk] at c
      exact fun cls dd H' Z' Fs' S' t r => c cls dd H' Z' Fs' S' (t1.trans t tor_sub) r
    | ok dk e2 =>
      rw [qk] at c
      dsimp only at c
      intro y H2 Z2 Fs2 Fk S2 t2 rk pk
      obtain ⟨foc2, hd2⟩ := foc.over S1 t2 ht hd
      have ha : atE e2 i π = some d1 := by
        unfold atE
        rw [hd2]
        exact foc2.at_
      rw [ha] at c
      dsimp only at c
      split at c
      · rename_i s hs
        split at c
        · rename_i d2 h2
          obtain ⟨w, F2, st, foc3⟩ := Foc.step foc2.r1 (foc2.sub.nodup foc2.nd) h2
          exact st.ixP rk hs (c d d2 u w H2 Z2 Fs2 F2 S2 (t1.trans t2 tor_sub) hd2 hu (foc2.trans foc3))
        · exact c.elim
      · exact c.elim
theorem vp_fld {c : Str} {f : Str} (hcl : ∀ C, X.mg c = some (.ref C) → Cls X.K C ∧ NoAttr X.K C f) (hP : VPa X e i fp Tp) (hb : attributeBase e f X.env (eval e X.env) = eval e X.env := by rfl) : VPa X (.Attribute e f pos) i (pfldM i c f fp) Tp := by
  refine ⟨fun W tk => pe_imp (pe_fld (hP.run W tk) hb) fun σ H Q ⟨Z, env, Fs, S, cc⟩ => ⟨Z, env, Fs, S, ?_⟩⟩
  unfold pfldM bnd at cc
  cases qp : fp env with
  | err => rw [qp] at cc; exact cc.elim
  | exc x fs e1 => rw [qp] at cc; exact cc
  | ok π e1 =>
    rw [qp] at cc
    dsimp only at cc
    intro d d1 u v H1 Z1 Fs1 F1 S1 t1 hd hu foc
    have ha : atE e1 i π = some d1 := by
      unfold atE
      rw [hd]
      exact foc.at_
    rw [ha] at cc
    split at cc
    · rename_i o c' fs he
      cases he
      split at cc
      · rename_i hc
        subst hc
        split at cc
        · rename_i x hx
          obtain ⟨w, F2, st, foc3⟩ := Foc.step (s := .fld f) foc.r1 (foc.sub.nodup foc.nd) hx
          obtain ⟨a, C, dx, gs, ev, hH, hl⟩ := st
          have hm : ∃ C0, X.mg c' = some (.ref C0) ∧ C0 = C := by
            have r1 := foc.r1
            cases o with
            | true =>
              simp only [Rep] at r1
              obtain ⟨a', C', dx', vs', G', e', m', t', _⟩ := r1
              rw [ev] at e'
              cases e'
              rw [hH] at t'
              cases t'
              exact ⟨_, m', rfl⟩
            | false =>
              simp only [Rep] at r1
              obtain ⟨a', C', dx', vs', e', m', t', _⟩ := r1
              rw [ev] at e'
              cases e'
              rw [hH] at t'
              cases t'
              exact ⟨_, m', rfl⟩
          obtain ⟨C0, hm, rfl⟩ := hm
          obtain ⟨k1, k2⟩ := hcl _ hm
          exact ⟨a, C0, dx, gs, w, ev, hH, k1, k2, hl, cc d x u w H1 Z1 Fs1 F2 S1 t1 hd hu (foc.trans foc3)⟩
        · exact cc.elim
      · exact cc.elim
    · exact cc.elim
theorem ve_path (hP : VPa X e i fp Tp) : VE X e (getM i fp) Tp (some i) := by
  refine ⟨fun W tk => pe_imp (hP.run W tk) fun σ H Q ⟨Z, env, Fs, S, c⟩ => ⟨Z, env, Fs, S, ?_⟩⟩
  unfold getM bnd at c
  cases qp : fp env with
  | err => rw [qp] at c; exact c.elim
  | exc x fs e1 => rw [qp] at c; exact c
  | ok π e1 =>
    rw [qp] at c
    dsimp only at c
    intro d d1 u v H1 Z1 Fs1 F1 S1 t1 hd hu foc
    have ha : atE e1 i π = some d1 := by
      unfold atE
      rw [hd]
      exact foc.at_
    rw [ha] at c
    exact c v H1 Z1 Fs1 F1 S1 t1 foc.r1 ⟨foc.sub.nodup foc.nd, fun a ha => foc.sub.subset ha⟩
end
end VI
/-! V16: methods and stores that change a value in its place -/
namespace VI
open PySem PySem.Spec L2

theorem not_mem_cons' {α : Type} {a b : α} {l : List α} (h : a ≠ b ∧ a ∉ l) : a ∉ b :: l := fun z => (List.mem_cons.mp z).elim h.1 h.2
section
variable {K : PySem.W.Frag} {mg : Mg} {Z Z' Z0 Z1 Z2 : Addr → Prop} {H H' H0 H1 H2 : Hp} {σ : L2.St} {env env' env0 env1 env2 : Env} {Fs Fs' Fs0 Fs1 Fs2 : Nat → List Addr} {T T' T1 T2 : Nat → Bool}
theorem mut_done {i : Nat} {π : List Stp} {d d1 d2 dn : D} {u v : V} {F1 F2 Fa : List Addr} (S : SR K mg Z1 H1 σ env1 Fs1) (t : Tr T Z H env Fs Z1 H1 env1 Fs1) (foc : Foc K mg Z1 H1 d u (Fs1 i) π d1 v F1) (hd : env1.s[i]? = some (some d)) (hu : σ[i]? = some (some u))
    (pa : ∀ a ∈ Fa, (∀ j, a ∉ Fs1 j) ∧ ¬ Z1 a ∧ ((∃ j, a ∈ Fs j) ∨ H a = none)) (keep : ∀ a o, H1 a = some o → a ∉ F1 → H' a = some o) (gr : ∀ a, H' a = none → H1 a = none) (r2 : Rep K mg Z1 H' d2 v F2) (n2 : F2.Nodup) (s2 : ∀ a ∈ F2, a ∈ F1 ∨ a ∈ Fa)
    (hup : d.upd π d2 = some dn) : ∃ G, SR K mg Z1 H' σ (env1.put i dn) (fset Fs1 i G) ∧ Tr (tor T (T1' i)) Z H env Fs Z1 H' (env1.put i dn) (fset Fs1 i G) ∧
      ∀ a, a ∈ F1 ∨ a ∈ Fa → a ∉ F2 → (∀ j, a ∉ fset Fs1 i G j) ∧ ¬ Z1 a ∧ ((∃ j, a ∈ Fs j) ∨ H a = none) := by
  have sub : ∀ a ∈ F1, a ∈ Fs1 i := fun a ha => foc.sub.subset ha
  have keepF : ∀ a o, H1 a = some o → a ∉ Fs1 i → H' a = some o := fun a o e n => keep a o e fun z => n (sub a z)
  have stay : Stay Z1 Z1 H1 H' := ⟨fun _ h => h, fun a h => by
    obtain ⟨o, e⟩ := S.zs a h
    rw [e]
    exact keepF a o e fun q => S.zf i a q h⟩
  obtain ⟨G, q1, q2, q3⟩ := foc.up Z1 H' d2 F2 dn hup stay (fun a ha n => by
    obtain ⟨o, e⟩ := S.tr ha
    rw [e]
    exact keep a o e n) r2
  have nG : G.Nodup := q3 n2 fun a ha hb => (s2 a ha).resolve_right fun z => (pa a z).1 i hb
  have gs : ∀ a ∈ G, a ∈ Fs1 i ∨ a ∈ Fa := fun a ha => by
    rcases q2 a ha with z | z
    · exact (s2 a z).imp_left (sub a)
    · exact .inl z.1
  refine ⟨G, S.mut2 hd hu keepF q1 nG fun a ha => ?_, t.mut2 S keepF gr fun a ha => ?_, fun a ha hn => ⟨fun j hj => ?_, ?_, ?_⟩⟩
  · rcases gs a ha with z | z
    · exact ⟨fun j hj w => S.dj i j (Ne.symm hj) a z w, S.zf i a z⟩
    · exact ⟨fun j _ => (pa a z).1 j, (pa a z).2.1⟩
  · rcases gs a ha with z | z
    · exact t.new i a z
    · exact (pa a z).2.2
  · by_cases e : j = i
    · subst e
      rw [fset_self] at hj
      rcases q2 a hj with z | z
      · exact hn z
      · rcases ha with ha | ha
        · exact z.2 ha
        · exact (pa a ha).1 j z.1
    · rw [fset_ne e] at hj
      rcases ha with ha | ha
      · exact S.dj i j (Ne.symm e) a (sub a ha) hj
      · exact (pa a ha).1 j hj
  · rcases ha with ha | ha
    · exact S.zf i a (sub a ha)
    · exact (pa a ha).2.1
  · rcases ha with ha | ha
    · exact t.new i a (sub a ha)
    · exact (pa a ha).2.2
/-- an item is taken out -/
theorem Reps.out : ∀ {xs : List D} {vs : List V} {F : List Addr} {i : Nat} {x : D}, Reps K mg Z H xs vs F → xs[i]? = some x → F.Nodup →
    ∃ v F1 G, vs[i]? = some v ∧ Rep K mg Z H x v F1 ∧ Reps K mg Z H (xs.eraseIdx i) (vs.eraseIdx i) G ∧ F1.Nodup ∧ G.Nodup ∧ (∀ a ∈ F1, a ∈ F) ∧ (∀ a ∈ G, a ∈ F) ∧ ∀ a ∈ G, a ∉ F1
  | [], vs, F, i, x, r, h, nd => by simp at h
  | x0 :: xs, vs, F, 0, x, r, h, nd => by
    simp only [List.getElem?_cons_zero, Option.some.injEq] at h
    subst h
    simp only [Reps] at r
    obtain ⟨v, us, F1, F2, rfl, r1, r2, rfl⟩ := r
    rw [List.nodup_append] at nd
    exact ⟨v, F1, F2, rfl, r1, r2, nd.1, nd.2.1, fun a ha => List.mem_append_left _ ha, fun a ha => List.mem_append_right _ ha, fun a ha hb => nd.2.2 a hb a ha rfl⟩
  | x0 :: xs, vs, F, i + 1, x, r, h, nd => by
    simp only [List.getElem?_cons_succ] at h
    simp only [Reps] at r
    obtain ⟨v0, us, Fa, Fb, rfl, r1, r2, rfl⟩ := r
    rw [List.nodup_append] at nd
    obtain ⟨v, F1, G, e1, q1, q2, n1, n2, s1, s2, dj⟩ := Reps.out r2 h nd.2.1
    refine ⟨v, F1, Fa ++ G, e1, q1, Reps.cons r1 q2, n1, List.nodup_append.mpr ⟨nd.1, n2, fun a ha b hb e => ?_⟩, fun a ha => List.mem_append_right _ (s1 a ha), fun a ha => ?_, fun a ha => ?_⟩
    · subst e
      exact nd.2.2 a ha a (s2 a hb) rfl
    · rcases List.mem_append.mp ha with z | z
      · exact List.mem_append_left _ z
      · exact List.mem_append_right _ (s2 a z)
    · rcases List.mem_append.mp ha with z | z
      · exact fun w => nd.2.2 a z a (s1 a w) rfl
      · exact dj a z
/-- an item is exchanged -/
theorem Reps.setv : ∀ {xs : List D} {vs : List V} {F Fy : List Addr} {i : Nat} {y : D} {w : V}, Reps K mg Z H xs vs F → i < xs.length → F.Nodup → Rep K mg Z H y w Fy → Fy.Nodup → (∀ a ∈ Fy, a ∉ F) →
    ∃ G, Reps K mg Z H (xs.set i y) (vs.set i w) G ∧ G.Nodup ∧ ∀ a ∈ G, a ∈ F ∨ a ∈ Fy
  | [], vs, F, Fy, i, y, w, r, h, nd, ry, ny, ap => by simp at h
  | x0 :: xs, vs, F, Fy, 0, y, w, r, h, nd, ry, ny, ap => by
    simp only [Reps] at r
    obtain ⟨v, us, F1, F2, rfl, r1, r2, rfl⟩ := r
    rw [List.nodup_append] at nd
    refine ⟨Fy ++ F2, Reps.cons ry r2, List.nodup_append.mpr ⟨ny, nd.2.1, fun a ha b hb e => ?_⟩, fun a ha => ?_⟩
    · subst e
      exact ap a ha (List.mem_append_right _ hb)
    · rcases List.mem_append.mp ha with z | z
      · exact .inr z
      · exact .inl (List.mem_append_right _ z)
  | x0 :: xs, vs, F, Fy, i + 1, y, w, r, h, nd, ry, ny, ap => by
    simp only [Reps] at r
    obtain ⟨v0, us, Fa, Fb, rfl, r1, r2, rfl⟩ := r
    rw [List.nodup_append] at nd
    obtain ⟨G, q1, q2, q3⟩ := Reps.setv r2 (by simpa using h) nd.2.1 ry ny fun a ha z => ap a ha (List.mem_append_right _ z)
    refine ⟨Fa ++ G, Reps.cons r1 q1, List.nodup_append.mpr ⟨nd.1, q2, fun a ha b hb e => ?_⟩, fun a ha => ?_⟩
    · subst e
      rcases q3 a hb with z | z
      · exact nd.2.2 a ha a z rfl
      · exact ap a z (List.mem_append_left _ ha)
    · rcases List.mem_append.mp ha with z | z
      · exact .inl (List.mem_append_left _ z)
      · exact (q3 a z).imp_left (List.mem_append_right _)
theorem keysD_snoc : ∀ {xs : List (D × D)} {ks : List Key} {k : D} {kk : Key} {y : D}, keysD xs = some ks → keyD k = some kk → keysD (xs ++ [(k, y)]) = some (ks ++ [kk])
  | [], ks, k, kk, y, h, hk => by
    simp only [keysD, Option.some.injEq] at h
    subst h
    simp [keysD, hk]
  | (k0, x0) :: xs, ks, k, kk, y, h, hk => by
    simp only [keysD] at h
    split at h
    · rename_i a b ea eb
      cases h
      simp only [List.cons_append, keysD, ea, keysD_snoc eb hk]
    · cases h
theorem Repk.length : ∀ {xs : List (D × D)} {ks : List Key} {vs : List V} {F : List Addr}, Repk K mg Z H xs vs F → keysD xs = some ks → vs.length = xs.length ∧ ks.length = xs.length
  | [], ks, vs, F, r, hk => by
    simp only [Repk, keysD, Option.some.injEq] at r hk
    rw [r.1, ← hk]
    exact ⟨rfl, rfl⟩
  | (k0, x0) :: xs, ks, vs, F, r, hk => by
    simp only [Repk] at r
    obtain ⟨v0, us, Fa, Fb, rfl, r1, r2, rfl⟩ := r
    simp only [keysD] at hk
    split at hk
    · rename_i a b ea eb
      cases hk
      obtain ⟨h1, h2⟩ := Repk.length r2 eb
      simp [h1, h2]
    · cases hk
theorem Repk.snoc : ∀ {xs : List (D × D)} {vs : List V} {F Fy : List Addr} {k y : D} {w : V}, Repk K mg Z H xs vs F → Rep K mg Z H y w Fy → Repk K mg Z H (xs ++ [(k, y)]) (vs ++ [w]) (F ++ Fy)
  | [], vs, F, Fy, k, y, w, r, ry => by
    simp only [Repk] at r
    obtain ⟨rfl, rfl⟩ := r
    simp only [List.nil_append, Repk]
    exact ⟨w, [], Fy, [], rfl, ry, ⟨rfl, rfl⟩, by simp⟩
  | (k0, x0) :: xs, vs, F, Fy, k, y, w, r, ry => by
    simp only [Repk] at r
    obtain ⟨v0, us, Fa, Fb, rfl, r1, r2, rfl⟩ := r
    simp only [List.cons_append, Repk]
    exact ⟨v0, us ++ [w], Fa, Fb ++ Fy, rfl, r1, Repk.snoc r2 ry, by simp⟩
theorem dAt_none : ∀ {xs : List (D × D)} {ks : List Key} {k : Key}, keysD xs = some ks → dAt xs k = none → k ∉ ks
  | [], ks, k, hk, h => by
    simp only [keysD, Option.some.injEq] at hk
    subst hk
    simp
  | (k0, x0) :: xs, ks, k, hk, h => by
    simp only [keysD] at hk
    split at hk
    · rename_i a b ea eb
      cases hk
      simp only [dAt, ea] at h
      split at h
      · cases h
      · rename_i hne
        exact not_mem_cons' ⟨fun z => hne (by rw [z]), dAt_none eb h⟩
    · cases hk
/-- a dict's item is exchanged -/
theorem Repk.setv : ∀ {xs : List (D × D)} {ks : List Key} {vs : List V} {F Fy : List Addr} {k : Key} {y x : D} {w : V}, Repk K mg Z H xs vs F → keysD xs = some ks → ks.Nodup → dAt xs k = some x → F.Nodup → Rep K mg Z H y w Fy → Fy.Nodup → (∀ a ∈ Fy, a ∉ F) →
    keysD (dSet xs k y) = some ks ∧ ∃ us G, putK (ks.zip vs) k w = ks.zip us ∧ Repk K mg Z H (dSet xs k y) us G ∧ G.Nodup ∧ ∀ a ∈ G, a ∈ F ∨ a ∈ Fy
  | [], ks, vs, F, Fy, k, y, x, w, r, hk, kn, h, nd, ry, ny, ap => by simp [dAt] at h
  | (k0, x0) :: xs, ks, vs, F, Fy, k, y, x, w, r, hk, kn, h, nd, ry, ny, ap => by
    have r0 := r
    simp only [Repk] at r
    obtain ⟨v0, us, Fa, Fb, rfl, r1, r2, rfl⟩ := r
    rw [List.nodup_append] at nd
    simp only [keysD] at hk
    split at hk
    · rename_i a b ea eb
      cases hk
      obtain ⟨kn1, kn2⟩ := List.nodup_cons.mp kn
      by_cases hq : a = k
      · subst hq
        have e2 : dSet ((k0, x0) :: xs) a y = (k0, y) :: xs := by simp only [dSet, ea, if_true]
        refine ⟨by rw [e2]; simp only [keysD, ea, eb], w :: us, Fy ++ Fb, ?_, ?_, List.nodup_append.mpr ⟨ny, nd.2.1, fun c ha d hb e => ?_⟩, fun c ha => ?_⟩
        · have hany : ((a :: b).zip (v0 :: us)).any (fun kv => decide (kv.1 = a)) = true := by simp
          unfold putK
          rw [if_pos hany]
          simp only [List.zip_cons_cons, List.map_cons, if_true, List.cons.injEq, true_and]
          have : ∀ p ∈ b.zip us, ¬ p.1 = a := fun p hp e => kn1 (by
            rw [← e]
            exact (List.of_mem_zip (a := p.1) (b := p.2) hp).1)
          rw [List.map_congr_left (g := id)]
          · simp
          · intro p hp
            simp [this p hp]
        · rw [e2]
          simp only [Repk]
          exact ⟨w, us, Fy, Fb, rfl, ry, r2, rfl⟩
        · subst e
          exact ap c ha (List.mem_append_right _ hb)
        · rcases List.mem_append.mp ha with z | z
          · exact .inr z
          · exact .inl (List.mem_append_right _ z)
      · have hne : ¬ keyD k0 = some k := fun z => hq (by rw [ea] at z; exact Option.some.inj z)
        simp only [dAt, if_neg hne] at h
        obtain ⟨q0, us', G, q1, q2, q3, q4⟩ := Repk.setv r2 eb kn2 h nd.2.1 ry ny fun c hc z => ap c hc (List.mem_append_right _ z)
        have e2 : dSet ((k0, x0) :: xs) k y = (k0, x0) :: dSet xs k y := by simp only [dSet, if_neg hne]
        refine ⟨by rw [e2]; simp only [keysD, ea, q0], v0 :: us', Fa ++ G, ?_, ?_, List.nodup_append.mpr ⟨nd.1, q3, fun c ha d hb e => ?_⟩, fun c ha => ?_⟩
        · have hin : (b.zip us).any (fun kv => decide (kv.1 = k)) = true := by
            obtain ⟨v', F', e', _⟩ := Repk.focus r2 eb h nd.2.1
            rw [valV_any, e']
            rfl
          unfold putK at q1 ⊢
          rw [if_pos hin] at q1
          have hin2 : ((a :: b).zip (v0 :: us)).any (fun kv => decide (kv.1 = k)) = true := by
            simp only [List.zip_cons_cons, List.any_cons, hin, Bool.or_true]
          rw [if_pos hin2]
          simp only [List.zip_cons_cons, List.map_cons, if_neg hq, q1]
        · rw [e2]
          simp only [Repk]
          exact ⟨v0, us', Fa, G, rfl, r1, q2, rfl⟩
        · subst e
          rcases q4 c hb with z | z
          · exact nd.2.2 c ha c z rfl
          · exact ap c z (List.mem_append_left _ ha)
        · rcases List.mem_append.mp ha with z | z
          · exact .inl (List.mem_append_left _ z)
          · exact (q4 c z).imp_left (List.mem_append_right _)
    · cases hk
end
/-- what a step may do to a value's own things -/
structure Chg (H H' : Hp) (F : List Addr) : Prop where
  keep : ∀ a o, H a = some o → a ∉ F → H' a = some o
  gr : ∀ a, H' a = none → H a = none
theorem Chg.upd {H : Hp} {F : List Addr} {a : Addr} {o u : HO} (h : H a = some u) (m : a ∈ F) : Chg H (upd H a o) F :=
  ⟨fun b o' e n => by rw [upd_ne (fun z => n (by rw [z]; exact m))]; exact e, fun b e => by
    by_cases q : b = a
    · subst q; rw [upd_same] at e; cases e
    · rw [upd_ne q] at e; exact e⟩
def MthD (X : Cx) (id : String) (g : D → List D → Option (D × D)) : Prop := ∃ r, MtR X id r ∧ ∀ {Z : Addr → Prop} {H : Hp} {d1 d2 res : D} {ds : List D} {v : V} {vs : List V} {F1 Fa : List Addr} {Q : VK}, (∀ a, Z a → ∃ o, H a = some o) → (∀ a ∈ F1, ¬ Z a) → Rep X.K X.mg Z H d1 v F1 → Reps X.K X.mg Z H ds vs Fa → F1.Nodup → Fa.Nodup → (∀ a ∈ Fa, a ∉ F1) → g d1 ds = some (res, d2) →
  (∀ vr H' F2 Fr, Chg H H' F1 → Rep X.K X.mg Z H' d2 v F2 → Rep X.K X.mg Z H' res vr Fr → F2.Nodup → Fr.Nodup → (∀ a ∈ Fr, a ∉ F2) → (∀ a ∈ F2, a ∈ F1 ∨ a ∈ Fa) → (∀ a ∈ Fr, a ∈ F1 ∨ a ∈ Fa) → Q vr H') → r v vs H Q
def tyD : String → D → Bool
  | T, .lst _ _ => T == "list"
  | T, .dct _ _ => T == "dict"
  | _, _ => false
def mthM (i : Nat) (T : String) (g : D → List D → Option (D × D)) (fp : M (List Stp)) (fa : M (List D)) : M D := bnd fp fun π env => match atE env i π with
  | some d1 => if tyD T d1 = true then bnd fa (fun ds env2 => match g d1 ds with
    | some (res, d2) => (match updE env2 i π d2 with
      | some env' => .ok res env'
      | none => .err)
    | none => .err) env else .err
  | none => .err
theorem tyD_ok {K : PySem.W.Frag} {mg : Mg} {Z : Addr → Prop} {H : Hp} {T : String} {d : D} {v : V} {F : List Addr} (r : Rep K mg Z H d v F) (h : tyD T d = true) : tyV K T v H := by
  unfold tyD at h
  split at h
  · obtain ⟨a, vs, G, rfl, s, _⟩ := lst_sq r
    exact .inl ⟨by simpa using h, vs, s⟩
  · rename_i o kvs
    cases o with
    | true =>
      simp only [Rep] at r
      obtain ⟨a, ks, vs, G, rfl, t, _⟩ := r
      exact .inr (.inr (.inl ⟨by simpa using h, .inl ⟨_, t⟩⟩))
    | false =>
      simp only [Rep] at r
      obtain ⟨a, ks, vs, rfl, t, _⟩ := r
      exact .inr (.inr (.inl ⟨by simpa using h, .inl ⟨_, t⟩⟩))
  · cases h
theorem updE_of {env env' : Env} {i : Nat} {π : List Stp} {d y : D} (hd : env.s[i]? = some (some d)) (h : updE env i π y = some env') : ∃ dn, d.upd π y = some dn ∧ env' = env.put i dn := by
  unfold updE at h
  rw [hd] at h
  dsimp only at h
  split at h
  · rename_i d' e
    cases h
    exact ⟨d', e, rfl⟩
  · cases h
theorem updE_of' {env : Env} {i : Nat} {π : List Stp} {d : D} (hd : env.s[i]? = some (some d)) : atE env i π = d.at π := by
  unfold atE
  rw [hd]
section
variable {X : Cx} {e a b k : Expr} {pos p cpos apos : Pos} {es : List Expr} {i : Nat} {fp : M (List Stp)} {f fk fa : M D} {fl : M (List D)} {T Tp Tk Ta : Nat → Bool} {src sk : Option Nat} {Ty id : String} {name : Str} {g : D → List D → Option (D × D)}
/-- P.m(e, ..) -/
theorem mth_read {W : WX} {σ : L2.St} {H : Hp} {Q : VK} {r : V → List V → Hp → VK → Prop} (ht : Ta i = false)
    (hr : ∀ {Z : Addr → Prop} {H : Hp} {d1 d2 res : D} {ds : List D} {v : V} {vs : List V} {F1 Fa : List Addr} {Q : VK}, (∀ a, Z a → ∃ o, H a = some o) → (∀ a ∈ F1, ¬ Z a) → Rep X.K X.mg Z H d1 v F1 → Reps X.K X.mg Z H ds vs Fa → F1.Nodup → Fa.Nodup → (∀ a ∈ Fa, a ∉ F1) → g d1 ds = some (res, d2) →
      (∀ vr H' F2 Fr, Chg H H' F1 → Rep X.K X.mg Z H' d2 v F2 → Rep X.K X.mg Z H' res vr Fr → F2.Nodup → Fr.Nodup → (∀ a ∈ Fr, a ∉ F2) → (∀ a ∈ F2, a ∈ F1 ∨ a ∈ Fa) → (∀ a ∈ Fr, a ∈ F1 ∨ a ∈ Fa) → Q vr H') → r v vs H Q)
    (h : tE X.K X.mg (mthM i Ty g fp fl) (tor (tor Tp Ta) (T1' i)) none W σ H Q) : tP X.K X.mg i fp Tp W σ H fun x H1 => tyV X.K Ty x H1 ∧ tA X.K X.mg fl Ta W σ H1 fun xs H2 => r x xs H2 Q := by
  obtain ⟨Z, env, Fs, S, c⟩ := h
  refine ⟨Z, env, Fs, S, ?_⟩
  unfold mthM bnd at c
  cases qp : fp env with
  | err => rw [qp] at c; exact c.elim
  | exc x fs e1 =>
    rw [qp] at c
    exact fun cls dd H' Z' Fs' S' t r => c cls dd H' Z' Fs' S' (t.mono fun i q => (tor_sub i (tor_sub i q).1).1) r
  | ok π e1 =>
    rw [qp] at c
    dsimp only at c
    intro d d1 u v H1 Z1 Fs1 F1 S1 t1 hd hu foc
    rw [updE_of' hd, foc.at_] at c
    dsimp only at c
    split at c
    · rename_i hty
      refine ⟨tyD_ok foc.r1 hty, Z1, e1, Fs1, S1, ?_⟩
      cases qa : fl e1 with
      | err => rw [qa] at c; exact c.elim
      | exc x fs e2 =>
        rw [qa] at c
        exact fun cls dd H' Z' Fs' S' t r => c cls dd H' Z' Fs' S' (t1.trans t fun i q => tor_sub i (tor_sub i q).1) r
      | ok ds e2 =>
        rw [qa] at c
        dsimp only at c
        intro vs H2 Z2 Fs2 Fa S2 t2 ra pa
        obtain ⟨foc2, hd2⟩ := foc.over S1 t2 ht hd
        split at c
        · rename_i res d2 hg
          split at c
          · rename_i env' hup
            obtain ⟨dn, hup2, rfl⟩ := updE_of hd2 hup
            have pb := pa.back t1
            have apF : ∀ a ∈ Fa, a ∉ F1 := fun a ha z => (pb.2 a ha).1 i (foc2.sub.subset z)
            refine hr S2.zs (fun a ha => S2.zf i a (foc2.sub.subset ha)) foc2.r1 ra (foc2.sub.nodup foc2.nd) pa.1 apF hg fun vr H' F2 Fr ch q2 qr n2 nr dj s2 sr => ?_
            obtain ⟨G, S3, t3, w⟩ := mut_done S2 (t1.trans t2 (T := tor Tp Ta) fun i q => tor_sub i q) foc2 hd2 hu pb.2 ch.keep ch.gr q2 n2 s2 hup2
            exact c vr H' Z2 _ Fr S3 t3 qr ⟨nr, fun a ha => w a (sr a ha) (dj a ha)⟩
          · exact c.elim
        · exact c.elim
    · exact c.elim
theorem ve_mth (hg : MthD X id g) (pa : PlainAttrs Ty) (slot : Slot Ty name id) (hty : typeOf (.builtin id) = pure (.type "method_descriptor")) (hP : VPa X e i fp Tp) (ha : VA X (a :: es) fl Ta) (ht : Ta i = false)
    (hbase : attributeBase e name X.env (eval e X.env) = eval e X.env := by rfl)
    (hfew : ((backTo cpos (starEach (a :: es) X.env)).all (fun x => !x.1) && (backToKw cpos (keywordEach [] X.env)).all (fun x => x.1.isSome)
      && decide ((a :: es).length + ([] : List Keyword).length + (if ([] : List Keyword).isEmpty then 0 else 1) < 30)) = true := by rfl)
    (hline : (apos.endLine == cpos.line) = true := by rfl) (hs : starEach (a :: es) X.env = (false, eval a X.env) :: starEach es X.env := by rfl) (hplain : (backTo cpos (starEach es X.env)).any (·.1) = false := by rfl) :
    VE X (.Call (.Attribute e name apos) (a :: es) [] cpos) (mthM i Ty g fp fl) (tor (tor Tp Ta) (T1' i)) none := by
  obtain ⟨r, h1, h2⟩ := hg
  exact ⟨fun W tk => pe_imp (pe_bm pa slot hty h1 (hP.run W tk) (ha.run W tk) hbase hfew hline hs hplain) fun σ H Q h => mth_read ht h2 h⟩
theorem ve_mth0 (hg : MthD X id g) (pa : PlainAttrs Ty) (slot : Slot Ty name id) (hty : typeOf (.builtin id) = pure (.type "method_descriptor")) (hP : VPa X e i fp Tp)
    (hbase : attributeBase e name X.env (eval e X.env) = eval e X.env := by rfl) (hline : (apos.endLine == cpos.line) = true := by rfl) : VE X (.Call (.Attribute e name apos) [] [] cpos) (mthM i Ty g fp (pur [])) (tor (tor Tp T0) (T1' i)) none := by
  obtain ⟨r, h1, h2⟩ := hg
  refine ⟨fun W tk => pe_imp (pe_bm0 pa slot hty h1 (hP.run W tk) hbase hline) fun σ H Q h => ?_⟩
  have := mth_read (Ta := T0) rfl h2 h
  obtain ⟨Z, env, Fs, S, c⟩ := this
  refine ⟨Z, env, Fs, S, ?_⟩
  cases q : fp env with
  | err => rw [q] at c; exact c
  | exc x fs e1 => rw [q] at c; exact c
  | ok π e1 =>
    rw [q] at c
    intro d d1 u v H1 Z1 Fs1 F1 S1 t1 hd hu foc
    obtain ⟨h3, Z2, env2, Fs2, S2, h4⟩ := c d d1 u v H1 Z1 Fs1 F1 S1 t1 hd hu foc
    exact ⟨h3, h4 [] H1 Z2 Fs2 [] S2 Tr.refl Reps.nil VP.nil⟩
end
def appendG : D → List D → Option (D × D)
  | .lst true xs, [y] => if xs.length < 16777216 then some (.non, .lst true (xs ++ [y])) else none
  | _, _ => none
def extendG : D → List D → Option (D × D)
  | .lst true xs, [.lst true ys] => if xs.length + ys.length ≤ 16777216 then some (.non, .lst true (xs ++ ys)) else none
  | _, _ => none
def popG : D → List D → Option (D × D)
  | .lst true xs, [] => (match xs[xs.length - 1]? with
    | some y => some (y, .lst true (xs.eraseIdx (xs.length - 1)))
    | none => none)
  | _, _ => none
def popAtG : D → List D → Option (D × D)
  | .lst true xs, [.int i] => if small62 i = true then (match ixN xs.length i with
    | some k => (match xs[k]? with
      | some y => some (y, .lst true (xs.eraseIdx k))
      | none => none)
    | none => none) else none
  | _, _ => none
section
variable {X : Cx}
theorem md_append : MthD X "list.append" appendG := by
  refine ⟨_, mt_append, fun {Z H d1 d2 res ds v vs F1 Fa Q} zs zf r ra n1 na ap hg q => ?_⟩
  unfold appendG at hg
  split at hg
  · rename_i xs y
    split at hg
    · rename_i hl
      cases hg
      have r0 := r
      simp only [Rep] at r
      obtain ⟨a, us, G, rfl, t, rs, rfl⟩ := r
      simp only [Reps] at ra
      obtain ⟨w, _, F3, F4, rfl, rw', ⟨rfl, rfl⟩, rfl⟩ := ra
      rw [List.append_nil] at *
      have nd := List.nodup_cons.mp n1
      have st : Stay Z Z H (upd H a (.lst (us ++ [w]))) := ⟨fun _ h => h, fun b hb => upd_ne fun z => zf a List.mem_cons_self (by rw [← z]; exact hb)⟩
      refine ⟨a, us, w, rfl, rfl, t, by rw [rs.length, sizeLine_eq]; exact hl, q .non _ (a :: (G ++ F3)) [] (Chg.upd t List.mem_cons_self) ?_ (by simp [Rep]) ?_ List.nodup_nil (fun _ h => by simp at h) (fun b hb => ?_) (fun _ h => by simp at h)⟩
      · simp only [Rep]
        exact ⟨a, _, _, rfl, upd_same, Reps.app (Reps.stay st rs fun b hb => upd_ne fun z => nd.1 (by rw [← z]; exact hb)) (Reps.one (rw'.stay st fun b hb => upd_ne fun z => ap b hb (by rw [z]; exact List.mem_cons_self))), rfl⟩
      · refine List.nodup_cons.mpr ⟨fun z => ?_, List.nodup_append.mpr ⟨nd.2, na, fun b hb c hc e => ?_⟩⟩
        · rcases List.mem_append.mp z with z | z
          · exact nd.1 z
          · exact ap a z List.mem_cons_self
        · subst e
          exact ap b hc (List.mem_cons_of_mem _ hb)
      · rcases List.mem_cons.mp hb with rfl | hb
        · exact .inl List.mem_cons_self
        · exact (List.mem_append.mp hb).imp_left (List.mem_cons_of_mem _)
    · cases hg
  · cases hg
theorem md_extend : MthD X "list.extend" extendG := by
  refine ⟨_, mt_extend, fun {Z H d1 d2 res ds v vs F1 Fa Q} zs zf r ra n1 na ap hg q => ?_⟩
  unfold extendG at hg
  split at hg
  · rename_i xs ys
    split at hg
    · rename_i hl
      cases hg
      simp only [Rep] at r
      obtain ⟨a, us, G, rfl, t, rs, rfl⟩ := r
      simp only [Reps, Rep] at ra
      obtain ⟨w, _, F3, F4, rfl, ⟨b, ws, G2, rfl, t2, rs2, rfl⟩, ⟨rfl, rfl⟩, rfl⟩ := ra
      rw [List.append_nil] at *
      have nd := List.nodup_cons.mp n1
      have nd2 := List.nodup_cons.mp na
      have st : Stay Z Z H (upd H a (.lst (us ++ ws))) := ⟨fun _ h => h, fun b hb => upd_ne fun z => zf a List.mem_cons_self (by rw [← z]; exact hb)⟩
      refine ⟨a, b, us, ws, rfl, rfl, t, t2, by rw [rs.length, rs2.length, sizeLine_eq]; exact hl, q .non _ (a :: (G ++ G2)) [] (Chg.upd t List.mem_cons_self) ?_ (by simp [Rep]) ?_ List.nodup_nil (fun _ h => by simp at h) (fun c hc => ?_) (fun _ h => by simp at h)⟩
      · simp only [Rep]
        exact ⟨a, _, _, rfl, upd_same, Reps.app (Reps.stay st rs fun b hb => upd_ne fun z => nd.1 (by rw [← z]; exact hb)) (Reps.stay st rs2 fun c hc => upd_ne fun z => ap c (List.mem_cons_of_mem _ hc) (by rw [z]; exact List.mem_cons_self)), rfl⟩
      · refine List.nodup_cons.mpr ⟨fun z => ?_, List.nodup_append.mpr ⟨nd.2, nd2.2, fun c hc d hd e => ?_⟩⟩
        · rcases List.mem_append.mp z with z | z
          · exact nd.1 z
          · exact ap a (List.mem_cons_of_mem _ z) List.mem_cons_self
        · subst e
          exact ap c (List.mem_cons_of_mem _ hd) (List.mem_cons_of_mem _ hc)
      · rcases List.mem_cons.mp hc with rfl | hc
        · exact .inl List.mem_cons_self
        · rcases List.mem_append.mp hc with z | z
          · exact .inl (List.mem_cons_of_mem _ z)
          · exact .inr (List.mem_cons_of_mem _ z)
    · cases hg
  · cases hg
theorem dropLast_erase {α : Type} : ∀ (l : List α), l.eraseIdx (l.length - 1) = l.dropLast
  | [] => rfl
  | [x] => rfl
  | x :: y :: r => by
    have := dropLast_erase (y :: r)
    simp only [List.length_cons, Nat.add_sub_cancel] at this ⊢
    rw [List.eraseIdx_cons_succ, this]
    rfl
theorem md_pop : MthD X "list.pop" popG := by
  refine ⟨_, mt_pop, fun {Z H d1 d2 res ds v vs F1 Fa Q} zs zf r ra n1 na ap hg q => ?_⟩
  unfold popG at hg
  split at hg
  · rename_i xs
    split at hg
    · rename_i y hy
      cases hg
      simp only [Rep] at r
      obtain ⟨a, us, G, rfl, t, rs, rfl⟩ := r
      simp only [Reps] at ra
      obtain ⟨rfl, rfl⟩ := ra
      have nd := List.nodup_cons.mp n1
      obtain ⟨w, Fy, G', e1, q1, q2, m1, m2, s1, s2, dj⟩ := Reps.out rs hy nd.2
      rw [← rs.length] at e1 q2
      have st : Stay Z Z H (upd H a (.lst us.dropLast)) := ⟨fun _ h => h, fun b hb => upd_ne fun z => zf a List.mem_cons_self (by rw [← z]; exact hb)⟩
      refine ⟨a, us, w, rfl, rfl, t, e1, q w _ (a :: G') Fy (Chg.upd t List.mem_cons_self) ?_ (q1.stay st fun b hb => upd_ne fun z => nd.1 (by rw [← z]; exact s1 b hb)) ?_ m1 (fun b hb => ?_) (fun b hb => .inl ?_) fun b hb => .inl (List.mem_cons_of_mem _ (s1 b hb))⟩
      · simp only [Rep]
        refine ⟨a, _, _, rfl, upd_same, ?_, rfl⟩
        rw [dropLast_erase, rs.length] at q2
        exact Reps.stay st q2 fun b hb => upd_ne fun z => nd.1 (by rw [← z]; exact s2 b hb)
      · exact List.nodup_cons.mpr ⟨fun z => nd.1 (s2 a z), m2⟩
      · refine not_mem_cons' ⟨fun z => nd.1 (by rw [← z]; exact s1 b hb), fun z => dj b z hb⟩
      · rcases List.mem_cons.mp hb with rfl | hb
        · exact List.mem_cons_self
        · exact List.mem_cons_of_mem _ (s2 b hb)
    · cases hg
  · cases hg
theorem md_popAt : MthD X "list.pop" popAtG := by
  refine ⟨_, mt_popAt, fun {Z H d1 d2 res ds v vs F1 Fa Q} zs zf r ra n1 na ap hg q => ?_⟩
  unfold popAtG at hg
  split at hg
  · rename_i xs i
    split at hg
    · rename_i hsm
      split at hg
      · rename_i k hk
        split at hg
        · rename_i y hy
          cases hg
          simp only [Rep] at r
          obtain ⟨a, us, G, rfl, t, rs, rfl⟩ := r
          simp only [Reps, Rep] at ra
          obtain ⟨w0, _, F3, F4, rfl, ⟨rfl, rfl⟩, ⟨rfl, rfl⟩, rfl⟩ := ra
          have nd := List.nodup_cons.mp n1
          obtain ⟨w, Fy, G', e1, q1, q2, m1, m2, s1, s2, dj⟩ := Reps.out rs hy nd.2
          obtain ⟨b1, b2⟩ := small62_iff hsm
          have st : Stay Z Z H (upd H a (.lst (us.eraseIdx k))) := ⟨fun _ h => h, fun b hb => upd_ne fun z => zf a List.mem_cons_self (by rw [← z]; exact hb)⟩
          refine ⟨a, us, i, k, w, rfl, rfl, t, by omega, by omega, by rw [rs.length]; exact (ixN_seq hk).1, e1, q w _ (a :: G') Fy (Chg.upd t List.mem_cons_self) ?_ (q1.stay st fun b hb => upd_ne fun z => nd.1 (by rw [← z]; exact s1 b hb)) ?_ m1 (fun b hb => ?_) (fun b hb => .inl ?_) fun b hb => .inl (List.mem_cons_of_mem _ (s1 b hb))⟩
          · simp only [Rep]
            exact ⟨a, _, _, rfl, upd_same, Reps.stay st q2 fun b hb => upd_ne fun z => nd.1 (by rw [← z]; exact s2 b hb), rfl⟩
          · exact List.nodup_cons.mpr ⟨fun z => nd.1 (s2 a z), m2⟩
          · exact not_mem_cons' ⟨fun z => nd.1 (by rw [← z]; exact s1 b hb), fun z => dj b z hb⟩
          · rcases List.mem_cons.mp hb with rfl | hb
            · exact List.mem_cons_self
            · exact List.mem_cons_of_mem _ (s2 b hb)
        · cases hg
      · cases hg
    · cases hg
  · cases hg
end
end VI
/-! V17: stores, displays of dicts, several targets -/
namespace VI
open PySem PySem.Spec L2

/-- d[k] = y -/
def setD : D → D → D → Option D
  | .lst true xs, .int k, y => (ixN xs.length k).map fun j => .lst true (xs.set j y)
  | .dct true kvs, k, y => match keyD k with
    | some kk => (match dAt kvs kk with
      | some _ => if kvs.length < 16777216 then some (.dct true (dSet kvs kk y)) else none
      | none => if kvs.length < 16777216 then some (.dct true (kvs ++ [(k, y)])) else none)
    | none => none
  | _, _, _ => none
def storeM (i : Nat) (fe : M D) (fp : M (List Stp)) (fk : M D) : M Fl := bnd fe fun y => bnd fp fun π => bnd fk fun dk env => match atE env i π with
  | some d1 => (match setD d1 dk y with
    | some d2 => (match updE env i π d2 with
      | some env' => .ok .nx env'
      | none => .err)
    | none => .err)
  | none => .err
def rSetB : TSet := fun o i v H Q => rSetL o i v H Q ∨ rSetD o i v H Q
section
variable {X : Cx}
theorem set_B (hu : X.A.units + 1 < cLine) : PSet X rSetB := by
  intro pins s σ H o i v ov iv u Q I ro ri rv h
  rcases h with h | h
  · exact set_list pins s σ H o i v ov iv u Q I ro ri rv h
  · exact set_dict hu pins s σ H o i v ov iv u Q I ro ri rv h
theorem setD_ok {K : PySem.W.Frag} {mg : Mg} {Z : Addr → Prop} {H : Hp} {d1 dk y d2 : D} {v vk vy : V} {F1 Fk Fy : List Addr} {Q : Hp → Prop} (zf : ∀ a ∈ F1, ¬ Z a) (r : Rep K mg Z H d1 v F1) (rk : Rep K mg Z H dk vk Fk) (ry : Rep K mg Z H y vy Fy) (n1 : F1.Nodup) (ny : Fy.Nodup) (ap : ∀ a ∈ Fy, a ∉ F1) (h : setD d1 dk y = some d2)
    (q : ∀ H' F2, Chg H H' F1 → Rep K mg Z H' d2 v F2 → F2.Nodup → (∀ a ∈ F2, a ∈ F1 ∨ a ∈ Fy) → Q H') : rSetB v vk vy H Q := by
  unfold setD at h
  split at h
  · rename_i xs k
    cases e : ixN xs.length k with
    | none => rw [e] at h; cases h
    | some j =>
      rw [e] at h
      cases h
      simp only [Rep] at r rk
      obtain ⟨a, vs, G, rfl, t, rs, rfl⟩ := r
      have nd := List.nodup_cons.mp n1
      obtain ⟨G2, q1, q2, q3⟩ := Reps.setv (i := j) rs (ixN_seq e).2.1 nd.2 ry ny fun b hb z => ap b hb (List.mem_cons_of_mem _ z)
      have st : Stay Z Z H (upd H a (.lst (vs.set j vy))) := ⟨fun _ h => h, fun b hb => upd_ne fun z => zf a List.mem_cons_self (by rw [← z]; exact hb)⟩
      have na : a ∉ G2 := fun z => by
        rcases q3 a z with w | w
        · exact nd.1 w
        · exact ap a w List.mem_cons_self
      refine .inl ⟨a, vs, k, j, rfl, rk.1, t, by rw [rs.length]; exact e, q _ (a :: G2) (Chg.upd t List.mem_cons_self) ?_ (List.nodup_cons.mpr ⟨na, q2⟩) fun b hb => ?_⟩
      · simp only [Rep]
        exact ⟨a, _, G2, rfl, upd_same, Reps.stay st q1 fun b hb => upd_ne fun z => na (by rw [← z]; exact hb), rfl⟩
      · rcases List.mem_cons.mp hb with rfl | hb
        · exact .inl List.mem_cons_self
        · exact (q3 b hb).imp_left (List.mem_cons_of_mem _)
  · rename_i kvs
    split at h
    · rename_i kk ek
      simp only [Rep] at r
      obtain ⟨a, ks, vs, G, rfl, t, hk, rs, rfl⟩ := r
      have nd := List.nodup_cons.mp n1
      obtain ⟨l1, l2⟩ := Repk.length rs hk.1
      have hv := rep_key rk ek
      split at h
      · rename_i x hx
        split at h
        case isFalse => cases h
        rename_i hl
        cases h
        obtain ⟨z1, us, G2, z2, q1, q2, q3⟩ := Repk.setv rs hk.1 hk.2 hx nd.2 ry ny fun b hb z => ap b hb (List.mem_cons_of_mem _ z)
        have st : Stay Z Z H (upd H a (.dK (ks.zip us))) := ⟨fun _ h => h, fun b hb => upd_ne fun z => zf a List.mem_cons_self (by rw [← z]; exact hb)⟩
        have na : a ∉ G2 := fun z => by
          rcases q3 a z with w | w
          · exact nd.1 w
          · exact ap a w List.mem_cons_self
        have hlen : (ks.zip vs).length < sizeLine := by rw [List.length_zip, l1, l2, Nat.min_self, sizeLine_eq]; exact hl
        refine .inr ⟨a, _, rfl, by rw [hv]; exact DPut.k t hlen, ?_⟩
        rw [z2]
        refine q _ (a :: G2) (Chg.upd t List.mem_cons_self) ?_ (List.nodup_cons.mpr ⟨na, q2⟩) fun b hb => ?_
        · simp only [Rep]
          exact ⟨a, ks, us, G2, rfl, upd_same, ⟨z1, hk.2⟩, Repk.stay st q1 fun b hb => upd_ne fun z => na (by rw [← z]; exact hb), rfl⟩
        · rcases List.mem_cons.mp hb with rfl | hb
          · exact .inl List.mem_cons_self
          · exact (q3 b hb).imp_left (List.mem_cons_of_mem _)
      · rename_i hx
        split at h
        · rename_i hl
          cases h
          have nk : kk ∉ ks := dAt_none hk.1 hx
          have hn : valV (ks.zip vs) kk = none := by
            cases e : valV (ks.zip vs) kk with
            | none => rfl
            | some w =>
              exfalso
              unfold valV at e
              cases e2 : (ks.zip vs).find? (fun kv => decide (kv.1 = kk)) with
              | none => rw [e2] at e; cases e
              | some p =>
                have h1 := List.find?_some e2
                have h2 := List.mem_of_find?_eq_some e2
                have h3 : p.1 = kk := by simpa using h1
                exact nk (by rw [← h3]; exact (List.of_mem_zip (a := p.1) (b := p.2) h2).1)
          have st : Stay Z Z H (upd H a (.dK ((ks ++ [kk]).zip (vs ++ [vy])))) := ⟨fun _ h => h, fun b hb => upd_ne fun z => zf a List.mem_cons_self (by rw [← z]; exact hb)⟩
          have ez : putK (ks.zip vs) kk vy = (ks ++ [kk]).zip (vs ++ [vy]) := by
            rw [putK_new vy hn, List.zip_append (by rw [l1, l2])]
            rfl
          have hlen : (ks.zip vs).length < sizeLine := by rw [List.length_zip, l1, l2, Nat.min_self, sizeLine_eq]; exact hl
          refine .inr ⟨a, _, rfl, by rw [hv]; exact DPut.k t hlen, ?_⟩
          rw [ez]
          refine q _ (a :: (G ++ Fy)) (Chg.upd t List.mem_cons_self) ?_ (List.nodup_cons.mpr ⟨fun z => ?_, List.nodup_append.mpr ⟨nd.2, ny, fun b hb c hc e => ?_⟩⟩) fun b hb => ?_
          · simp only [Rep]
            refine ⟨a, ks ++ [kk], vs ++ [vy], G ++ Fy, rfl, upd_same, ⟨keysD_snoc hk.1 ek, ?_⟩, Repk.stay st (Repk.snoc rs ry) fun b hb => upd_ne fun z => ?_, rfl⟩
            · refine List.nodup_append.mpr ⟨hk.2, by simp, fun c hc d hd e => ?_⟩
              subst e
              exact nk (by rw [← List.mem_singleton.mp hd]; exact hc)
            · subst z
              rcases List.mem_append.mp hb with w | w
              · exact nd.1 w
              · exact ap b w List.mem_cons_self
          · rcases List.mem_append.mp z with w | w
            · exact nd.1 w
            · exact ap a w List.mem_cons_self
          · subst e
            exact ap b hc (List.mem_cons_of_mem _ hb)
          · rcases List.mem_cons.mp hb with rfl | hb
            · exact .inl List.mem_cons_self
            · exact (List.mem_append.mp hb).imp_left (List.mem_cons_of_mem _)
        · cases h
    · cases h
  · cases h
end
section
variable {X : Cx} {e o k : Expr} {pos p p' : Pos} {i : Nat} {fp : M (List Stp)} {fe fk : M D} {Te Tp Tk : Nat → Bool} {sk : Option Nat}
/-- P[k] = e -/
theorem vs_store (hu : X.A.units + 1 < cLine) (he : VE X e fe Te none) (hP : VPa X o i fp Tp) (hk : VE X k fk Tk sk) (ht : Tk i = false)
    (ha : ∀ v, assign (.Subscript o k p') X.env v = (do
      let ov ← holding [v] (eval o X.env)
      let iv ← holding [v, ov] (eval k X.env)
      standAt p'
      holding [v, ov, iv] (setItem ov iv v)
      release [v, ov, iv] []) := by intro _; rfl) (hs : swapsWithSole [.Subscript o k p'] e pos.line X.env = pure false := by rfl) (hw : swappedStores [.Subscript o k p'] e X.env = pure none := by rfl)
    (h1 : (assignEach [.Subscript o k p'] X.env).map (·.2) = [assign (.Subscript o k p') X.env] := by rfl) :
    VS X (.Assign [.Subscript o k p'] e pos) (storeM i fe fp fk) (tor (tor Te (tor Tp Tk)) (T1' i)) := by
  refine ⟨fun W tk => ps_imp (ps_asg (he.run W tk) (pg_sub (hP.run W tk) (hk.run W tk) (set_B hu) ha) hs hw h1) fun D0 σ H ⟨Z, env, Fs, S, c⟩ => ⟨Z, env, Fs, S, ?_⟩⟩
  unfold storeM bnd at c
  have m1 : ∀ i_1, tor (tor Te (tor Tp Tk)) (T1' i) i_1 = false → Te i_1 = false := fun j q => (tor_sub j (tor_sub j q).1).1
  cases q : fe env with
  | err => rw [q] at c; exact c.elim
  | exc x fs e1 => rw [q] at c; exact fun cls dd H' Z' Fs' S t r => c cls dd σ H' Z' Fs' S (t.mono m1) Pin.refl r
  | ok y e1 =>
    rw [q] at c
    dsimp only at c
    intro vy H1 Z1 Fs1 Fy S1 t1 ry py
    refine ⟨Z1, e1, Fs1, S1, ?_⟩
    cases qp : fp e1 with
    | err => rw [qp] at c; exact c.elim
    | exc x fs e2 =>
      rw [qp] at c
      exact fun cls dd H' Z' Fs' S t r => c cls dd σ H' Z' Fs' S (t1.trans t fun j q => ⟨m1 j q, (tor_sub j (tor_sub j (tor_sub j q).1).2).1⟩) Pin.refl r
    | ok π e2 =>
      rw [qp] at c
      dsimp only at c
      intro d d1 u v H2 Z2 Fs2 F1 S2 t2 hd hu' foc
      refine ⟨Z2, e2, Fs2, S2, ?_⟩
      have t12 : Tr (tor Te Tp) Z H env Fs Z2 H2 e2 Fs2 := t1.trans t2 tor_sub
      cases qk : fk e2 with
      | err => rw [qk] at c; exact c.elim
      | exc x fs e3 =>
        rw [qk] at c
        exact fun cls dd H' Z' Fs' S t r => c cls dd σ H' Z' Fs' S (t12.trans t fun j q => by
          have := tor_sub j q
          have h2 := tor_sub j this.1
          have h3 := tor_sub j h2.2
          exact ⟨by simp [h2.1, h3.1], h3.2⟩) Pin.refl r
      | ok dk e3 =>
        rw [qk] at c
        dsimp only at c
        intro vk H3 Z3 Fs3 Fk S3 t3 rk pk
        obtain ⟨foc3, hd3⟩ := foc.over S2 t3 ht hd
        rw [updE_of' hd3, foc3.at_] at c
        dsimp only at c
        have ry2 : Rep X.K X.mg Z2 H2 y vy Fy := Rep.over S1 py ry t2 (.inr fun i z => by cases z)
        have py2 := py.over (fun a ha => ry.there a ha) t2
        have ry3 : Rep X.K X.mg Z3 H3 y vy Fy := Rep.over S2 py2 ry2 t3 (.inr fun i z => by cases z)
        have py3 := py2.over (fun a ha => ry2.there a ha) t3
        split at c
        · rename_i d2 hset
          split at c
          · rename_i env' hup
            obtain ⟨dn, hup2, rfl⟩ := updE_of hd3 hup
            have t13 : Tr (tor Te (tor Tp Tk)) Z H env Fs Z3 H3 e3 Fs3 := t12.trans t3 fun j q => by
              have h2 := tor_sub j q
              have h3 := tor_sub j h2.2
              exact ⟨by simp [h2.1, h3.1], h3.2⟩
            refine setD_ok (fun a ha => S3.zf i a (foc3.sub.subset ha)) foc3.r1 rk ry3 (foc3.sub.nodup foc3.nd) py.1 (fun a ha z => (py3.2 a ha).1 i (foc3.sub.subset z)) hset fun H' F2 ch r2 n2 s2 => ?_
            obtain ⟨G, S4, t4, _⟩ := mut_done S3 t13 foc3 hd3 hu' py3.2 ch.keep ch.gr r2 n2 s2 hup2
            exact c σ H' Z3 _ S4 t4 Pin.refl
          · exact c.elim
        · exact c.elim
end
/-- the names' slots, from the right -/
def putsE : List Nat → List D → Env → Option Env
  | [], [], env => some env
  | i :: is, d :: ds, env => match putsE is ds env with
    | some e => if e.p[i]? = some true then none else if i < e.s.length then some (e.put i d) else none
    | none => none
  | _, _, _ => none
def parM (is : List Nat) (f : M (List D)) : M Fl := bnd f fun ds env => match putsE is ds env with
  | some e => .ok .nx e
  | none => .err
/-- a, b = d -/
def asgtM (f : M D) (g : D → M Unit) : M Fl := bnd f fun d => if d.own then bad else fun env => match g d env with
  | .ok _ e => .ok .nx e
  | _ => .err
section
variable {X : Cx} {e tg a b c : Expr} {pos px py pz pt pt2 : Pos} {kt k2 : Nat} {f : M D} {fl : M (List D)} {g : D → M Unit} {T Tg : Nat → Bool} {i j k : Nat} {x y z : Str}
theorem vs_asgt (he : VE X e f T none) (hg : VGt X tg g Tg) (hs : swapsWithSole [tg] e pos.line X.env = pure false := by rfl) (hw : swappedStores [tg] e X.env = pure none := by rfl)
    (h1 : (assignEach [tg] X.env).map (·.2) = [assign tg X.env] := by rfl) : VS X (.Assign [tg] e pos) (asgtM f g) (tor T Tg) := by
  refine ⟨fun W tk => ps_imp (ps_asg (he.run W tk) hg.run hs hw h1) fun D0 σ H ⟨Z, env, Fs, S, c⟩ => ⟨Z, env, Fs, S, ?_⟩⟩
  unfold asgtM bnd at c
  cases q : f env with
  | err => rw [q] at c; exact c.elim
  | exc x fs e1 => rw [q] at c; exact fun cls dd H' Z' Fs' S t r => c cls dd σ H' Z' Fs' S (t.mono fun i q => (tor_sub i q).1) Pin.refl r
  | ok d e1 =>
    rw [q] at c
    dsimp only at c
    intro v H1 Z1 Fs1 F1 S1 t1 r1 p1
    by_cases ho : d.own = true
    · rw [if_pos ho] at c; exact c.elim
    · rw [if_neg ho] at c
      have e0 := r1.unown (by simpa using ho)
      subst e0
      cases qg : g d e1 with
      | err => rw [qg] at c; exact c.elim
      | exc x fs e2 => rw [qg] at c; exact c.elim
      | ok u e2 =>
        rw [qg] at c
        refine ⟨Z1, e1, Fs1, d, S1, r1, e2, qg, fun σ3 Fs3 S3 t3 p3 o3 l3 => ?_⟩
        exact c σ3 H1 Z1 Fs3 S3 (t1.trans t3 tor_sub) (by rw [← t1.p]; exact p3)
/-- what a tuple of names gets -/
theorem puts_ok {K : PySem.W.Frag} {mg : Mg} {Z : Addr → Prop} {H : Hp} : ∀ {is : List Nat} {ds : List D} {vs : List V} {F : List Addr} {σ : L2.St} {env env' : Env} {Fs : Nat → List Addr}, SR K mg Z H σ env Fs → Reps K mg Z H ds vs F → F.Nodup → (∀ a ∈ F, (∀ j, a ∉ Fs j) ∧ ¬ Z a) → putsE is ds env = some env' →
    is.length = vs.length ∧ ∃ Fs', SR K mg Z H ((is.zip vs).foldr (fun p s => s.set p.1 (some p.2)) σ) env' Fs' ∧ (∀ j, j ∉ is → env'.s[j]? = env.s[j]? ∧ Fs' j = Fs j) ∧ (∀ j, ∀ a ∈ Fs' j, a ∈ Fs j ∨ a ∈ F) ∧ env'.p = env.p ∧ Pin env.p σ ((is.zip vs).foldr (fun p s => s.set p.1 (some p.2)) σ)
  | [], [], vs, F, σ, env, env', Fs, S, r, nd, ap, h => by
    simp only [putsE, Option.some.injEq] at h
    subst h
    simp only [Reps] at r
    obtain ⟨rfl, rfl⟩ := r
    exact ⟨rfl, Fs, S, fun _ _ => ⟨rfl, rfl⟩, fun _ _ h => .inl h, rfl, Pin.refl⟩
  | [], d :: ds, vs, F, σ, env, env', Fs, S, r, nd, ap, h => by simp [putsE] at h
  | i :: is, [], vs, F, σ, env, env', Fs, S, r, nd, ap, h => by simp [putsE] at h
  | i :: is, d :: ds, vs, F, σ, env, env', Fs, S, r, nd, ap, h => by
    simp only [Reps] at r
    obtain ⟨v, us, F1, F2, rfl, r1, r2, rfl⟩ := r
    rw [List.nodup_append] at nd
    simp only [putsE] at h
    split at h
    · rename_i e1 he
      obtain ⟨hl, Fs1, S1, u1, s1, hp, pn⟩ := puts_ok S r2 nd.2.1 (fun a ha => ap a (List.mem_append_right _ ha)) he
      split at h
      · cases h
      · rename_i hpi
        split at h
        · rename_i hi
          cases h
          have ap1 : ∀ a ∈ F1, (∀ j, a ∉ Fs1 j) ∧ ¬ Z a := fun a ha => ⟨fun j hj => by
            rcases s1 j a hj with z | z
            · exact (ap a (List.mem_append_left _ ha)).1 j z
            · exact nd.2.2 a ha a z rfl, (ap a (List.mem_append_left _ ha)).2⟩
          refine ⟨by simp [hl], fset Fs1 i F1, ?_, fun j hj => ?_, fun j a ha => ?_, hp, ?_⟩
          · simp only [List.zip_cons_cons, List.foldr_cons]
            exact store_ok S1 hi r1 nd.1 ap1
          · have hji : j ≠ i := fun z => hj (by rw [z]; exact List.mem_cons_self)
            obtain ⟨u2, u3⟩ := u1 j fun z => hj (List.mem_cons_of_mem _ z)
            exact ⟨by rw [Env.put, List.getElem?_set_ne (Ne.symm hji)]; exact u2, (fset_ne hji).trans u3⟩
          · by_cases hji : j = i
            · subst hji
              rw [fset_self] at ha
              exact .inr (List.mem_append_left _ ha)
            · rw [fset_ne hji] at ha
              exact (s1 j a ha).imp_right (List.mem_append_right _)
          · simp only [List.zip_cons_cons, List.foldr_cons]
            exact pn.trans (Pin.set (by rw [← hp]; exact hpi))
        · cases h
    · cases h
def inL (is : List Nat) : Nat → Bool := fun j => is.any (fun i => i == j)
theorem inL_not {is : List Nat} {j : Nat} (h : inL is j = false) : j ∉ is := fun z => by
  have : inL is j = true := List.any_eq_true.mpr ⟨j, z, by simp⟩
  rw [h] at this; cases this
/-- a, b = x, y with plain local names -/
theorem par_read {X : Cx} {is : List Nat} {W : WX} {D0 : Ends} {σ : L2.St} {H : Hp} {fl : M (List D)} {T : Nat → Bool} (h : tS X.K X.mg (parM is fl) (tor T (inL is)) W D0 σ H) :
    tA X.K X.mg fl T W σ H fun vs H1 => is.length = vs.length ∧ D0.nx ((is.zip vs).foldr (fun p s => s.set p.1 (some p.2)) σ) H1 := by
  obtain ⟨Z, env, Fs, S, c⟩ := h
  refine ⟨Z, env, Fs, S, ?_⟩
  unfold parM bnd at c
  cases q : fl env with
  | err => rw [q] at c; exact c.elim
  | exc x fs e1 => rw [q] at c; exact fun cls dd H' Z' Fs' S t r => c cls dd σ H' Z' Fs' S (t.mono fun i q => (tor_sub i q).1) Pin.refl r
  | ok ds e1 =>
    rw [q] at c
    dsimp only at c
    intro vs H1 Z1 Fs1 F1 S1 t1 r1 p1
    split at c
    · rename_i e2 he
      obtain ⟨hl, Fs2, S2, u2, s2, hp, pn⟩ := puts_ok S1 r1 p1.1 (fun a ha => ⟨(p1.2 a ha).1, (p1.2 a ha).2.1⟩) he
      refine ⟨hl, c _ H1 Z1 Fs2 S2 ⟨t1.z, t1.zn, t1.keep, t1.gr, fun j a ha => ?_, fun j hj => ?_, hp.trans t1.p⟩ (by rw [← t1.p]; exact pn)⟩
      · rcases s2 j a ha with z | z
        · exact t1.new j a z
        · exact (p1.2 a z).2.2
      · obtain ⟨h1, h2⟩ := tor_sub j hj
        obtain ⟨u3, u4⟩ := u2 j (inL_not h2)
        obtain ⟨w1, w2, w3⟩ := t1.un j h1
        exact ⟨u3.trans w1, u4.trans w2, w3⟩
    · exact c.elim
theorem vs_par2 (hc : X.calm = true) (hN : X.N.Nodup) (hi : X.N[i]? = some x) (hj : X.N[j]? = some y) (hij : i ≠ j) (hx : X.env.scope.names.lookup x = some .local) (hy : X.env.scope.names.lookup y = some .local) (ha : VA X [a, b] fl T)
    (hw : swappedStores [.Tuple [.Name x px, .Name y py] kt pt] (.Tuple [a, b] k2 pt2) X.env = pure (some [x, y])) (hs : swapsWithSole [.Tuple [.Name x px, .Name y py] kt pt] (.Tuple [a, b] k2 pt2) pos.line X.env = pure false := by rfl) :
    VS X (.Assign [.Tuple [.Name x px, .Name y py] kt pt] (.Tuple [a, b] k2 pt2) pos) (parM [i, j] fl) (tor T (inL [i, j])) := by
  refine ⟨fun W tk => ps_imp (ps_par hc hN hi hj hij hx hy (ha.run W tk) hw hs) fun D0 σ H h => ?_⟩
  obtain ⟨Z, env, Fs, S, c⟩ := par_read h
  refine ⟨Z, env, Fs, S, ?_⟩
  cases q : fl env with
  | err => rw [q] at c; exact c
  | exc x fs e1 => rw [q] at c; exact c
  | ok ds e1 =>
    rw [q] at c
    intro vs H1 Z1 Fs1 F1 S1 t1 r1 p1
    obtain ⟨hl, k⟩ := c vs H1 Z1 Fs1 F1 S1 t1 r1 p1
    match vs, hl, k with
    | [v, w], _, k =>
      refine ⟨v, w, rfl, ?_⟩
      rw [List.set_comm _ _ hij]
      exact k
/-- three at once -/
theorem ps_par3 {i j k : Nat} {x y z : Str} {a b c : Expr} {ta : TA} {px py pz pt : Pos} {kt k2 pt2} (hc : X.calm = true) (hN : X.N.Nodup) (hi : X.N[i]? = some x) (hj : X.N[j]? = some y) (hk : X.N[k]? = some z)
    (hx : X.env.scope.names.lookup x = some .local) (hy : X.env.scope.names.lookup y = some .local) (hz : X.env.scope.names.lookup z = some .local) (ha : PA X [a, b, c] ta)
    (hw : swappedStores [.Tuple [.Name x px, .Name y py, .Name z pz] kt pt] (.Tuple [a, b, c] k2 pt2) X.env = pure (some [x, y, z]))
    (hs : swapsWithSole [.Tuple [.Name x px, .Name y py, .Name z pz] kt pt] (.Tuple [a, b, c] k2 pt2) pos.line X.env = pure false := by rfl) :
    PS X (.Assign [.Tuple [.Name x px, .Name y py, .Name z pz] kt pt] (.Tuple [a, b, c] k2 pt2) pos) (fun D σ H => ta σ H fun vs H1 => ∃ u v w, vs = [u, v, w] ∧ D.nx (((σ.set k (some w)).set j (some v)).set i (some u)) H1) := by
  refine ⟨fun pins s σ H D I h => ?_⟩
  rw [exec_Assign_arm]
  refine wpAny_bind (wpAny_standAt ?_)
  rw [hs]
  refine wpAny_bind (wpAny_pure ?_)
  rw [if_neg (by decide)]
  refine wpAny_bind (PyProof.Rows.Tuple_ (thn (ha.run _ pins s σ H _ I h) fun us s1 ⟨vs, H1, I1, r1, q1⟩ => ?_))
  obtain ⟨v, w, w2, e1, q1⟩ := q1
  subst e1
  obtain ⟨u1, u2, u3, rfl, rv, rw', rx⟩ : ∃ u1 u2 u3, us = [u1, u2, u3] ∧ RelV v u1 ∧ RelV w u2 ∧ RelV w2 u3 := by
    cases r1 with
    | cons p q =>
      cases q with
      | cons p' q' =>
        cases q' with
        | cons p2 q2 =>
          cases q2
          exact ⟨_, _, _, rfl, p, p', p2⟩
  refine wpAny_newObj_type ?_ (by show 3 ≤ sizeLine; decide)
  have I2 : L2.Inv X pins σ H1 { s1 with heap := s1.heap.push { cls := .type "tuple", data := .seq [u1, u2, u3].toArray } } := I1.kept (t' := s1.toks) fun b o e => Heap.get?_push_of_some _ e
  rw [hw]
  refine wpAny_bind (wpAny_pure ?_)
  show wpAny (model X.prog X.w) X.A (do rule "assign.swapped-stores"; let items ← unpackItems (.ref s1.heap.objs.size) 3 none; assignInOrder [fun v => bindName X.env z v, fun v => bindName X.env y v, fun v => bindName X.env x v] items.reverse; pure Flow.next) _ _ _
  refine wpAny_bind (wpAny_rule (wpAny_bind (PyProof.Rows.unpackItems_tuple (items := #[u1, u2, u3]) (I.ok.hd hc) (PyProof.Rows.IsTup.new s1.heap _) fun h' hx' => ?_)))
  have I3 := I2.kept (h' := h') (t' := s1.toks) fun b o e => hx' b o (Nat.ne_of_lt (Heap.lt_size e)) e
  show wpAny _ _ (assignInOrder [fun v => bindName X.env z v, fun v => bindName X.env y v, fun v => bindName X.env x v] [u3, u2, u1] >>= fun _ => pure Flow.next) _ _ _
  refine wpAny_bind (PyProof.Rows.assignInOrder_cons (wpAny_bindName (L2.store_ok I3 hN hk (.inl hz) rx (fun s2 I4 => ?_) (.inr hz))))
  refine PyProof.Rows.assignInOrder_cons (wpAny_bindName (L2.store_ok I4 hN hj (.inl hy) rw' (fun s3 I5 => ?_) (.inr hy)))
  exact PyProof.Rows.assignInOrder_cons (wpAny_bindName (L2.store_ok I5 hN hi (.inl hx) rv (fun s4 I6 => PyProof.Rows.assignInOrder_nil (wpAny_pure ⟨_, H1, I6, q1⟩)) (.inr hx)))
theorem vs_par3 (hc : X.calm = true) (hN : X.N.Nodup) (hi : X.N[i]? = some x) (hj : X.N[j]? = some y) (hk : X.N[k]? = some z) (hx : X.env.scope.names.lookup x = some .local) (hy : X.env.scope.names.lookup y = some .local) (hz : X.env.scope.names.lookup z = some .local) (ha : VA X [a, b, c] fl T)
    (hw : swappedStores [.Tuple [.Name x px, .Name y py, .Name z pz] kt pt] (.Tuple [a, b, c] k2 pt2) X.env = pure (some [x, y, z]))
    (hs : swapsWithSole [.Tuple [.Name x px, .Name y py, .Name z pz] kt pt] (.Tuple [a, b, c] k2 pt2) pos.line X.env = pure false := by rfl) :
    VS X (.Assign [.Tuple [.Name x px, .Name y py, .Name z pz] kt pt] (.Tuple [a, b, c] k2 pt2) pos) (parM [i, j, k] fl) (tor T (inL [i, j, k])) := by
  refine ⟨fun W tk => ps_imp (ps_par3 hc hN hi hj hk hx hy hz (ha.run W tk) hw hs) fun D0 σ H h => ?_⟩
  obtain ⟨Z, env, Fs, S, c⟩ := par_read h
  refine ⟨Z, env, Fs, S, ?_⟩
  cases q : fl env with
  | err => rw [q] at c; exact c
  | exc x fs e1 => rw [q] at c; exact c
  | ok ds e1 =>
    rw [q] at c
    intro vs H1 Z1 Fs1 F1 S1 t1 r1 p1
    obtain ⟨hl, k⟩ := c vs H1 Z1 Fs1 F1 S1 t1 r1 p1
    match vs, hl, k with
    | [v, w, w2], _, k => exact ⟨v, w, w2, rfl, k⟩
end
/-! ### dicts written out -/
def dispM (ks : List Str) (f : M (List D)) : M D := bnd f fun ds => if ds.length = ks.length then pur (.dct true ((ks.map D.str).zip ds)) else bad
structure VDp (X : Cx) (pos : Pos) (keys : List (Option Expr)) (values : List Expr) (ks : List Str) (f : M (List D)) (T : Nat → Bool) : Prop where
  run : ∀ W, Takes X W → ∃ trs, PPs X pos keys values trs ∧ ∀ σ H (Q : List (V × V) → Hp → Prop), tA X.K X.mg f T W σ H (fun vs H' => ∀ l, l = (ks.map V.str).zip vs → Q l H') → tPairs trs σ H Q
section
variable {X : Cx} {pos p : Pos} {keys : List (Option Expr)} {values : List Expr} {ks : List Str} {f : M (List D)} {g : M D} {T Tv : Nat → Bool} {v : Expr} {k : Str} {j : Nat}
theorem vd_nil : VDp X pos [] [] [] (pur []) T0 := ⟨fun W tk => ⟨[], pps_nil, fun σ H Q ⟨Z, env, Fs, S, c⟩ => c [] H Z Fs [] S Tr.refl Reps.nil VP.nil [] rfl⟩⟩
/-- the values in a row -/
theorem cons_read {K : PySem.W.Frag} {mg : Mg} {W : WX} {σ : L2.St} {H : Hp} {Q : List V → Hp → Prop} (h : tA K mg (consM g f) (tor Tv T) W σ H Q) : tE K mg g Tv none W σ H fun x H1 => tA K mg f T W σ H1 fun xs H2 => Q (x :: xs) H2 := by
  obtain ⟨Z, env, Fs, S, c⟩ := h
  refine ⟨Z, env, Fs, S, ?_⟩
  unfold consM bnd at c
  cases q : g env with
  | err => rw [q] at c; exact c.elim
  | exc x fs e1 =>
    rw [q] at c
    exact fun cls dd H' Z' Fs' S' t r => c cls dd H' Z' Fs' S' (t.mono fun i q => (tor_sub i q).1) r
  | ok d e1 =>
    rw [q] at c
    simp only at c
    intro v H1 Z1 Fs1 F1 S1 t1 r1 p1
    refine ⟨Z1, e1, Fs1, S1, ?_⟩
    cases q2 : f e1 with
    | err => rw [q2] at c; exact c.elim
    | exc x fs e2 => rw [q2] at c; exact ContL.step c t1 tor_sub
    | ok ds e2 =>
      rw [q2] at c
      have c0 : ContL K mg (tor Tv T) W Q σ Z H env Fs (.ok (d :: ds) e2) := c
      intro vs H2 Z2 Fs2 F2 S2 t2 r2 p2
      have r1' := Rep.over S1 p1 r1 t2 (.inr fun i z => by cases z)
      have p1' := p1.over (fun a ha => r1.there a ha) t2
      have p2' := p2.back t1
      refine c0 (v :: vs) H2 Z2 Fs2 (F1 ++ F2) S2 (t1.trans t2 tor_sub) (Reps.cons r1' r2) ⟨List.nodup_append.mpr ⟨p1.1, p2.1, fun x hx y hy z => ?_⟩, fun x hx => (List.mem_append.mp hx).elim (p1'.2 x) (p2'.2 x)⟩
      subst z
      rcases (p2.2 x hy).2.2 with ⟨j, z⟩ | z
      · exact (p1.2 x hx).1 j z
      · obtain ⟨o, e⟩ := r1.there x hx
        rw [z] at e; cases e
theorem vd_cons (hv : VE X v g Tv none) (hr : VDp X pos keys values ks f T) : VDp X pos (some (.Constant (.str k) j p) :: keys) (v :: values) (k :: ks) (consM g f) (tor Tv T) := by
  refine ⟨fun W tk => ?_⟩
  obtain ⟨trs, h1, h2⟩ := hr.run W tk
  refine ⟨_, pps_cons pe_str (hv.run W tk) h1, fun σ H Q h => ?_⟩
  obtain ⟨Z, env, Fs, S, c⟩ := cons_read h
  refine ⟨Z, env, Fs, S, ?_⟩
  cases q : g env with
  | err => rw [q] at c; exact c
  | exc x fs e1 => rw [q] at c; exact c
  | ok d e1 =>
    rw [q] at c
    intro v H1 Z1 Fs1 F1 S1 t1 r1 p1
    refine h2 σ H1 _ ?_
    obtain ⟨Z2, env2, Fs2, S2, c2⟩ := c v H1 Z1 Fs1 F1 S1 t1 r1 p1
    refine ⟨Z2, env2, Fs2, S2, ?_⟩
    cases q2 : f env2 with
    | err => rw [q2] at c2; exact c2
    | exc x fs e1 => rw [q2] at c2; exact c2
    | ok ds e2 =>
      rw [q2] at c2
      intro vs H3 Z3 Fs3 F3 S3 t3 r3 p3 l hl
      exact c2 vs H3 Z3 Fs3 F3 S3 t3 r3 p3 _ (by rw [hl]; rfl)
theorem putK_snoc {kvs : List (Key × V)} {k : Key} {v : V} (h : ∀ p ∈ kvs, p.1 ≠ k) : putK kvs k v = kvs ++ [(k, v)] := by
  refine putK_new v ?_
  unfold valV
  rw [List.find?_eq_none.mpr fun p hp => by simpa using h p hp]
  rfl
theorem mergeK_nodup : ∀ (more acc : List (Key × V)), ((acc ++ more).map (·.1)).Nodup → mergeK acc more = acc ++ more
  | [], acc, _ => by simp [mergeK]
  | p :: r, acc, h => by
    have h' : (((acc ++ [p]) ++ r).map (·.1)).Nodup := by simpa using h
    have e : putK acc p.1 p.2 = acc ++ [p] := putK_snoc fun q hq e => by
      rw [List.map_append, List.nodup_append] at h
      exact h.2.2 _ (List.mem_map_of_mem hq) _ (List.mem_map_of_mem List.mem_cons_self) e
    have := mergeK_nodup r (acc ++ [p]) h'
    unfold mergeK at this ⊢
    rw [List.foldl_cons, e, this]
    simp
theorem keysD_str : ∀ (ks : List Str) (ds : List D), ds.length = ks.length → keysD ((ks.map D.str).zip ds) = some (ks.map Sum.inr)
  | [], [], _ => rfl
  | k :: ks, d :: ds, h => by
    simp only [List.map_cons, List.zip_cons_cons, keysD, keyD, keysD_str ks ds (by simpa using h)]
  | [], _ :: _, h => by simp at h
  | _ :: _, [], h => by simp at h
theorem repk_zip {K : PySem.W.Frag} {mg : Mg} {Z : Addr → Prop} {H : Hp} : ∀ (ks : List D) {ds : List D} {vs : List V} {F : List Addr}, Reps K mg Z H ds vs F → ds.length = ks.length → Repk K mg Z H (ks.zip ds) vs F
  | [], [], vs, F, r, _ => by simpa only [Reps, List.zip_nil_left, Repk] using r
  | k :: ks, d :: ds, vs, F, r, h => by
    simp only [Reps] at r
    obtain ⟨v, us, F1, F2, rfl, r1, r2, rfl⟩ := r
    simp only [List.zip_cons_cons, Repk]
    exact ⟨v, us, F1, F2, rfl, r1, repk_zip ks r2 (by simpa using h), rfl⟩
  | [], _ :: _, _, _, _, h => by simp at h
  | _ :: _, [], _, _, _, h => by simp at h
theorem zip_kv : ∀ (ks : List Str) (vs : List V), (ks.map V.str).zip vs = ((ks.map (Sum.inr : Str → Key)).zip vs).map fun kv => (kV kv.1, kv.2)
  | [], _ => by simp
  | _ :: _, [] => by simp
  | k :: ks, v :: vs => by
    simp only [List.map_cons, List.zip_cons_cons, zip_kv ks vs]
    rfl
theorem ve_disp (h : VDp X pos keys values ks f T) (hks : ks.Nodup) (hall : keys.all (·.isSome) = true) (hl : keys.length = values.length) (h0 : keys ≠ []) (h15 : keys.length ≤ 15) (hk15 : ks.length ≤ 15) : VE X (.Dict keys values pos) (dispM ks f) T none := by
  refine ⟨fun W tk => ?_⟩
  obtain ⟨trs, h1, h2⟩ := h.run W tk
  refine pe_imp (pe_disp h1 hall hl h0 h15) fun σ H Q ⟨Z, env, Fs, S, c⟩ p hp => h2 σ _ _ ?_
  have al : Alloc Z H Z (upd H p (.dK [])) [p] := Alloc.own hp S.zs
  have S0 := S.alloc al
  have t0 : Tr T0 Z H env Fs Z (upd H p (.dK [])) env Fs := Tr.alloc S al
  have pF : ∀ j, p ∉ Fs j := fun j z => by
    obtain ⟨o, e⟩ := S.tr z
    rw [hp] at e; cases e
  refine ⟨Z, env, Fs, S0, ?_⟩
  unfold dispM bnd at c
  cases q : f env with
  | err => rw [q] at c; exact c.elim
  | exc x fs e1 => rw [q] at c; exact fun cls dd H' Z' Fs' S' t r => c cls dd H' Z' Fs' S' (t0.trans t fun i q => ⟨rfl, q⟩) r
  | ok ds e1 =>
    rw [q] at c
    dsimp only at c
    intro vs H2 Z2 Fs2 Fv S2 t2 r2 p2 l el
    split at c
    · rename_i hlen
      have hD : H2 p = some (.dK []) := t2.keep p _ upd_same pF
      have pF2 : ∀ j, p ∉ Fs2 j := fun j z => by
        rcases t2.new j p z with ⟨k, z⟩ | z
        · exact pF k z
        · rw [upd_same] at z; cases z
      have pZ2 : ¬ Z2 p := fun z => by
        rcases t2.zn p z with z | ⟨k, z⟩ | z
        · exact (al.fd p (by simp)).2 z
        · exact pF k z
        · rw [upd_same] at z; cases z
      have pFv : p ∉ Fv := fun z => by
        rcases (p2.2 p z).2.2 with ⟨k, z⟩ | z
        · exact pF k z
        · rw [upd_same] at z; cases z
      have lv := r2.length
      refine ⟨hD, (ks.map Sum.inr).zip vs, ?_, by rw [List.length_zip]; simp; omega, ?_⟩
      · rw [el]
        exact zip_kv ks vs
      · have em : mergeK [] ((ks.map Sum.inr).zip vs) = (ks.map Sum.inr).zip vs := by
          rw [mergeK_nodup _ _ ?_]
          · simp
          · rw [List.nil_append, List.map_fst_zip (by simp; omega)]
            exact List.Pairwise.map _ (fun a b h e => h (by injection e)) hks
        rw [em]
        have t3 : Tr T Z H env Fs Z2 H2 e1 Fs2 := t0.trans t2 fun i q => ⟨rfl, q⟩
        have st : Stay Z2 Z2 H2 (upd H2 p (.dK ((ks.map Sum.inr).zip vs))) := ⟨fun _ h => h, fun a ha => upd_ne (fun e => by subst e; exact pZ2 ha)⟩
        refine c (.ref p) _ Z2 Fs2 (p :: Fv) (S2.fore pF2 pZ2) (Tr.fore t3 hp pF) ?_ ⟨List.nodup_cons.mpr ⟨pFv, p2.1⟩, fun a ha => ?_⟩
        · simp only [Rep]
          refine ⟨p, ks.map Sum.inr, vs, Fv, rfl, upd_same, ⟨keysD_str ks ds hlen, List.Pairwise.map _ (fun a b h e => h (by injection e)) hks⟩, ?_, rfl⟩
          exact Repk.stay st (repk_zip (ks.map D.str) r2 (by simpa using hlen)) fun a ha => upd_ne fun e => by subst e; exact pFv ha
        · rcases List.mem_cons.mp ha with rfl | ha
          · exact ⟨pF2, pZ2, .inr hp⟩
          · refine ⟨(p2.2 a ha).1, (p2.2 a ha).2.1, ?_⟩
            rcases (p2.2 a ha).2.2 with z | z
            · exact .inl z
            · refine .inr ?_
              by_cases e : a = p
              · rw [e]; exact hp
              · rw [upd_ne e] at z; exact z
    · exact c.elim
end
end VI
/-! V18: calls of what is built in; places; slices; join; isinstance -/
namespace VI
open PySem PySem.Spec L2

theorem Call1D.or {X : Cx} {f : Value} {g g1 g2 : D → Option D} (h1 : Call1D X f g1) (h2 : Call1D X f g2) (h : ∀ a d, g a = some d → g1 a = some d ∨ g2 a = some d) : Call1D X f g := by
  obtain ⟨r1, o1, q1⟩ := h1
  obtain ⟨r2, o2, q2⟩ := h2
  refine ⟨_, CallR.or o1 o2, fun {Z H d1 d v1 F1 Q} zs ra e res => ?_⟩
  rcases h _ _ e with e | e
  · exact .inl (q1 zs ra e res)
  · exact .inr (q2 zs ra e res)
def lenA : D → Option D
  | .lst _ xs => some (.int xs.length)
  | .tup xs => some (.int xs.length)
  | .str z => if z.length ≤ 16777216 then some (.int z.length) else none
  | _ => none
def lenB : D → Option D
  | .dct _ kvs => some (.int kvs.length)
  | _ => none
def lenD : D → Option D
  | .lst _ xs => some (.int xs.length)
  | .tup xs => some (.int xs.length)
  | .str z => if z.length ≤ 16777216 then some (.int z.length) else none
  | .dct _ kvs => some (.int kvs.length)
  | _ => none
def listD : D → Option D
  | .lst _ xs => if D.owns xs then none else some (.lst true xs)
  | .tup xs => if D.owns xs then none else some (.lst true xs)
  | _ => none
def tupleD : D → Option D
  | .lst _ xs => if D.owns xs then none else some (.tup xs)
  | .tup xs => if D.owns xs then none else some (.tup xs)
  | _ => none
def blsD : List D → Option (List Bool)
  | [] => some []
  | .bl b :: xs => (blsD xs).map (b :: ·)
  | _ => none
def intsD : List D → Option (List Int)
  | [] => some []
  | .int b :: xs => (intsD xs).map (b :: ·)
  | _ => none
def strsD : List D → Option (List Str)
  | [] => some []
  | .str b :: xs => (strsD xs).map (b :: ·)
  | _ => none
def allD : D → Option D
  | .lst _ xs => (blsD xs).map fun bs => .bl (bs.all id)
  | _ => none
def anyD : D → Option D
  | .lst _ xs => (blsD xs).map fun bs => .bl (bs.any id)
  | _ => none
def sumD : D → Option D
  | .lst _ xs => (intsD xs).map fun ns => .int ns.sum
  | _ => none
def reprI : D → Option D
  | .int i => if i.natAbs.log2 < 1920 then some (.str (toString i)) else none
  | _ => none
def joinD (a : Str) : D → Option D
  | .lst _ xs => (strsD xs).bind fun ys => if (ys.map (·.length)).sum + ys.length * a.length ≤ 16777216 then some (.str (Txt.join a ys)) else none
  | .tup xs => (strsD xs).bind fun ys => if (ys.map (·.length)).sum + ys.length * a.length ≤ 16777216 then some (.str (Txt.join a ys)) else none
  | _ => none
def ixD : D → D → Option D
  | .lst _ xs, .int i => (atI xs i).bind fun d => if d.own then none else some d
  | .tup xs, .int i => (atI xs i).bind fun d => if d.own then none else some d
  | .str z, .int i => if z.length ≤ 16777216 then (atI z.cps.toList i).map fun c => .str ⟨#[c]⟩ else none
  | _, _ => none
section
variable {K : PySem.W.Frag} {mg : Mg} {Z : Addr → Prop} {H : Hp}
theorem bls_rep : ∀ {xs : List D} {bs : List Bool} {vs : List V} {F : List Addr}, Reps K mg Z H xs vs F → blsD xs = some bs → vs = bs.map V.bl
  | [], bs, vs, F, r, h => by
    simp only [blsD, Option.some.injEq, Reps] at h r
    rw [r.1, ← h]; rfl
  | x :: xs, bs, vs, F, r, h => by
    simp only [Reps] at r
    obtain ⟨v, us, F1, F2, rfl, r1, r2, rfl⟩ := r
    cases x <;> simp only [blsD] at h <;> first | cases h | skip
    rename_i b
    cases e : blsD xs with
    | none => rw [e] at h; cases h
    | some cs =>
      rw [e] at h
      cases h
      simp only [Rep] at r1
      rw [r1.1, bls_rep r2 e]; rfl
theorem ints_rep : ∀ {xs : List D} {bs : List Int} {vs : List V} {F : List Addr}, Reps K mg Z H xs vs F → intsD xs = some bs → vs = bs.map V.int
  | [], bs, vs, F, r, h => by
    simp only [intsD, Option.some.injEq, Reps] at h r
    rw [r.1, ← h]; rfl
  | x :: xs, bs, vs, F, r, h => by
    simp only [Reps] at r
    obtain ⟨v, us, F1, F2, rfl, r1, r2, rfl⟩ := r
    cases x <;> simp only [intsD] at h <;> first | cases h | skip
    rename_i b
    cases e : intsD xs with
    | none => rw [e] at h; cases h
    | some cs =>
      rw [e] at h
      cases h
      simp only [Rep] at r1
      rw [r1.1, ints_rep r2 e]; rfl
theorem strs_rep : ∀ {xs : List D} {bs : List Str} {vs : List V} {F : List Addr}, Reps K mg Z H xs vs F → strsD xs = some bs → vs = bs.map V.str
  | [], bs, vs, F, r, h => by
    simp only [strsD, Option.some.injEq, Reps] at h r
    rw [r.1, ← h]; rfl
  | x :: xs, bs, vs, F, r, h => by
    simp only [Reps] at r
    obtain ⟨v, us, F1, F2, rfl, r1, r2, rfl⟩ := r
    cases x <;> simp only [strsD] at h <;> first | cases h | skip
    rename_i b
    cases e : strsD xs with
    | none => rw [e] at h; cases h
    | some cs =>
      rw [e] at h
      cases h
      simp only [Rep] at r1
      rw [r1.1, strs_rep r2 e]; rfl
theorem atI_rep {xs : List D} {vs : List V} {F : List Addr} {i : Int} {d : D} (r : Reps K mg Z H xs vs F) (h : atI xs i = some d) (ho : d.own = false) : ∃ v, atI vs i = some v ∧ Rep K mg Z H d v [] := by
  unfold atI at h ⊢
  rw [r.length]
  cases e : ixN xs.length i with
  | none => rw [e] at h; cases h
  | some j =>
    rw [e] at h
    obtain ⟨v, G, h1, h2, _⟩ := r.get (show xs[j]? = some d from h)
    have := h2.unown ho
    subst this
    exact ⟨v, h1, h2⟩
end
section
variable {X : Cx}
theorem c1_lenA : Call1D X (.builtin "len") lenA := by
  refine ⟨_, call_len, fun {Z H d1 d v1 F1 Q} zs ra e res => ?_⟩
  unfold lenA at e
  split at e
  · cases e
    obtain ⟨a, vs, G, rfl, s, r⟩ := lst_sq ra
    refine ⟨_, _, rfl, .inl ⟨vs, s, rfl⟩, ?_⟩
    rw [r.length]
    exact res_flat zs res (by simp [Rep])
  · cases e
    obtain ⟨a, vs, rfl, s, r⟩ := tup_read ra
    refine ⟨_, _, rfl, .inr ⟨vs, s, rfl⟩, ?_⟩
    rw [r.length]
    exact res_flat zs res (by simp [Rep])
  · split at e
    · rename_i hl
      cases e
      simp only [Rep] at ra
      rw [ra.1]
      exact ⟨_, _, rfl, ⟨by rw [sizeLine_eq]; exact hl, rfl⟩, res_flat zs res (by simp [Rep])⟩
    · cases e
  · cases e
theorem c1_lenB : Call1D X (.builtin "len") lenB := by
  refine ⟨_, call_lenD, fun {Z H d1 d v1 F1 Q} zs ra e res => ?_⟩
  unfold lenB at e
  split at e
  · rename_i o kvs
    cases e
    cases o with
    | true =>
      simp only [Rep] at ra
      obtain ⟨a, ks, vs, G, rfl, t, hk, rs, _⟩ := ra
      obtain ⟨l1, l2⟩ := Repk.length rs hk.1
      refine ⟨a, _, rfl, t, ?_⟩
      rw [List.length_zip, l1, l2, Nat.min_self]
      exact res_flat zs res (by simp [Rep])
    | false =>
      simp only [Rep] at ra
      obtain ⟨a, ks, vs, rfl, t, _, hk, rs, _⟩ := ra
      obtain ⟨l1, l2⟩ := Repk.length rs hk.1
      refine ⟨a, _, rfl, t, ?_⟩
      rw [List.length_zip, l1, l2, Nat.min_self]
      exact res_flat zs res (by simp [Rep])
  · cases e
theorem c1_len : Call1D X (.builtin "len") lenD := Call1D.or c1_lenA c1_lenB fun a d e => by
  unfold lenD at e
  split at e
  · exact .inl e
  · exact .inl e
  · exact .inl e
  · exact .inr e
  · cases e
theorem c1_list : Call1D X (.type "list") listD := by
  refine ⟨_, call_list_of, fun {Z H d1 d v1 F1 Q} zs ra e res => ?_⟩
  have fin : ∀ {xs : List D} {vs : List V} {G : List Addr}, Reps X.K X.mg Z H xs vs G → D.owns xs = false → (D.lst true xs = d) → ∀ l, H l = none → Q (.ref l) (upd H l (.lst vs)) := fun {xs vs G} r ho ed l hl => by
    have e1 := r.unown ho
    subst e1 ed
    have al : Alloc Z H Z (upd H l (.lst vs)) [l] := Alloc.own hl zs
    refine res _ _ Z [l] al ?_
    simp only [Rep]
    exact ⟨l, _, [], rfl, upd_same, Reps.stay (al.stay zs) r (fun _ h => by simp at h), rfl⟩
  unfold listD at e
  split at e
  · split at e
    · cases e
    · rename_i ho
      cases e
      obtain ⟨a, vs, G, rfl, s, r⟩ := lst_sq ra
      exact ⟨a, vs, rfl, .inl s, fin r (by simpa using ho) rfl⟩
  · split at e
    · cases e
    · rename_i ho
      cases e
      obtain ⟨a, vs, rfl, s, r⟩ := tup_read ra
      exact ⟨a, vs, rfl, .inr s, fin r (by simpa using ho) rfl⟩
  · cases e
theorem c1_tuple : Call1D X (.type "tuple") tupleD := by
  refine ⟨_, call_tuple_of, fun {Z H d1 d v1 F1 Q} zs ra e res => ?_⟩
  unfold tupleD at e
  split at e
  · split at e
    · cases e
    · rename_i ho
      cases e
      obtain ⟨a, vs, G, rfl, s, r⟩ := lst_sq ra
      have e1 := r.unown (by simpa using ho)
      subst e1
      refine ⟨a, vs, rfl, .inl ⟨s, fun l hl => ?_⟩⟩
      have al : Alloc Z H (fun a => Z a ∨ a = l) (upd H l (.tup vs)) [] := Alloc.tup hl
      refine res _ _ _ [] al ?_
      simp only [Rep]
      exact ⟨l, _, rfl, .inl ⟨.inr rfl, .inl upd_same⟩, Reps.stay (al.stay zs) r (fun _ h => by simp at h)⟩
  · split at e
    · cases e
    · rename_i ho
      cases e
      have ra' := ra
      obtain ⟨a, vs, rfl, s, r⟩ := tup_read ra
      have e1 := r.unown (by simpa using ho)
      subst e1
      exact ⟨a, vs, rfl, .inr ⟨s, res_flat zs res ra'⟩⟩
  · cases e
theorem c1_all (hc : X.calm = true) : Call1D X (.builtin "all") allD := by
  refine ⟨_, cr_all hc, fun {Z H d1 d v1 F1 Q} zs ra e res => ?_⟩
  unfold allD at e
  split at e
  · rename_i o xs
    cases eb : blsD xs with
    | none => rw [eb] at e; cases e
    | some bs =>
      rw [eb] at e
      cases e
      obtain ⟨a, vs, G, rfl, s, r⟩ := lst_sq ra
      rw [bls_rep r eb] at s
      exact ⟨a, bs, rfl, s, res_flat zs res (by simp [Rep])⟩
  · cases e
theorem c1_any (hc : X.calm = true) : Call1D X (.builtin "any") anyD := by
  refine ⟨_, cr_any hc, fun {Z H d1 d v1 F1 Q} zs ra e res => ?_⟩
  unfold anyD at e
  split at e
  · rename_i o xs
    cases eb : blsD xs with
    | none => rw [eb] at e; cases e
    | some bs =>
      rw [eb] at e
      cases e
      obtain ⟨a, vs, G, rfl, s, r⟩ := lst_sq ra
      rw [bls_rep r eb] at s
      exact ⟨a, bs, rfl, s, res_flat zs res (by simp [Rep])⟩
  · cases e
theorem c1_sum (hc : X.calm = true) : Call1D X (.builtin "sum") sumD := by
  refine ⟨_, cr_sum hc, fun {Z H d1 d v1 F1 Q} zs ra e res => ?_⟩
  unfold sumD at e
  split at e
  · rename_i o xs
    cases eb : intsD xs with
    | none => rw [eb] at e; cases e
    | some bs =>
      rw [eb] at e
      cases e
      obtain ⟨a, vs, G, rfl, s, r⟩ := lst_sq ra
      rw [ints_rep r eb] at s
      exact ⟨a, bs, rfl, s, res_flat zs res (by simp [Rep])⟩
  · cases e
theorem c1_reprI : Call1D X (.builtin "repr") reprI := by
  refine ⟨_, SkE.call_repr_int, fun {Z H d1 d v1 F1 Q} zs ra e res => ?_⟩
  unfold reprI at e
  split at e
  · split at e
    · rename_i hl
      cases e
      simp only [Rep] at ra
      rw [ra.1]
      exact ⟨_, rfl, hl, res_flat zs res (by simp [Rep])⟩
    · cases e
  · cases e
theorem xd_seq : IxD X ixD := by
  refine ⟨_, ix_seq, fun {Z H d1 d2 d v1 v2 F1 F2 Q} zs ra rb e res => ?_⟩
  unfold ixD at e
  split at e
  · rename_i o xs i
    cases ea : atI xs i with
    | none => rw [ea] at e; cases e
    | some x =>
      rw [ea] at e
      simp only [Option.bind_some] at e
      split at e
      · cases e
      · rename_i ho
        cases e
        obtain ⟨a, vs, G, rfl, s, r⟩ := lst_sq ra
        simp only [Rep] at rb
        obtain ⟨v, h1, h2⟩ := atI_rep r ea (by simpa using ho)
        exact .inl ⟨a, vs, i, v, rfl, rb.1, s, h1, res_flat zs res h2⟩
  · rename_i xs i
    cases ea : atI xs i with
    | none => rw [ea] at e; cases e
    | some x =>
      rw [ea] at e
      simp only [Option.bind_some] at e
      split at e
      · cases e
      · rename_i ho
        cases e
        obtain ⟨a, vs, rfl, s, r⟩ := tup_read ra
        simp only [Rep] at rb
        obtain ⟨v, h1, h2⟩ := atI_rep r ea (by simpa using ho)
        exact .inr (.inl ⟨a, vs, i, v, rfl, rb.1, s, h1, res_flat zs res h2⟩)
  · rename_i z i
    split at e
    · rename_i hl
      cases ea : atI z.cps.toList i with
      | none => rw [ea] at e; cases e
      | some c =>
        rw [ea] at e
        cases e
        simp only [Rep] at ra rb
        exact .inr (.inr ⟨z, i, c, ra.1, rb.1, by rw [sizeLine_eq]; exact hl, ea, res_flat zs res (by simp [Rep])⟩)
    · cases e
  · cases e
end

/-! ### join -/
def joinM (fo fe : M D) : M D := bnd fo fun d => match d with
  | .str a => bnd fe fun d2 => ofO (joinD a d2)
  | _ => bad
section
variable {X : Cx} {o e : Expr} {pos apos : Pos} {fo fe : M D} {To Te : Nat → Bool} {so se : Option Nat}
theorem joinD_ok {K : PySem.W.Frag} {mg : Mg} {Z : Addr → Prop} {H : Hp} {a : Str} {d2 d : D} {v2 : V} {F2 : List Addr} (r : Rep K mg Z H d2 v2 F2) (h : joinD a d2 = some d) :
    ∃ p, ∃ ys : List Str, v2 = .ref p ∧ (SqL K H p (ys.map V.str) ∨ SqT K H p (ys.map V.str)) ∧ (ys.map (·.length)).sum + ys.length * a.length ≤ 16777216 ∧ d = .str (Txt.join a ys) := by
  unfold joinD at h
  split at h
  · rename_i o xs
    cases es : strsD xs with
    | none => rw [es] at h; cases h
    | some ys =>
      rw [es] at h
      simp only [Option.bind_some] at h
      split at h
      · rename_i hl
        cases h
        obtain ⟨p, vs, G, rfl, s, r⟩ := lst_sq r
        rw [strs_rep r es] at s
        exact ⟨p, ys, rfl, .inl s, hl, rfl⟩
      · cases h
  · rename_i xs
    cases es : strsD xs with
    | none => rw [es] at h; cases h
    | some ys =>
      rw [es] at h
      simp only [Option.bind_some] at h
      split at h
      · rename_i hl
        cases h
        obtain ⟨p, vs, rfl, s, r⟩ := tup_read r
        rw [strs_rep r es] at s
        exact ⟨p, ys, rfl, .inr s, hl, rfl⟩
      · cases h
  · cases h
theorem ve_join (ho : VE X o fo To so) (he : VE X e fe Te se) (hs : starEach [e] X.env = [(false, eval e X.env)] := by rfl) (hbase : attributeBase o "join" X.env (eval o X.env) = eval o X.env := by rfl) (hline : (apos.endLine == pos.line) = true := by rfl) :
    VE X (.Call (.Attribute o "join" apos) [e] [] pos) (joinM fo fe) (tor To Te) none := by
  refine ⟨fun W tk => pe_imp (pe_join (ho.run W tk) (he.run W tk) hs hbase hline) fun σ H Q ⟨Z, env, Fs, S, c⟩ => ⟨Z, env, Fs, S, ?_⟩⟩
  unfold joinM bnd at c
  cases q : fo env with
  | err => rw [q] at c; exact c.elim
  | exc x fs e1 => rw [q] at c; exact fun cls dd H' Z' Fs' S' t r => c cls dd H' Z' Fs' S' (t.mono fun i q => (tor_sub i q).1) r
  | ok d e1 =>
    rw [q] at c
    intro v H1 Z1 Fs1 F1 S1 t1 r1 p1
    cases d <;> first | exact c.elim | skip
    rename_i a
    simp only [Rep] at r1
    refine ⟨⟨a, r1.1⟩, Z1, e1, Fs1, S1, ?_⟩
    dsimp only at c
    cases q2 : fe e1 with
    | err => rw [q2] at c; exact c.elim
    | exc x fs e2 => rw [q2] at c; exact fun cls dd H' Z' Fs' S' t r => c cls dd H' Z' Fs' S' (t1.trans t tor_sub) r
    | ok d2 e2 =>
      rw [q2] at c
      dsimp only at c
      intro v2 H2 Z2 Fs2 F2 S2 t2 r2 p2
      cases qj : joinD a d2 with
      | none => rw [qj] at c; exact c.elim
      | some d =>
        rw [qj] at c
        obtain ⟨p, ys, rfl, s, hl, rfl⟩ := joinD_ok r2 qj
        refine ⟨a, p, ys, r1.1, rfl, s, hl, ?_⟩
        exact c _ H2 Z2 Fs2 [] S2 (t1.trans t2 tor_sub) (by simp [Rep]) VP.nil
end

/-! ### slices -/
def cutD (xs : List D) (lo hi : Option Int) : List D := (xs.drop (HT.sIx xs.length 0 lo)).take (HT.sIx xs.length xs.length hi - HT.sIx xs.length 0 lo)
def sliceD : D → Option Int → Option Int → Option D
  | .lst _ xs, lo, hi => if D.owns xs then none else some (.lst true (cutD xs lo hi))
  | .tup xs, lo, hi => if D.owns xs then none else some (.tup (cutD xs lo hi))
  | .str z, lo, hi => if z.length ≤ 16777216 then some (.str (cutS z lo hi)) else none
  | _, _, _ => none
def ContO (K : PySem.W.Frag) (mg : Mg) (T : Nat → Bool) (W : WX) (Q : Option Int → Hp → Prop) (σ : L2.St) (Z : Addr → Prop) (H : Hp) (env : Env) (Fs : Nat → List Addr) : Out (Option Int) → Prop
  | .ok o env' => ∀ H' Z' Fs', SR K mg Z' H' σ env' Fs' → Tr T Z H env Fs Z' H' env' Fs' → Q o H'
  | .exc c fs env' => ∀ cls dd H' Z' Fs', SR K mg Z' H' σ env' Fs' → Tr T Z H env Fs Z' H' env' Fs' → XAt K mg Z' H' c fs cls dd → W cls dd σ H'
  | .err => False
structure VO (X : Cx) (e : Option Expr) (f : M (Option Int)) (T : Nat → Bool) : Prop where
  run : ∀ W, Takes X W → PO X e (fun σ H Q => ∃ Z env Fs, SR X.K X.mg Z H σ env Fs ∧ ContO X.K X.mg T W Q σ Z H env Fs (f env))
def partM (f : M D) : M (Option Int) := bnd f fun d => match d with
  | .int i => pur (some i)
  | _ => bad
def sliceM (k : Bool) (fe : M D) (fl fh : M (Option Int)) : M D := bnd fe fun d => if k || !d.own then bnd fl fun lo => bnd fh fun hi => ofO (sliceD d lo hi) else bad
theorem po_imp {X : Cx} {e : Option Expr} {t t' : TO} (h : PO X e t) (q : ∀ σ H Q, t' σ H Q → t σ H Q) : PO X e t' := ⟨fun pins s σ H Q I w => h.run pins s σ H Q I (q σ H Q w)⟩
section
variable {X : Cx} {e : Expr} {lo hi : Option Expr} {pos p2 : Pos} {fe f : M D} {fl fh : M (Option Int)} {T Te Tl Th : Nat → Bool} {s se : Option Nat}
theorem vo_none : VO X none (pur none) T0 := ⟨fun W tk => po_imp po_none fun σ H Q ⟨Z, env, Fs, S, c⟩ => c H Z Fs S Tr.refl⟩
theorem vo_some (h : VE X e f T s) : VO X (some e) (partM f) T := by
  refine ⟨fun W tk => po_imp (po_some (h.run W tk)) fun σ H Q ⟨Z, env, Fs, S, c⟩ => ⟨Z, env, Fs, S, ?_⟩⟩
  unfold partM bnd at c
  cases q : f env with
  | err => rw [q] at c; exact c.elim
  | exc x fs e1 => rw [q] at c; exact c
  | ok d e1 =>
    rw [q] at c
    intro v H1 Z1 Fs1 F1 S1 t1 r1 p1
    cases d <;> first | exact c.elim | skip
    rename_i i
    simp only [Rep] at r1
    exact ⟨i, r1.1, c H1 Z1 Fs1 S1 t1⟩
theorem Reps.drop {K : PySem.W.Frag} {mg : Mg} {Z : Addr → Prop} {H : Hp} : ∀ (n : Nat) {xs : List D} {vs : List V}, Reps K mg Z H xs vs [] → Reps K mg Z H (xs.drop n) (vs.drop n) []
  | 0, xs, vs, r => r
  | n + 1, [], vs, r => by
    simp only [Reps] at r
    rw [r.1]
    simp [Reps]
  | n + 1, x :: xs, vs, r => by
    simp only [Reps] at r
    obtain ⟨v, us, F1, F2, rfl, r1, r2, f⟩ := r
    obtain ⟨rfl, rfl⟩ := rep_nil2 f
    exact Reps.drop n r2
theorem Reps.take {K : PySem.W.Frag} {mg : Mg} {Z : Addr → Prop} {H : Hp} : ∀ (n : Nat) {xs : List D} {vs : List V}, Reps K mg Z H xs vs [] → Reps K mg Z H (xs.take n) (vs.take n) []
  | 0, xs, vs, r => by simp [Reps]
  | n + 1, [], vs, r => by
    simp only [Reps] at r
    rw [r.1]
    simp [Reps]
  | n + 1, x :: xs, vs, r => by
    simp only [Reps] at r
    obtain ⟨v, us, F1, F2, rfl, r1, r2, f⟩ := r
    obtain ⟨rfl, rfl⟩ := rep_nil2 f
    exact Reps.cons (F := []) r1 (Reps.take n r2)
theorem cut_rep {K : PySem.W.Frag} {mg : Mg} {Z : Addr → Prop} {H : Hp} {xs : List D} {vs : List V} (lo hi : Option Int) (r : Reps K mg Z H xs vs []) : Reps K mg Z H (cutD xs lo hi) (cutV vs lo hi) [] := by
  unfold cutD cutV
  rw [r.length]
  exact Reps.take _ (Reps.drop _ r)
theorem sliceD_ok {Z : Addr → Prop} {H : Hp} {d dr : D} {v : V} {F : List Addr} {lo hi : Option Int} {Q : VK} (zs : ∀ a, Z a → ∃ o, H a = some o) (r : Rep X.K X.mg Z H d v F) (h : sliceD d lo hi = some dr) (res : Res X.K X.mg Z H dr Q) :
    rSlL X.K v lo hi H Q ∨ rSlA X.K v lo hi H Q ∨ rSlS v lo hi H Q := by
  unfold sliceD at h
  split at h
  · split at h
    · cases h
    · rename_i ho
      cases h
      obtain ⟨a, vs, G, rfl, s, r⟩ := lst_sq r
      have e1 := r.unown (by simpa using ho)
      subst e1
      refine .inl ⟨a, vs, rfl, s, fun p hp => ?_⟩
      have al : Alloc Z H Z (upd H p (.lst (cutV vs lo hi))) [p] := Alloc.own hp zs
      refine res _ _ Z [p] al ?_
      simp only [Rep]
      exact ⟨p, _, [], rfl, upd_same, Reps.stay (al.stay zs) (cut_rep lo hi r) (fun _ h => by simp at h), rfl⟩
  · rename_i xs
    split at h
    · cases h
    · rename_i ho
      cases h
      have r0 := r
      obtain ⟨a, vs, rfl, s, r⟩ := tup_read r
      have e1 := r.unown (by simpa using ho)
      subst e1
      refine .inr (.inl ⟨a, vs, rfl, s, fun hw => ?_, fun hw p hp => ?_⟩)
      · have ec : cutD xs lo hi = xs := by
          unfold cutD
          rw [← r.length, hw.1, hw.2, r.length]
          simp
        rw [ec] at res
        exact res_flat zs res r0
      · have al : Alloc Z H (fun a => Z a ∨ a = p) (upd H p (.tup (cutV vs lo hi))) [] := Alloc.tup hp
        refine res _ _ _ [] al ?_
        simp only [Rep]
        exact ⟨p, _, rfl, .inl ⟨.inr rfl, .inl upd_same⟩, Reps.stay (al.stay zs) (cut_rep lo hi r) (fun _ h => by simp at h)⟩
  · split at h
    · rename_i hl
      cases h
      simp only [Rep] at r
      exact .inr (.inr ⟨_, r.1, by rw [sizeLine_eq]; exact hl, res_flat zs res (by simp [Rep])⟩)
    · cases h
  · cases h
theorem ve_slice (k : Bool) (he : VE X e fe Te se) (hl : VO X lo fl Tl) (hh : VO X hi fh Th) (hk : k = true → ∀ i, se = some i → tor Tl Th i = false) : VE X (.Subscript e (.Slice lo hi none p2) pos) (sliceM k fe fl fh) (tor Te (tor Tl Th)) none := by
  refine ⟨fun W tk => pe_imp (pe_slice (SlR.or sl_list (SlR.or sl_tupA sl_str)) (he.run W tk) (hl.run W tk) (hh.run W tk)) fun σ H Q ⟨Z, env, Fs, S, c⟩ => ⟨Z, env, Fs, S, ?_⟩⟩
  unfold sliceM bnd at c
  cases q : fe env with
  | err => rw [q] at c; exact c.elim
  | exc x fs e1 => rw [q] at c; exact fun cls dd H' Z' Fs' S' t r => c cls dd H' Z' Fs' S' (t.mono fun i q => (tor_sub i q).1) r
  | ok d e1 =>
    rw [q] at c
    dsimp only at c
    intro v H1 Z1 Fs1 F1 S1 t1 r1 p1
    split at c
    · rename_i hd
      refine ⟨Z1, e1, Fs1, S1, ?_⟩
      dsimp only at c
      cases q2 : fl e1 with
      | err => rw [q2] at c; exact c.elim
      | exc x fs e2 => rw [q2] at c; exact fun cls dd H' Z' Fs' S' t r => c cls dd H' Z' Fs' S' (t1.trans t fun i q => ⟨(tor_sub i q).1, (tor_sub i (tor_sub i q).2).1⟩) r
      | ok l e2 =>
        rw [q2] at c
        dsimp only at c
        intro H2 Z2 Fs2 S2 t2
        refine ⟨Z2, e2, Fs2, S2, ?_⟩
        cases q3 : fh e2 with
        | err => rw [q3] at c; exact c.elim
        | exc x fs e3 =>
          rw [q3] at c
          exact fun cls dd H' Z' Fs' S' t r => c cls dd H' Z' Fs' S' (t1.trans (t2.trans t (T := tor Tl Th) tor_sub) tor_sub) r
        | ok h e3 =>
          rw [q3] at c
          dsimp only at c
          intro H3 Z3 Fs3 S3 t3
          have t23 : Tr (tor Tl Th) Z1 H1 e1 Fs1 Z3 H3 e3 Fs3 := t2.trans t3 tor_sub
          have r3 := Rep.over S1 p1 r1 t23 (by
            rcases Bool.or_eq_true_iff.mp hd with q | q
            · exact .inr (hk q)
            · exact .inl (by simpa using q))
          cases qs : sliceD d l h with
          | none => rw [qs] at c; exact c.elim
          | some dr =>
            rw [qs] at c
            have c := Cont.step (T2 := T0) c (t1.trans t23 (T := tor Te (tor Tl Th)) tor_sub) fun i q => ⟨q, rfl⟩
            exact sliceD_ok S3.zs r3 qs fun v H' Z' Fd a r => Cont.ret S3 c a r
    · exact c.elim
end
end VI
/-! V19: isinstance; exceptions as values -/
namespace VI
open PySem PySem.Spec L2

/-- what isinstance asks of a value of type t -/
def KitV (K : PySem.W.Frag) (H : Hp) (x : V) (t : Value) : Prop := TyX K H x t ∨
  ∃ a C dd, x = .ref a ∧ t = .ref C ∧ H a = some (ExO (.ref C) dd a) ∧ (dd = none ∨ ∃ d fs, dd = some d ∧ H d = some (.xd fs)) ∧ ExcC K C
theorem KitV.upd {K : PySem.W.Frag} {H : Hp} {x : V} {t : Value} {p : Addr} {o : HO} (h : KitV K H x t) (hp : H p = none) : KitV K (upd H p o) x t := by
  have k : ∀ {a : Addr} {u : HO}, H a = some u → (L2.upd H p o) a = some u := fun {a u} e => by rw [upd_ne (ne_of_none e hp)]; exact e
  rcases h with h | ⟨a, C, dd, h1, h2, h3, h4, h5⟩
  · refine .inl ?_
    cases h with
    | base b =>
      refine .base ?_
      cases b with
      | non => exact .non
      | bl y => exact .bl y
      | int y => exact .int y
      | str y => exact .str y
      | flt y => exact .flt y
      | lst e => exact .lst (k e)
      | frz e => exact .frz (k e)
      | tup e => exact .tup (k e)
      | dK e => exact .dK (k e)
      | dT e => exact .dT (k e)
      | ins e cl ha hn htk hm => exact .ins (k e) cl ha hn htk hm
    | byt b => exact .byt b
    | set e => exact .set (k e)
    | kList e c => exact .kList e c
    | kTuple e c => exact .kTuple e c
    | kDict e c => exact .kDict e c
    | fTuple e => exact .fTuple (k e)
    | fDict e => exact .fDict (k e)
  · exact .inr ⟨a, C, dd, h1, h2, k h3, h4.imp_right fun ⟨d, fs, e1, e2⟩ => ⟨d, fs, e1, k e2⟩, h5⟩
section
variable {X : Cx} {pins : List (Addr × Obj)} {σ : L2.St} {H : Hp} {s : Shared}
theorem kitV_of {x : V} {u t : Value} (I : L2.Inv X pins σ H s) (rx : RelV x u) (ty : KitV X.K H x t) : ∃ P : Heap → Prop, PySem.W.KitX X.K u t P ∧ P s.heap ∧ u ≠ .builtin "__main__.__loader__#opaque" := by
  rcases ty with ty | ⟨a, C, dd, rfl, rfl, hH, hd, ex⟩
  · exact kit_of I rx ty
  · cases rx
    obtain ⟨⟨oe, vs, ho, hz, hdat⟩, _⟩ := I.hok a _ hH
    obtain ⟨cd, hc, _⟩ := PySem.W.any_some ex.hd
    have hcl : (PySem.W.clsIn X.K C).isSome = true := by rw [hc]; rfl
    have hno : PySem.W.notCls oe = true := by
      unfold PySem.W.notCls
      rw [hdat] <;> rfl
    rcases hd with rfl | ⟨d, fs, rfl, hD⟩
    · exact ⟨_, PySem.W.kitx_exc (x := a) (ox := oe) (od := none) hcl ex.hg ex.hk ex.hs ex.ha ex.hn ex.ht ex.hm, ⟨ho, hz.1, hno, by rw [hz.2]; trivial⟩, fun z => nomatch z⟩
    · obtain ⟨mA, ⟨od, es, ep, e1, _⟩, _⟩ := (show ∃ mA, s.heap.Ns1 d mA ∧ ∀ f, RelO (fs.lookup f) (mA f) from I.hok d _ hD)
      exact ⟨_, PySem.W.kitx_exc (x := a) (ox := oe) (od := some od) hcl ex.hg ex.hk ex.hs ex.ha ex.hn ex.ht ex.hm, ⟨ho, hz.1, hno, by rw [hz.2]; exact e1⟩, fun z => nomatch z⟩
end
section
variable {X : Cx}
def rIsZ (K : PySem.W.Frag) : List V → Hp → VK → Prop := fun xs H Q => ∃ (x c : V) (t u : Value) (b : Bool), xs = [x, c] ∧ ClsV c u ∧ KitV K H x t ∧ PySem.W.kitOne K t u = some b ∧ Q (.bl b) H
theorem call_isZ : CallR X (.builtin "isinstance") (rIsZ X.K) := by
  intro pins s σ H xs us Q I r h
  obtain ⟨x, c, t, u, b, rfl, k, ty, e, q⟩ := h
  obtain ⟨u1, u2, rfl, r1, r2⟩ := vals2 r
  have e2 := k.eq r2
  subst e2
  obtain ⟨P, Z, p, hx⟩ := kitV_of I r1 ty
  exact PySem.W.kia_one Z I.kIn p e hx fun tk => ⟨.bl b, H, I.tok tk, rfl, q⟩
def rIsZT (K : PySem.W.Frag) : List V → Hp → VK → Prop := fun xs H Q => ∃ (x : V) (tp : Addr) (cs : List V) (t : Value) (us : List Value) (b : Bool), xs = [x, .ref tp] ∧ H tp = some (.tup cs) ∧ Paired ClsV cs us ∧ KitV K H x t ∧ PySem.W.kitAny K t us = some b ∧ Q (.bl b) H
theorem call_isZT : CallR X (.builtin "isinstance") (rIsZT X.K) := by
  intro pins s σ H xs us Q I r h
  obtain ⟨x, tp, cs, t, ws, b, rfl, hT, k, ty, e, q⟩ := h
  obtain ⟨u1, u2, rfl, r1, r2⟩ := vals2 r
  cases (show u2 = Value.ref tp from r2)
  obtain ⟨P, Z, p, hx⟩ := kitV_of I r1 ty
  obtain ⟨_, its, rv, o, h1, h2, n, h3⟩ := (show ObjOk X.prog X.w H s.heap tp (.tup cs) from I.hok tp _ hT)
  have e3 := ClsV.all k rv
  subst e3
  obtain ⟨oc, od, dt, sl⟩ := o
  simp only at h2 h3
  subst h2 h3
  exact PySem.W.kia_tup Z I.kIn p h1 e hx fun tk => ⟨.bl b, H, I.tok tk, rfl, q⟩
end
/-- a value's type, by name -/
def D.tyn : D → String
  | .non => "NoneType"
  | .bl _ => "bool"
  | .int _ => "int"
  | .str _ => "str"
  | .tup _ => "tuple"
  | .lst _ _ => "list"
  | .dct _ _ => "dict"
  | .ins _ _ _ => ""
  | .exc _ _ => ""
def isiD (tb : List (String × Bool)) (te : List (Str × Bool)) : D → Option D
  | .exc c _ => (te.lookup c).map .bl
  | .ins _ _ _ => none
  | d => (tb.lookup d.tyn).map .bl
theorem lookup_mem {α β : Type} [BEq α] [LawfulBEq α] : ∀ {l : List (α × β)} {a : α} {b : β}, l.lookup a = some b → (a, b) ∈ l
  | [], _, _, h => by simp at h
  | (x, y) :: l, a, b, h => by
    simp only [List.lookup] at h
    split at h
    · rename_i e
      have := eq_of_beq e
      subst this
      cases h
      exact List.mem_cons_self
    · exact List.mem_cons_of_mem _ (lookup_mem h)
section
variable {K : PySem.W.Frag} {mg : Mg} {Z : Addr → Prop} {H : Hp}
/-- what the class, or the classes, say of a type -/
theorem isiD_ok {tb : List (String × Bool)} {te : List (Str × Bool)} {ans : Value → Option Bool} (htb : ∀ p ∈ tb, ans (.type p.1) = some p.2) (hte : ∀ p ∈ te, ∀ C, mg p.1 = some (.ref C) → ExcC K C ∧ ans (.ref C) = some p.2)
    {d r : D} {v : V} {F : List Addr} (ra : Rep K mg Z H d v F) (h : isiD tb te d = some r) : ∃ b t, r = .bl b ∧ KitV K H v t ∧ ans t = some b := by
  have go : ∀ {t : String}, (tb.lookup t).map D.bl = some r → KitV K H v (.type t) → ∃ b t, r = .bl b ∧ KitV K H v t ∧ ans t = some b := fun {t} e kv => by
    cases el : tb.lookup t with
    | none => rw [el] at e; cases e
    | some b =>
      rw [el] at e
      cases e
      exact ⟨b, _, rfl, kv, htb _ (lookup_mem el)⟩
  cases d with
  | non => simp only [Rep] at ra; obtain ⟨rfl, _⟩ := ra; exact go h (.inl (.base .non))
  | bl y => simp only [Rep] at ra; obtain ⟨rfl, _⟩ := ra; exact go h (.inl (.base (.bl y)))
  | int y => simp only [Rep] at ra; obtain ⟨rfl, _⟩ := ra; exact go h (.inl (.base (.int y)))
  | str y => simp only [Rep] at ra; obtain ⟨rfl, _⟩ := ra; exact go h (.inl (.base (.str y)))
  | tup xs =>
    simp only [Rep] at ra
    obtain ⟨a, vs, rfl, t, _⟩ := ra
    refine go h (.inl ?_)
    rcases t with ⟨_, t | ⟨o, t⟩⟩ | ⟨o, its, n, h1, h2, _⟩
    · exact .base (.tup t)
    · exact .fTuple t
    · exact .kTuple h1 h2
  | lst o xs =>
    refine go h (.inl ?_)
    cases o with
    | true =>
      simp only [Rep] at ra
      obtain ⟨a, vs, G, rfl, t, _⟩ := ra
      exact .base (.lst t)
    | false =>
      simp only [Rep] at ra
      obtain ⟨a, vs, rfl, t, _⟩ := ra
      rcases t with ⟨_, t | ⟨o, t⟩⟩ | ⟨o, its, n, h1, h2, _⟩
      · exact .base (.lst t)
      · exact .base (.frz t)
      · exact .kList h1 h2
  | dct o kvs =>
    refine go h (.inl ?_)
    cases o with
    | true =>
      simp only [Rep] at ra
      obtain ⟨a, ks, vs, G, rfl, t, _⟩ := ra
      exact .base (.dK t)
    | false =>
      simp only [Rep] at ra
      obtain ⟨a, ks, vs, rfl, t, _⟩ := ra
      exact .base (.dK t)
  | ins o c fs => simp [isiD] at h
  | exc c fs =>
    simp only [isiD] at h
    cases el : te.lookup c with
    | none => rw [el] at h; cases h
    | some b =>
      rw [el] at h
      cases h
      simp only [Rep] at ra
      obtain ⟨a, C, dd, vs, rfl, m, t, z, _, _, y⟩ := ra
      obtain ⟨e1, e2⟩ := hte _ (lookup_mem el) C m
      exact ⟨b, .ref C, rfl, .inr ⟨a, C, dd, rfl, rfl, t, y.elim (fun y => .inl y.2) fun ⟨d, y1, y2, _⟩ => .inr ⟨d, _, y1, y2⟩, e1⟩, e2⟩
end
section
variable {X : Cx} {a c : Expr} {cs : List Expr} {p pos : Pos} {fa : M D} {Ta : Nat → Bool} {sa : Option Nat} {tb : List (String × Bool)} {te : List (Str × Bool)} {cv : V} {u : Value} {k : Nat}
theorem ve_isi (hg : Gl X "isinstance") (hm : X.mg "isinstance" = none) (ha : VE X a fa Ta sa) (hc : PE X c (tC cv)) (hv : ClsV cv u) (htb : ∀ p ∈ tb, PySem.W.kitOne X.K (.type p.1) u = some p.2) (hte : ∀ p ∈ te, ∀ C, X.mg p.1 = some (.ref C) → ExcC X.K C ∧ PySem.W.kitOne X.K (.ref C) u = some p.2)
    (hb : bootBuiltins "isinstance" = some (.builtin "isinstance"))
    (he : starEach [a, c] X.env = (false, eval a X.env) :: starEach [c] X.env := by rfl) (he2 : starEach [c] X.env = (false, eval c X.env) :: starEach [] X.env := by rfl)
    (hpl : ∀ pos, (backTo pos (starEach [c] X.env)).any (·.1) = false := by intro _; rfl) : VE X (.Call (.Name "isinstance" p) [a, c] [] pos) (oneM fa (isiD tb te)) Ta none :=
  ⟨fun W tk => pe_imp (pe_callB call_isZ hg hm hb (pa_cons (ha.run W tk) (pa_cons hc pa_nil he2) he) (by decide) (by decide) he (hpl pos)) fun σ H Q h => tE_one (r := fun x H1 Q => rIsZ X.K [x, cv] H1 Q) (fun {Z H d1 d v1 F1 Q} zs ra e res => by
    obtain ⟨b, t, rfl, kv, e2⟩ := isiD_ok (ans := fun t => PySem.W.kitOne X.K t u) htb hte ra e
    exact ⟨v1, cv, t, u, b, rfl, hv, kv, e2, res_flat zs res (by simp [Rep])⟩) h⟩
/-- the classes in a tuple -/
structure VCs (X : Cx) (es : List Expr) (cs : List V) (us : List Value) : Prop where
  run : PA X es (fun _ H Q => Q cs H)
  cl : Paired ClsV cs us
theorem vcs_nil : VCs X [] [] [] := ⟨pa_imp pa_nil fun _ _ _ h => h, .nil⟩
theorem vcs_cons {es : List Expr} {cs : List V} {us : List Value} (h1 : PE X c (tC cv)) (h2 : ClsV cv u) (h : VCs X es cs us) (hs : starEach (c :: es) X.env = (false, eval c X.env) :: starEach es X.env := by rfl) : VCs X (c :: es) (cv :: cs) (u :: us) :=
  ⟨pa_imp (pa_cons h1 h.run hs) fun _ _ _ h => h, .cons h2 h.cl⟩
theorem ve_isiT {vs : List V} {us : List Value} {pt : Pos} (hg : Gl X "isinstance") (hm : X.mg "isinstance" = none) (ha : VE X a fa Ta sa) (hc : VCs X cs vs us) (hl : vs.length ≤ 1000) (htb : ∀ p ∈ tb, PySem.W.kitAny X.K (.type p.1) us = some p.2) (hte : ∀ p ∈ te, ∀ C, X.mg p.1 = some (.ref C) → ExcC X.K C ∧ PySem.W.kitAny X.K (.ref C) us = some p.2)
    (hb : bootBuiltins "isinstance" = some (.builtin "isinstance"))
    (he : starEach [a, .Tuple cs k pt] X.env = (false, eval a X.env) :: starEach [.Tuple cs k pt] X.env := by rfl) (he2 : starEach [.Tuple cs k pt] X.env = (false, eval (.Tuple cs k pt) X.env) :: starEach [] X.env := by rfl)
    (hpl : ∀ pos, (backTo pos (starEach [.Tuple cs k pt] X.env)).any (·.1) = false := by intro _; rfl) : VE X (.Call (.Name "isinstance" p) [a, .Tuple cs k pt] [] pos) (oneM fa (isiD tb te)) Ta none :=
  ⟨fun W tk => pe_imp (pe_callB call_isZT hg hm hb (pa_cons (ha.run W tk) (pa_cons (pe_tup hc.run) pa_nil he2) he) (by decide) (by decide) he (hpl pos)) fun σ H Q h => tE_one (r := fun x H1 Q => vs.length ≤ sizeLine ∧ ∀ q, H1 q = none → rIsZT X.K [x, .ref q] (upd H1 q (.tup vs)) Q) (fun {Z H d1 d v1 F1 Q} zs ra e res => by
    obtain ⟨b, t, rfl, kv, e2⟩ := isiD_ok (ans := fun t => PySem.W.kitAny X.K t us) htb hte ra e
    refine ⟨by rw [sizeLine_eq]; omega, fun q hq => ⟨v1, q, vs, t, us, b, rfl, upd_same, hc.cl, kv.upd hq, e2, ?_⟩⟩
    exact res _ _ _ [] (Alloc.tup hq) (by simp [Rep])) h⟩
end

/-! ### a new exception, as a value -/
def excM (c : Str) (fa : M D) : M D := bnd fa fun _ => pur (.exc c [])
section
variable {X : Cx} {e : Expr} {p pos : Pos} {fa : M D} {Ta : Nat → Bool} {sa : Option Nat} {x : Str}
theorem vexO_ok {P : Program} {w : World} {H : Hp} {h : Heap} {a : Addr} {cls : Value} {d : Option Addr} {oe : Obj} {vs : Array Value} (e : h.get? a = some oe) (z : Zc cls d oe) (dd : oe.data = .fields vs) : ObjOk P w H h a (ExO cls d a) :=
  ⟨⟨oe, vs, e, z, dd⟩, ⟨oe, e⟩, fun _ _ ⟨o, v, q, r⟩ k => ⟨o, v, k o q, r⟩⟩
theorem pe_exc1' {C : Addr} {bmB : List Value} {B newId initId : String} {ta : TE} (F : ExcBaseFacts B newId initId bmB) (q : PySem.W.excIn X.K C bmB newId = true) (gC : X.mg x = some (.ref C)) (kC : PySem.W.keepIn X.K (.ref C) = true) (hg : Gl X x)
    (he : PE X e ta) (hs : starEach [e] X.env = (false, eval e X.env) :: starEach [] X.env := by rfl) (hdb : (x == ("__debug__" : Str)) = false := by decide) :
    PE X (.Call (.Name x p) [e] [] pos) (fun σ H Q => ta σ H fun _ H1 => ∀ a, H1 a = none → Q (.ref a) (upd H1 a (ExO (.ref C) none a))) := by
  refine ⟨fun pins s σ H Q I h => ?_⟩
  refine wpAny_Call_Name_kw (ld_glob I hg gC ?_ hdb)
  refine PySem.W.callWith_K (h₀ := X.base) I.ok.mod.kin kC ?_ hs (by rfl)
  rw [hs]
  show wpAny _ _ (spliced ((false, eval e X.env) :: backTo pos (starEach [] X.env))) _ _ s
  refine Calls.spliced_cons (thn (he.run pins s σ H _ I h) fun u s1 ⟨v, H1, I1, r1, q1⟩ => ?_)
  refine Calls.spliced_nil ⟨I1.kIn, ?_⟩
  show wpAny _ _ (call (.ref C) [u]) _ _ _
  obtain ⟨bm, N, nm, qn, bs, hdct, sn, sub, ab, col, dd, k0, k1, k2, k3, k5, mN, hC, hN, hni, T⟩ := exc_obj I1.kIn q
  refine wpAny_call_exc_subT F T hC hN hni (fun h' a hm => ?_) (by show 1 ≤ sizeLine; rw [sizeLine_eq]; omega)
  have hn : H1 a = none := I1.hok.gone hm.new
  obtain ⟨t, ht, _, _⟩ := hm.there
  exact ⟨.ref a, upd H1 a (ExO (.ref C) none a), I1.laidN hm.keeps hm.new hn (vexO_ok ht ⟨rfl, rfl⟩ rfl), rfl, q1 a hn⟩
theorem ve_exc1 {C : Addr} {bmB : List Value} {B newId initId : String} (F : ExcBaseFacts B newId initId bmB) (q : PySem.W.excIn X.K C bmB newId = true) (gC : X.mg x = some (.ref C)) (kC : PySem.W.keepIn X.K (.ref C) = true) (hg : Gl X x)
    (he : VE X e fa Ta sa) (hs : starEach [e] X.env = (false, eval e X.env) :: starEach [] X.env := by rfl) (hdb : (x == ("__debug__" : Str)) = false := by decide) : VE X (.Call (.Name x p) [e] [] pos) (excM x fa) Ta none := by
  refine ⟨fun W tk => pe_imp (pe_exc1' F q gC kC hg (he.run W tk) hs hdb) fun σ H Q ⟨Z, env, Fs, S, c⟩ => ⟨Z, env, Fs, S, ?_⟩⟩
  unfold excM bnd at c
  cases q : fa env with
  | err => rw [q] at c; exact c.elim
  | exc y fs e1 => rw [q] at c; exact c
  | ok d e1 =>
    rw [q] at c
    dsimp only at c
    intro v H1 Z1 Fs1 F1 S1 t1 r1 p1 a ha
    have c := Cont.step (T2 := T0) c t1 fun i q => ⟨q, rfl⟩
    have al : Alloc Z1 H1 (fun b => Z1 b ∨ b = a) (upd H1 a (ExO (.ref C) none a)) [] := Alloc.tup ha
    refine Cont.ret S1 c al ?_
    simp only [Rep]
    exact ⟨a, C, none, [], rfl, gC, upd_same, .inr rfl, trivial, (by simp [Repf]), .inl ⟨trivial, rfl⟩⟩
end
end VI
/-! V20: a def is run -/
namespace VI
open PySem PySem.Spec L2

/-- what stands behind the parameters at the end -/
def finL : List D → List (Option D) → Option (List D)
  | [], _ => some []
  | d :: ds, [] => if d.own then none else (finL ds []).map (d :: ·)
  | d :: ds, s :: ss => if d.own then (match s with
    | some d' => (finL ds ss).map (d' :: ·)
    | none => none) else (finL ds ss).map (d :: ·)
def env0 (n : Nat) (ds : List D) : Env := ⟨ds.map some ++ List.replicate (n - ds.length) none, ds.map D.own⟩
def runB (n : Nat) (body : M Fl) (ds : List D) : CRes := match body (env0 n ds) with
  | .ok (.rt d) e => (match finL ds e.s with
    | some fin => .ok d fin
    | none => .err)
  | .ok .nx e => (match finL ds e.s with
    | some fin => .ok .non fin
    | none => .err)
  | .exc c fs e => (match finL ds e.s with
    | some fin => .exc c fs fin
    | none => .err)
  | _ => .err
section
variable {K : PySem.W.Frag} {mg : Mg} {Z Z' : Addr → Prop} {H H' : Hp}
theorem finL_len : ∀ {ds : List D} {ss : List (Option D)} {fin : List D}, finL ds ss = some fin → fin.length = ds.length
  | [], _, fin, h => by simp only [finL, Option.some.injEq] at h; subst h; rfl
  | d :: ds, [], fin, h => by
    simp only [finL] at h
    split at h
    · cases h
    · cases e : finL ds [] with
      | none => rw [e] at h; cases h
      | some f => rw [e] at h; cases h; simp [finL_len e]
  | d :: ds, s :: ss, fin, h => by
    simp only [finL] at h
    split at h
    · split at h
      · cases e : finL ds ss with
        | none => rw [e] at h; cases h
        | some f => rw [e] at h; cases h; simp [finL_len e]
      · cases h
    · cases e : finL ds ss with
      | none => rw [e] at h; cases h
      | some f => rw [e] at h; cases h; simp [finL_len e]
theorem finL_get : ∀ {ds : List D} {ss : List (Option D)} {fin : List D} {i : Nat} {d : D}, finL ds ss = some fin → ds[i]? = some d → ∃ d', fin[i]? = some d' ∧ ((d.own = true ∧ ss[i]? = some (some d')) ∨ (d.own = false ∧ d' = d))
  | [], _, fin, i, d, h, q => by simp at q
  | x :: ds, [], fin, 0, d, h, q => by
    simp only [finL] at h
    simp only [List.getElem?_cons_zero, Option.some.injEq] at q
    subst q
    split at h
    · cases h
    · rename_i ho
      cases e : finL ds [] with
      | none => rw [e] at h; cases h
      | some f => rw [e] at h; cases h; exact ⟨x, rfl, .inr ⟨by simpa using ho, rfl⟩⟩
  | x :: ds, [], fin, i + 1, d, h, q => by
    simp only [finL] at h
    simp only [List.getElem?_cons_succ] at q
    split at h
    · cases h
    · cases e : finL ds [] with
      | none => rw [e] at h; cases h
      | some f =>
        rw [e] at h; cases h
        obtain ⟨d', h1, h2⟩ := finL_get e q
        exact ⟨d', h1, by simpa using h2⟩
  | x :: ds, s :: ss, fin, 0, d, h, q => by
    simp only [finL] at h
    simp only [List.getElem?_cons_zero, Option.some.injEq] at q
    subst q
    split at h
    · rename_i ho
      split at h
      · rename_i d'
        cases e : finL ds ss with
        | none => rw [e] at h; cases h
        | some f => rw [e] at h; cases h; exact ⟨d', rfl, .inl ⟨ho, rfl⟩⟩
      · cases h
    · rename_i ho
      cases e : finL ds ss with
      | none => rw [e] at h; cases h
      | some f => rw [e] at h; cases h; exact ⟨x, rfl, .inr ⟨by simpa using ho, rfl⟩⟩
  | x :: ds, s :: ss, fin, i + 1, d, h, q => by
    simp only [finL] at h
    simp only [List.getElem?_cons_succ] at q
    split at h
    · split at h
      · cases e : finL ds ss with
        | none => rw [e] at h; cases h
        | some f =>
          rw [e] at h; cases h
          simpa using finL_get e q
      · cases h
    · cases e : finL ds ss with
      | none => rw [e] at h; cases h
      | some f =>
        rw [e] at h; cases h
        simpa using finL_get e q
/-- at the entry -/
theorem start_sr {N : List Str} {ds : List D} {vs : List V} {Gs : Nat → List Addr} (S : SR K mg Z H (vs.map some) (envOf ds) Gs) : SR K mg Z H (L2.start N vs) (env0 N.length ds) Gs where
  len := by
    have := S.len
    simp only [envOf, List.length_map] at this
    simp [env0, L2.start, this]
  rep := fun i d e => by
    simp only [env0] at e
    have hl := S.len
    simp only [envOf, List.length_map] at hl
    by_cases hi : i < ds.length
    · rw [List.getElem?_append_left (by simpa using hi)] at e
      obtain ⟨v, h1, h2⟩ := S.rep i d e
      refine ⟨v, ?_, h2⟩
      unfold L2.start
      rw [List.getElem?_append_left (by simpa [← hl] using hi)]
      exact h1
    · rw [List.getElem?_append_right (by simpa using hi), List.getElem?_replicate] at e
      split at e <;> cases e
  no := fun i h => S.no i fun d e => h d (by
    simp only [env0]
    have hi : i < ds.length := by
      have := (List.getElem?_eq_some_iff.mp e).1
      simpa [envOf] using this
    rw [List.getElem?_append_left (by simpa using hi)]
    exact e)
  nd := S.nd
  dj := S.dj
  zf := S.zf
  zs := S.zs
/-- what the caller gets back -/
theorem end_sr {N : List Str} {T : Nat → Bool} {ds fin : List D} {vs : List V} {Gs Fs' : Nat → List Addr} {σ' : L2.St} {e' : Env} (S : SR K mg Z H (vs.map some) (envOf ds) Gs) (S' : SR K mg Z' H' σ' e' Fs') (t : Tr T Z H (env0 N.length ds) Gs Z' H' e' Fs')
    (pn : Pin (env0 N.length ds).p (L2.start N vs) σ') (hf : finL ds e'.s = some fin) : ∃ Gs', SR K mg Z' H' (vs.map some) (envOf fin) Gs' ∧ Tr (fun _ => true) Z H (envOf ds) Gs Z' H' (envOf fin) Gs' ∧ ∀ i a, a ∈ Gs' i → a ∈ Fs' i := by
  have hl := S.len
  simp only [envOf, List.length_map] at hl
  have hfl := finL_len hf
  have st := t.stay (start_sr (N := N) S)
  let ow : Nat → Bool := fun i => match ds[i]? with
    | some d => d.own
    | none => false
  have sub : ∀ i a, a ∈ (fun i => if ow i = true then Fs' i else []) i → a ∈ Fs' i := fun i a h => by
    dsimp only at h
    split at h
    · exact h
    · cases h
  refine ⟨fun i => if ow i = true then Fs' i else [], ⟨by simp [envOf, hfl, hl], fun i d e => ?_, fun i h => ?_, fun i => ?_, fun i j ne a ha hb => S'.dj i j ne a (sub i a ha) (sub j a hb), fun i a ha => S'.zf i a (sub i a ha), S'.zs⟩, ⟨t.z, t.zn, t.keep, t.gr, fun i a ha => t.new i a (sub i a ha), fun i h => (by cases h), rfl⟩, sub⟩
  · simp only [envOf, List.getElem?_map] at e
    cases ef : fin[i]? with
    | none => rw [ef] at e; cases e
    | some d0 =>
      rw [ef] at e
      cases e
      have hi : i < ds.length := by rw [← hfl]; exact (List.getElem?_eq_some_iff.mp ef).1
      obtain ⟨d1, h1, h2⟩ := finL_get hf (List.getElem?_eq_getElem hi)
      rw [ef] at h1
      cases h1
      obtain ⟨v, q1, q2⟩ := S.rep i ds[i] (by simp [envOf, hi])
      have how : ow i = ds[i].own := by show (match ds[i]? with | some d => d.own | none => false) = _; rw [List.getElem?_eq_getElem hi]
      rcases h2 with ⟨o, h2⟩ | ⟨o, rfl⟩
      · obtain ⟨v', r1, r2⟩ := S'.rep i d h2
        have hp : (env0 N.length ds).p[i]? = some true := by simp [env0, hi, o]
        have hs : (L2.start N vs)[i]? = (vs.map some)[i]? := by
          unfold L2.start
          rw [List.getElem?_append_left (by simpa [← hl] using hi)]
        rw [pn i hp, hs, q1] at r1
        cases r1
        refine ⟨v, q1, ?_⟩
        show Rep K mg Z' H' _ v (if ow i = true then Fs' i else [])
        rw [how, o, if_pos rfl]
        exact r2
      · refine ⟨v, q1, ?_⟩
        show Rep K mg Z' H' _ v (if ow i = true then Fs' i else [])
        rw [how, o, if_neg Bool.false_ne_true]
        have e0 := q2.unown o
        rw [e0] at q2
        exact q2.stay st fun _ h => by simp at h
  · show (if ow i = true then Fs' i else []) = []
    split
    · rename_i o
      have hi : i < ds.length := by
        by_cases hi : i < ds.length
        · exact hi
        · have : ow i = false := by
            show (match ds[i]? with | some d => d.own | none => false) = _
            rw [List.getElem?_eq_none (by simpa using hi)]
          rw [this] at o; cases o
      exfalso
      refine h fin[i] ?_
      simp [envOf, hfl, hi]
    · rfl
  · show (if ow i = true then Fs' i else []).Nodup
    split
    · exact S'.nd i
    · exact List.nodup_nil
end
section
variable {P : Program} {w : World} {K : PySem.W.Frag} {mg : Str → Option Value} {base : Heap}
theorem fnD {x qual : Str} {st : Stmt} {f : Addr} {fd : FuncData} {N ps : List Str} {k : Nat} {body : M Fl} (F : Fun K x qual st f fd) (S : FnScope N ps (defScope st))
    (hb : ∀ (cdv : Value) (A : Around) (outer : List PySem.Env) (s : Shared) (H : Hp) (E : XK), Room k (A.deeper (PyProof.Rows.envOfC qual (defScope st) s.heap.objs.size f cdv)) →
      ∃ T, VSs (cxOf (L2.CX P w) P w K mg base N qual (defScope st) f cdv A outer s H E) (defBody st) body T) : FnOk P w K mg base (L2.CX P w) (k + 1) f fd ps (spOf K mg ps.length (runB N.length body)) := by
  refine F.okX S (fun vs H Q E h => h.1) fun cdv A outer s H vs Q E hr h => ?_
  obtain ⟨T, v⟩ := hb cdv A outer s H E hr
  refine ⟨_, v.run (fun cls d _ H' => E cls d H') (takes_of rfl rfl rfl rfl), ?_⟩
  obtain ⟨hl, Z, ds, Gs, S0, c⟩ := h
  refine ⟨Z, env0 N.length ds, Gs, start_sr S0, ?_⟩
  unfold runB at c
  cases q : body (env0 N.length ds) with
  | err => rw [q] at c; exact c
  | exc cc fs e =>
    rw [q] at c
    intro cls dd σ' H' Z' Fs' S' t pn r
    dsimp only at c
    split at c
    · rename_i rd rf hr
      split at hr <;> cases hr
    · rename_i c' fs' fin hc
      split at hc
      · rename_i fin' hf
        cases hc
        obtain ⟨Gs', S2, t2, _⟩ := end_sr S0 S' t pn hf
        exact c cls dd H' Z' Gs' S2 t2 r
      · cases hc
    · exact c.elim
  | ok fl e =>
    rw [q] at c
    cases fl with
    | bk => exact c.elim
    | ct => exact c.elim
    | rt d =>
      intro v σ' H' Z' Fs' Fd S' t pn r p
      dsimp only at c
      split at c
      · rename_i rd rf hr
        split at hr
        · rename_i fin' hf
          cases hr
          obtain ⟨Gs', S2, t2, sub⟩ := end_sr S0 S' t pn hf
          exact c v H' Z' Gs' Fd S2 t2 r ⟨p.1, fun a ha => ⟨fun j z => (p.2 a ha).1 j (sub j a z), (p.2 a ha).2⟩⟩
        · cases hr
      · rename_i c' fs' fin hc
        split at hc <;> cases hc
      · exact c.elim
    | nx =>
      intro σ' H' Z' Fs' S' t pn
      dsimp only at c
      split at c
      · rename_i rd rf hr
        split at hr
        · rename_i fin' hf
          cases hr
          obtain ⟨Gs', S2, t2, sub⟩ := end_sr S0 S' t pn hf
          exact c .non H' Z' Gs' [] S2 t2 (by simp [Rep]) VP.nil
        · cases hr
      · rename_i c' fs' fin hc
        split at hc <;> cases hc
      · exact c.elim
end

/-! ### the program's defs -/
abbrev Ph := Nat → List D → CRes
structure DefI where
  x : Str
  qual : Str
  st : Stmt
  N : List Str
  ps : List Str
  b : Ph → M Fl
def PhiN (DL : List DefI) : Nat → Ph
  | 0 => fun _ _ => .err
  | n + 1 => fun i ds => match DL[i]? with
    | some d => runB d.N.length (d.b (PhiN DL n)) ds
    | none => .err
/-- what the top has made of a def -/
structure Has (K : PySem.W.Frag) (mg : Mg) (d : DefI) : Prop where
  sc : FnScope d.N d.ps (defScope d.st)
  fn : ∃ f fd, Fun K d.x d.qual d.st f fd ∧ Binds K fd d.ps [] ∧ mg d.x = some (.ref f)
structure CallOk (P : Program) (w : World) (K : PySem.W.Frag) (mg : Mg) (base : Heap) (k : Nat) (d : DefI) (φ : List D → CRes) : Prop where
  ex : ∃ f fd, FnOk P w K mg base (L2.CX P w) k f fd d.ps (spOf K mg d.ps.length φ) ∧ PySem.W.keepIn K (.ref f) = true ∧ Binds K fd d.ps [] ∧ mg d.x = some (.ref f)
def CallsOk (P : Program) (w : World) (K : PySem.W.Frag) (mg : Mg) (base : Heap) (DL : List DefI) (k : Nat) (Φ : Ph) : Prop := ∀ (i : Nat) (d : DefI), DL[i]? = some d → CallOk P w K mg base k d (Φ i)
def BodyOk (P : Program) (w : World) (K : PySem.W.Frag) (mg : Mg) (base : Heap) (DL : List DefI) (d : DefI) : Prop := ∀ (k : Nat) (Φ : Ph), 3 ≤ k → CallsOk P w K mg base DL k Φ → ∀ (f : Addr) (cdv : Value) (A : Around) (outer : List PySem.Env) (s : Shared) (H : Hp) (E : XK),
  Room k (A.deeper (PyProof.Rows.envOfC d.qual (defScope d.st) s.heap.objs.size f cdv)) → ∃ T, VSs (cxOf (L2.CX P w) P w K mg base d.N d.qual (defScope d.st) f cdv A outer s H E) (defBody d.st) (d.b Φ) T
theorem all_ok {P : Program} {w : World} {K : PySem.W.Frag} {mg : Mg} {base : Heap} {DL : List DefI} (hh : ∀ (i : Nat) (d : DefI), DL[i]? = some d → Has K mg d) (hb : ∀ (i : Nat) (d : DefI), DL[i]? = some d → BodyOk P w K mg base DL d) : ∀ n, CallsOk P w K mg base DL (n + 3) (PhiN DL n)
  | 0 => fun i d hd => by
    obtain ⟨f, fd, F, B, m⟩ := (hh i d hd).fn
    exact ⟨f, fd, ⟨fun vs H Q E h => h.1, fun A outer s H args us vs Q E hr e0 hbi hv h => by
      obtain ⟨_, Z, ds, Gs, _, c⟩ := h
      exact c.elim⟩, F.kp, B, m⟩
  | n + 1 => fun i d hd => by
    obtain ⟨f, fd, F, B, m⟩ := (hh i d hd).fn
    have e : PhiN DL (n + 1) i = runB d.N.length (d.b (PhiN DL n)) := by
      funext ds
      simp only [PhiN, hd]
    refine ⟨f, fd, ?_, F.kp, B, m⟩
    rw [e]
    exact fnD F (hh i d hd).sc fun cdv A outer s H E hr => hb i d hd (n + 3) _ (Nat.le_add_left _ _) (all_ok hh hb n) f cdv A outer s H E hr
/-- as many arguments -/
def GLen (g : M (List Arg)) (n : Nat) : Prop := ∀ env as e', g env = .ok as e' → as.length = n
theorem glen_nil : GLen (pur []) 0 := fun env as e' h => by
  simp only [pur, Out.ok.injEq] at h
  rw [← h.1]; rfl
theorem glen_arg {f : M D} {g : M (List Arg)} {n : Nat} (h : GLen g n) : GLen (argM f g) (n + 1) := fun env as e' q => by
  unfold argM bnd at q
  split at q
  · rename_i d e1 _
    dsimp only at q
    split at q
    · rename_i ds e2 hq
      simp only [pur, Out.ok.injEq] at q
      rw [← q.1, List.length_cons, h _ _ _ hq]
    · cases q
    · cases q
  · cases q
  · cases q
theorem glen_nar {i : Nat} {g : M (List Arg)} {n : Nat} (h : GLen g n) : GLen (narM i g) (n + 1) := fun env as e' q => by
  unfold narM bnd at q
  split at q
  · dsimp only at q
    split at q
    · rename_i ds e2 hq
      simp only [pur, Out.ok.injEq] at q
      rw [← q.1, List.length_cons, h _ _ _ hq]
    · cases q
    · cases q
  · cases q
theorem ve_calld {X : Cx} {e : Expr} {es : List Expr} {p pos : Pos} {x : Str} {d : DefI} {k : Nat} {φ : List D → CRes} {g : M (List Arg)} {T : Nat → Bool} (C : CallOk X.prog X.w X.K X.mg X.base k d φ) (hx : d.x = x) (hr : Room k X.A) (hg : Gl X x) (ha : VG X (e :: es) g T) (ln : GLen g d.ps.length)
    (hdb : (x == ("__debug__" : Str)) = false := by decide) (he : starEach (e :: es) X.env = (false, eval e X.env) :: starEach es X.env := by rfl) (hpl : ∀ pos, (backTo pos (starEach es X.env)).any (·.1) = false := by intro _; rfl) :
    VE X (.Call (.Name x p) (e :: es) [] pos) (callM φ g) T none := by
  obtain ⟨f, fd, F, kp, B, m⟩ := C.ex
  subst hx
  exact ve_call F hr hg m kp B ha ln hdb he hpl
end VI
/-! V21: name op= e; name = [..]; the law's end -/
namespace VI
open PySem PySem.Spec L2

def augM (i : Nat) (g : D → D → Option D) (fe : M D) : M Fl := fun env0 => match env0.s[i]? with
  | some (some d) => if d.own then .err else (bnd fe fun y env => match g d y with
    | some z => if env.p[i]? = some true then .err else if i < env.s.length then .ok .nx (env.put i z) else .err
    | none => .err) env0
  | _ => .err
section
variable {X : Cx} {e : Expr} {p' pos : Pos} {f : M D} {T : Nat → Bool} {i : Nat} {x : Str} {s : Option Nat} {op : Operator} {g : D → D → Option D}
theorem vs_aug (h : OpD X (inplaceOp op) g) (hN : X.N.Nodup) (hi : X.N[i]? = some x) (hx : Loc X.env.scope x) (he : VE X e f T s) (hf : X.fn x = true ∨ X.env.scope.names.lookup x = some .local := by first | exact .inl rfl | exact .inr rfl | assumption) :
    VS X (.AugAssign (.Name x p') op e pos) (augM i g f) (tor T (T1' i)) := by
  obtain ⟨r, h1, h2⟩ := h
  refine ⟨fun W tk => ps_imp (ps_aug (ti := r) hN hi hx (he.run W tk) h1 hf) fun D0 σ H ⟨Z, env, Fs, S, c⟩ => ?_⟩
  unfold augM at c
  split at c
  · rename_i d hd
    split at c
    · exact c.elim
    · rename_i ho
      obtain ⟨v, hv, rv⟩ := S.rep i d hd
      have e0 := rv.unown (by simpa using ho)
      rw [e0] at rv
      refine ⟨v, hv, Z, env, Fs, S, ?_⟩
      unfold bnd at c
      cases q : f env with
      | err => rw [q] at c; exact c.elim
      | exc x fs e1 => rw [q] at c; exact fun cls dd H' Z' Fs' S t r => c cls dd σ H' Z' Fs' S (t.mono fun i q => (tor_sub i q).1) Pin.refl r
      | ok y e1 =>
        rw [q] at c
        dsimp only at c
        intro vy H1 Z1 Fs1 Fy S1 t1 ry py
        split at c
        · rename_i z hg
          split at c
          · exact c.elim
          · rename_i hp
            split at c
            · rename_i hl
              refine h2 S1.zs (rv.stay (t1.stay S) fun _ h => by simp at h) ry hg fun w H' Z' Fd al rw' => ?_
              have S2 := S1.alloc al
              have t2 : Tr T Z H env Fs Z' H' e1 Fs1 := t1.trans (Tr.alloc (T := T) S1 al) fun i q => ⟨q, q⟩
              have ap1 : ∀ a ∈ Fd, ∀ j, a ∉ Fs1 j := fun a ha j z => by
                obtain ⟨o, e⟩ := S1.tr z
                rw [(al.fd a ha).1] at e
                cases e
              have ap : ∀ a ∈ Fd, (∀ j, a ∉ Fs1 j) ∧ ¬ Z' a := fun a ha => ⟨ap1 a ha, (al.fd a ha).2⟩
              exact c _ H' Z' _ (store_ok S2 hl rw' al.nd ap) (t2.store fun a ha => .inr (t1.gr a (al.fd a ha).1)) (Pin.set (by rw [← t1.p]; exact hp))
            · exact c.elim
        · exact c.elim
  · exact c.elim
theorem oi_add : OpD X (inplaceOp .Add) addI := opd_int0 iop_add fun d1 d2 d e => by
  unfold addI at e
  split at e <;> cases e
  exact ⟨_, _, rfl, rfl, .inl ⟨_, rfl, rfl⟩⟩
theorem oi_sub : OpD X (inplaceOp .Sub) subD := opd_int0 iop_sub fun d1 d2 d e => by
  unfold subD at e
  split at e <;> cases e
  exact ⟨_, _, rfl, rfl, .inl ⟨_, rfl, rfl⟩⟩
end
section
variable {X : Cx} {elt tg iter : Expr} {ifs : List Expr} {scope : Scope} {own : List (Str × Nat)} {pos spos py : Pos} {fi : M (List D)} {gt : D → M Unit} {ft : M Bool} {fe : M D} {Ti Tg Tt Te : Nat → Bool} {srcs : List Nat} {i : Nat} {y : Str}
theorem vs_setlc (hc : X.calm = true) (hN : X.N.Nodup) (hy : X.N[i]? = some y) (hyl : X.env.scope.names.lookup y = some .local) (hsw : swapsWith (.ListComp elt [⟨tg, iter, ifs, 0⟩] scope pos) (some (.Name y py)) spos.line X.env = pure true)
    (ok : blkC X.N X.env.scope scope own = true) (hi : VI X tg iter fi Ti srcs)
    (hg : ∀ (s : Shared) (H : Hp) (C : Addr) (cl : List (Str × Addr)) (fp : List Addr), VGt (X.blk s H scope (compEnvC scope cl C X.env) fp) tg gt Tg)
    (ht : ∀ (s : Shared) (H : Hp) (C : Addr) (cl : List (Str × Addr)) (fp : List Addr), VTs (X.blk s H scope (compEnvC scope cl C X.env) fp) ifs ft Tt)
    (he : ∀ (s : Shared) (H : Hp) (C : Addr) (cl : List (Str × Addr)) (fp : List Addr), VE (X.blk s H scope (compEnvC scope cl C X.env) fp) elt fe Te none)
    (hT : ∀ j, Tg j = true → j ∈ own.map (·.2)) (hu : ∀ i ∈ srcs, i ∉ own.map (·.2) ∧ Tt i = false ∧ Te i = false) (hs : ∀ x, foldedSetIterable iter X.env x = pure x := by intro _; rfl) :
    VS X (.Assign [.Name y py] (.ListComp elt [⟨tg, iter, ifs, 0⟩] scope pos) spos) (asgM i (compM (own.map (·.2)) fi gt ft fe)) (tor (tor Ti (tor Tt Te)) (T1' i)) := by
  refine ⟨fun W tk => ps_imp (ps_setLc (wi := tI X.K X.mg fi Ti srcs W) (g := tGt X.K X.mg gt Tg) (tt := tT X.K X.mg ft Tt (fun _ _ _ _ => False)) (te := tE X.K X.mg fe Te none (fun _ _ _ _ => False)) hc hN hy hyl hsw (hi.run W tk) (blkOk_by ok) (fun s H C cl fp => (hg s H C cl fp).run) (fun s H C cl fp => (ht s H C cl fp).run _ takes0) (fun s H C cl fp => (he s H C cl fp).run _ takes0) hs) fun D0 σ H ⟨Z, env, Fs, S, c⟩ => ?_⟩
  refine comp_read hT hu ⟨Z, env, Fs, S, ?_⟩
  unfold asgM bnd at c
  cases q : compM (own.map (·.2)) fi gt ft fe env with
  | err => rw [q] at c; exact c.elim
  | exc x fs e1 => rw [q] at c; exact fun cls dd H' Z' Fs' S t r => c cls dd σ H' Z' Fs' S (t.mono fun i q => (tor_sub i q).1) Pin.refl r
  | ok d e1 =>
    rw [q] at c
    dsimp only at c
    intro v H1 Z1 Fs1 F1 S1 t1 r1 p1
    split at c
    · exact c.elim
    · rename_i hp
      split at c
      · rename_i hl
        exact c _ H1 Z1 (fset Fs1 i F1) (store_ok S1 hl r1 p1.1 fun a ha => ⟨(p1.2 a ha).1, (p1.2 a ha).2.1⟩) (t1.store fun a ha => (p1.2 a ha).2.2) (Pin.set (by rw [← t1.p]; exact hp))
      · exact c.elim
end

/-! ### the law -/
def spLaw (K : PySem.W.Frag) : Sp := fun vs H Q _ => ∃ (a : Addr) (ns : List Int), vs = [.ref a] ∧ SqL K H a (ns.map V.int) ∧ ns.length ≤ 63 ∧ ∀ H', Q (.bl true) H'
def scriptD (ns : List Int) : D := .lst false (ns.map D.int)
theorem reps_ints {K : PySem.W.Frag} {mg : Mg} {Z : Addr → Prop} {H : Hp} : ∀ ns : List Int, Reps K mg Z H (ns.map D.int) (ns.map V.int) []
  | [] => Reps.nil
  | n :: ns => Reps.cons (F := []) (by simp [Rep]) (reps_ints ns)
theorem law_sp {K : PySem.W.Frag} {mg : Mg} {φ : List D → CRes} (h : ∀ ns : List Int, ns.length ≤ 63 → ∃ fin, φ [scriptD ns] = .ok (.bl true) fin) (vs : List V) (H : Hp) (Q : VK) (E : XK) (q : spLaw K vs H Q E) : spOf K mg 1 φ vs H Q E := by
  obtain ⟨a, ns, rfl, hs, hl, k⟩ := q
  obtain ⟨fin, e⟩ := h ns hl
  refine ⟨rfl, fun b => b = a ∧ ∃ o, H b = some o, [scriptD ns], fun _ => [], ⟨rfl, fun i d e => ?_, fun _ _ => rfl, fun _ => List.nodup_nil, fun _ _ _ _ h => by simp at h, fun _ _ h => by simp at h, fun b hb => hb.2⟩, ?_⟩
  · cases i with
    | zero =>
      simp only [envOf, List.map_cons, List.map_nil, List.getElem?_cons_zero, Option.some.injEq] at e
      subst e
      refine ⟨.ref a, rfl, ?_⟩
      simp only [scriptD, Rep]
      refine ⟨a, _, rfl, ?_, reps_ints ns, trivial⟩
      rcases hs with hs | hs
      · refine .inl ⟨⟨rfl, ?_⟩, hs⟩
        rcases hs with hs | ⟨o, hs⟩
        · exact ⟨_, hs⟩
        · exact ⟨_, hs⟩
      · exact .inr hs
    | succ i => simp [envOf] at e
  · rw [e]
    exact fun v H' Z' Gs' Fd S t r p => by
      simp only [Rep] at r
      rw [r.1]
      exact k H'
theorem cx_no {P : Program} {w : World} (H : Hp) (s : Shared) (e : Value) (s' : Shared) (h : L2.CX P w [] H s (fun _ _ _ => False) e s') : False := by
  obtain ⟨_, _, _, _, _, _, _, _, _, _, _, _, z⟩ := h
  exact z
end VI
/-! V22: the rules in short, for the printed bodies -/
namespace VI
open PySem PySem.Spec L2
section
variable {X : Cx} {e a b c o k0 tg iter elt : Expr} {pos p p' pt apos cpos spos py px : Pos} {f fa fb fe fk : M D} {ga gb gc : M Bool} {T Ta Tb Tc Te Tp Tk Tg Ti Tt : Nat → Bool} {s sa sb sk : Option Nat} {x y z : Str} {fp : M (List Stp)} {es : List Expr} {fl : M (List D)}
theorem ev (i : Nat) (hN : X.N[i]? = some x := by rfl) (hv : Vis X.env.scope x := by first | exact Or.inl rfl | exact Or.inr (Or.inl rfl) | exact Or.inr (Or.inr rfl)) (hd : (x == ("__debug__" : Str)) = false := by decide) (hcd : (x == ("__classdict__" : Str)) = false := by decide) : VE X (.Name x pos) (varM i) T0 (some i) := ve_var hN hv hd hcd
theorem ek (i : Nat) (hN : X.N[i]? = some x := by rfl) (hv : Vis X.env.scope x := by first | exact Or.inl rfl | exact Or.inr (Or.inl rfl) | exact Or.inr (Or.inr rfl)) (hd : (x == ("__debug__" : Str)) = false := by decide) (hcd : (x == ("__classdict__" : Str)) = false := by decide) : VE X (.Name x pos) (keepM i) (T1' i) none := ve_keep hN hv hd hcd
theorem em (i : Nat) (hN : X.N[i]? = some x := by rfl) (hv : Vis X.env.scope x := by first | exact Or.inl rfl | exact Or.inr (Or.inl rfl) | exact Or.inr (Or.inr rfl)) (hd : (x == ("__debug__" : Str)) = false := by decide) (hcd : (x == ("__classdict__" : Str)) = false := by decide) : VE X (.Name x pos) (moveM i) (T1' i) none := ve_move hN hv hd hcd
theorem ep (i : Nat) (hN : X.N[i]? = some x := by rfl) (hv : Vis X.env.scope x := by first | exact Or.inl rfl | exact Or.inr (Or.inl rfl) | exact Or.inr (Or.inr rfl)) (hd : (x == ("__debug__" : Str)) = false := by decide) (hcd : (x == ("__classdict__" : Str)) = false := by decide) : VPa X (.Name x pos) i (rootM i) T0 := vp_name hN hv hd hcd
theorem gn (i : Nat) {g : M (List Arg)} (hb : VG X es g Tb) (hN : X.N[i]? = some x := by rfl) (hv : Vis X.env.scope x := by first | exact Or.inl rfl | exact Or.inr (Or.inl rfl) | exact Or.inr (Or.inr rfl)) (hd : (x == ("__debug__" : Str)) = false := by decide) (hcd : (x == ("__classdict__" : Str)) = false := by decide)
    (hs : starEach (.Name x pos :: es) X.env = (false, eval (.Name x pos) X.env) :: starEach es X.env := by rfl) : VG X (.Name x pos :: es) (narM i g) (tor (T1' i) Tb) := vg_name hN hv hb hd hcd hs
theorem ga1 {g : M (List Arg)} (ha : VE X a fa Ta none) (hb : VG X es g Tb) (hs : starEach (a :: es) X.env = (false, eval a X.env) :: starEach es X.env := by rfl) : VG X (a :: es) (argM fa g) (tor Ta Tb) := vg_cons ha hb hs
theorem ebin {op : Operator} {g : D → D → Option D} (k : Bool) (h : OpD X (binaryOp op) g) (ha : VE X a fa Ta sa) (hb : VE X b fb Tb sb) (hk : k = true → ∀ i, sa = some i → Tb i = false := by first | (intro h; exact Bool.noConfusion h) | (intro _ i h; cases h; rfl) | (intro _ i h; cases h)) :
    VE X (.BinOp a op b pos) (twoM k fa fb g) (tor Ta Tb) none := ve_bin k h ha hb hk
theorem ecmp {op : CmpOp} {g : D → D → Option D} (k : Bool) (h : OpD X (compareOp op) g) (ha : VE X a fa Ta sa) (hb : VE X b fb Tb sb) (hk : k = true → ∀ i, sa = some i → Tb i = false := by first | (intro h; exact Bool.noConfusion h) | (intro _ i h; cases h; rfl) | (intro _ i h; cases h)) (hm : behindInMarks op b = false := by first | exact L2.nomark _ | rfl) :
    VE X (.Compare a [op] [b] pos) (twoM k fa fb g) (tor Ta Tb) none := ve_cmp k h ha hb hk hm
theorem tcmp {op : CmpOp} {g : D → D → Option D} (k : Bool) (h : OpD X (compareOp op) g) (ha : VE X a fa Ta sa) (hb : VE X b fb Tb sb) (hk : k = true → ∀ i, sa = some i → Tb i = false := by first | (intro h; exact Bool.noConfusion h) | (intro _ i h; cases h; rfl) | (intro _ i h; cases h)) (hm : behindInMarks op b = false := by first | exact L2.nomark _ | rfl) :
    VT X (.Compare a [op] [b] pos) (boolM (twoM k fa fb g)) (tor Ta Tb) := vt_cmp k h ha hb hk hm
theorem eix (k : Bool) (ha : VE X a fa Ta sa) (hb : VE X b fb Tb sb) (hk : k = true → ∀ i, sa = some i → Tb i = false := by first | (intro h; exact Bool.noConfusion h) | (intro _ i h; cases h; rfl) | (intro _ i h; cases h)) (hs : PlainIx b := by intro _ _; rfl) : VE X (.Subscript a b pos) (twoM k fa fb ixD) (tor Ta Tb) none := ve_ix k xd_seq ha hb hk hs
theorem pix {i : Nat} (hu : X.A.units + 1 < cLine) (hP : VPa X e i fp Tp) (hk : VE X k0 fk Tk sk) (ht : Tk i = false := by rfl) (hs : PlainIx k0 := by intro _ _; rfl) : VPa X (.Subscript e k0 pos) i (pixM i fp fk) (tor Tp Tk) := vp_ix hu hP hk ht hs
theorem sasg {i : Nat} (hN : X.N.Nodup) (he : VE X e f T none) (hi : X.N[i]? = some x := by rfl) (hx : Loc X.env.scope x := by first | exact Or.inl rfl | exact Or.inr rfl) (hs : swapsWith e (some (.Name x p')) pos.line X.env = pure false := by rfl) (hf : X.fn x = true ∨ X.env.scope.names.lookup x = some .local := by first | exact .inl rfl | exact .inr rfl) :
    VS X (.Assign [.Name x p'] e pos) (asgM i f) (tor T (T1' i)) := vs_asg hN hi hx he hs hf
theorem gnm {i : Nat} (hN : X.N.Nodup) (hi : X.N[i]? = some x := by rfl) (hx : Loc X.env.scope x := by first | exact Or.inl rfl | exact Or.inr rfl) (hf : X.fn x = true ∨ X.env.scope.names.lookup x = some .local := by first | exact .inl rfl | exact .inr rfl) : VGt X (.Name x pos) (gnM i) (T1' i) := vg_nm hN hi hx hf
theorem sfor {fi : M (List D)} {gt : D → M Unit} {fb' : M Fl} {srcs : List Nat} {body : List Stmt} (hi : VI X tg iter fi Ti srcs) (hg : VGt X tg gt Tg) (hb : VSs X body fb' Tb) (hp : ∀ W, Takes X W → PassesOwn (model X.prog X.w) X.A X.env X.xe) (hc : X.calm = true := by rfl) (hu : ∀ i ∈ srcs, tor Tg Tb i = false := by first | (intro i h; exact absurd h List.not_mem_nil) | (intro i h; have e := List.mem_singleton.mp h; subst e; rfl) | (intro i h; simp at h; rcases h with rfl | rfl <;> rfl)) (hs : ∀ x, foldedSetIterable iter X.env x = pure x := by intro _; rfl) :
    VS X (.For tg iter body [] pos) (forS fi gt fb') (tor Ti (tor Tg Tb)) := vs_for hp hc hi hg hb hu hs
theorem elc {fi : M (List D)} {gt : D → M Unit} {ft : M Bool} {ifs : List Expr} {scope : Scope} {srcs : List Nat} (own : List (Str × Nat)) (hN : X.N.Nodup) (hi : VI X tg iter fi Ti srcs)
    (hg : ∀ (s : Shared) (H : Hp) (C : Addr) (cl : List (Str × Addr)) (fp : List Addr), VGt (X.blk s H scope (compEnvC scope cl C X.env) fp) tg gt Tg)
    (ht : ∀ (s : Shared) (H : Hp) (C : Addr) (cl : List (Str × Addr)) (fp : List Addr), VTs (X.blk s H scope (compEnvC scope cl C X.env) fp) ifs ft Tt)
    (he : ∀ (s : Shared) (H : Hp) (C : Addr) (cl : List (Str × Addr)) (fp : List Addr), VE (X.blk s H scope (compEnvC scope cl C X.env) fp) elt fe Te none)
    (ok : blkC X.N X.env.scope scope own = true := by first | rfl | kernel_rfl) (hT : ∀ j, Tg j = true → j ∈ own.map (·.2) := by intro j h; simp at h; simp [h]) (hu : ∀ i ∈ srcs, i ∉ own.map (·.2) ∧ Tt i = false ∧ Te i = false := by first | (intro i h; exact absurd h List.not_mem_nil) | (intro i h; have e := List.mem_singleton.mp h; subst e; exact ⟨by decide, rfl, rfl⟩) | (intro i h; simp at h; rcases h with rfl | rfl <;> exact ⟨by decide, rfl, rfl⟩)) (hc : X.calm = true := by rfl) (hs : ∀ x, foldedSetIterable iter X.env x = pure x := by intro _; rfl) :
    VE X (.ListComp elt [⟨tg, iter, ifs, 0⟩] scope pos) (compM (own.map (·.2)) fi gt ft fe) (tor Ti (tor Tt Te)) none := ve_lc hc hN ok hi hg ht he hT hu hs
theorem slc {i : Nat} {fi : M (List D)} {gt : D → M Unit} {ft : M Bool} {ifs : List Expr} {scope : Scope} {srcs : List Nat} (own : List (Str × Nat)) (hN : X.N.Nodup) (hi : VI X tg iter fi Ti srcs)
    (hg : ∀ (s : Shared) (H : Hp) (C : Addr) (cl : List (Str × Addr)) (fp : List Addr), VGt (X.blk s H scope (compEnvC scope cl C X.env) fp) tg gt Tg)
    (ht : ∀ (s : Shared) (H : Hp) (C : Addr) (cl : List (Str × Addr)) (fp : List Addr), VTs (X.blk s H scope (compEnvC scope cl C X.env) fp) ifs ft Tt)
    (he : ∀ (s : Shared) (H : Hp) (C : Addr) (cl : List (Str × Addr)) (fp : List Addr), VE (X.blk s H scope (compEnvC scope cl C X.env) fp) elt fe Te none)
    (hy : X.N[i]? = some y := by rfl) (hyl : X.env.scope.names.lookup y = some .local := by rfl) (hsw : swapsWith (.ListComp elt [⟨tg, iter, ifs, 0⟩] scope pos) (some (.Name y py)) spos.line X.env = pure true := by exact L2.sw_true rfl rfl rfl (by decide +kernel))
    (ok : blkC X.N X.env.scope scope own = true := by first | rfl | kernel_rfl) (hT : ∀ j, Tg j = true → j ∈ own.map (·.2) := by intro j h; simp at h; simp [h]) (hu : ∀ i ∈ srcs, i ∉ own.map (·.2) ∧ Tt i = false ∧ Te i = false := by first | (intro i h; exact absurd h List.not_mem_nil) | (intro i h; have e := List.mem_singleton.mp h; subst e; exact ⟨by decide, rfl, rfl⟩) | (intro i h; simp at h; rcases h with rfl | rfl <;> exact ⟨by decide, rfl, rfl⟩)) (hc : X.calm = true := by rfl) (hs : ∀ x, foldedSetIterable iter X.env x = pure x := by intro _; rfl) :
    VS X (.Assign [.Name y py] (.ListComp elt [⟨tg, iter, ifs, 0⟩] scope pos) spos) (asgM i (compM (own.map (·.2)) fi gt ft fe)) (tor (tor Ti (tor Tt Te)) (T1' i)) := vs_setlc hc hN hy hyl hsw ok hi hg ht he hT hu hs
theorem ecall {d : DefI} {k : Nat} {φ : List D → CRes} {g : M (List Arg)} (C : CallOk X.prog X.w X.K X.mg X.base k d φ) (hr : Room k X.A) (ha : VG X (e :: es) g T) (ln : GLen g d.ps.length) (hg : Gl X d.x := by rfl)
    (hdb : (d.x == ("__debug__" : Str)) = false := by decide) (he : starEach (e :: es) X.env = (false, eval e X.env) :: starEach es X.env := by rfl) (hpl : ∀ pos, (backTo pos (starEach es X.env)).any (·.1) = false := by intro _; rfl) :
    VE X (.Call (.Name d.x p) (e :: es) [] pos) (callM φ g) T none := ve_calld C rfl hr hg ha ln hdb he hpl
theorem eb1 {id : String} {g : D → Option D} (h : Call1D X (.builtin id) g) (hm : X.mg x = none) (hv : bootBuiltins x = some (.builtin id)) (ha : VE X a fa Ta sa) (hg : Gl X x := by rfl) (he : starEach [a] X.env = (false, eval a X.env) :: starEach [] X.env := by rfl) (hn : x ≠ "__name__" := by decide) (hdb : (x == ("__debug__" : Str)) = false := by decide)
    (hpl : ∀ pos, (backTo pos (starEach ([] : List Expr) X.env)).any (·.1) = false := by intro _; rfl) : VE X (.Call (.Name x p) [a] [] pos) (oneM fa g) Ta none := ve_b1 h hg hm hv ha he hn hdb hpl
theorem et1 {t : String} {g : D → Option D} (h : Call1D X (.type t) g) (hm : X.mg x = none) (hv : bootBuiltins x = some (.type t)) (ha : VE X a fa Ta sa) (hg : Gl X x := by rfl) (he : starEach [a] X.env = (false, eval a X.env) :: starEach [] X.env := by rfl) (hn : x ≠ "__name__" := by decide) (hdb : (x == ("__debug__" : Str)) = false := by decide)
    (hpl : ∀ pos, (backTo pos (starEach ([] : List Expr) X.env)).any (·.1) = false := by intro _; rfl) : VE X (.Call (.Name x p) [a] [] pos) (oneM fa g) Ta none := ve_t1 h hg hm hv ha he hn hdb hpl
theorem irange1 (hm : X.mg "range" = none) (ha : VE X a fa Ta sa) (hg : Gl X "range" := by rfl) (hs : starEach [a] X.env = [(false, eval a X.env)] := by rfl) : VI X tg (.Call (.Name "range" p) [a] [] pos) (range1I fa) Ta [] := vi_range1 hg hm ha hs
theorem irange2 (hm : X.mg "range" = none) (ha : VE X a fa Ta sa) (hb : VE X b fb Tb sb) (hg : Gl X "range" := by rfl) (hs : starEach [a, b] X.env = [(false, eval a X.env), (false, eval b X.env)] := by rfl) (hs2 : starEach [b] X.env = [(false, eval b X.env)] := by rfl) : VI X tg (.Call (.Name "range" p) [a, b] [] pos) (range2I fa fb) (tor Ta Tb) [] := vi_range2 hg hm ha hb hs hs2
theorem ienum {kk : Nat} {tpos : Pos} {elts : List Expr} (hm : X.mg "enumerate" = none) (ha : VE X a f T s) (hg : Gl X "enumerate" := by rfl) (hs : starEach [a] X.env = [(false, eval a X.env)] := by rfl) : VI X (.Tuple elts kk tpos) (.Call (.Name "enumerate" p) [a] [] pos) (enumI f) T s.toList := vi_enum hg hm ha hs
end
end VI
/-! V23: own exceptions with an __init__ of their own -/
namespace VI
open PySem PySem.Spec L2
theorem lt150 {A : Around} {k : Nat} (hr : Room k A) : A.units + 150 < cLine := by have := hr.un; omega
section
variable {X : Cx} {o e : Expr} {es : List Expr} {to te : TE} {ta : TA} {f x : Str} {p p' p1 p2 pos : Pos}
/-- what an own class without own __init__ must say, so that C.__init__ is ValueError's -/
structure HeC (K : PySem.W.Frag) (C : Addr) : Prop where
  sg : PySem.W.specialIn K (.ref C) "__getattribute__" = some (some (.builtin "type.__getattribute__"))
  rd : PySem.W.readsIn K C (.type "type") = true
  vv : PySem.W.findCls K (.ref C) (.type "type") "__init__" = some (.val (.builtin "ValueError.__init__"))
theorem pe_heinit {C0 : Addr} {pl : Sem Bool} (T0 : HeC X.K C0) (hg : Gl X x) (hm : X.mg x = some (.ref C0)) (ha : PA X (e :: es) ta) (hdb : (x == ("__debug__" : Str)) = false)
    (hc : eval (.Call (.Attribute (.Name x p1) "__init__" p2) (e :: es) [] pos) X.env = (do
      let ov ← eval (.Name x p1) X.env
      standAt p2.atName
      let (f, first) ← holding [ov] (getMethod ov "__init__" pl)
      callWith pos f first (backTo pos (starEach (e :: es) X.env)) (backToKw pos (keywordEach [] X.env))) := by rfl)
    (he : starEach (e :: es) X.env = (false, eval e X.env) :: starEach es X.env := by rfl) (hpl : (backTo pos (starEach es X.env)).any (·.1) = false := by rfl) :
    PE X (.Call (.Attribute (.Name x p1) "__init__" p2) (e :: es) [] pos) (tVeI X.K ta) := by
  refine ⟨fun pins s σ H Q I h => ?_⟩
  refine PySem.W.methodCall_KW (ld_glob I hg hm ?_ hdb) hc
  refine PySem.W.method_cls I.kIn T0.sg ?_
  refine PySem.W.cls_value I.kIn T0.rd T0.vv (by decide +kernel) ?_
  show wpAny _ _ (callWith pos (Value.builtin "ValueError.__init__") [] (backTo pos (starEach (e :: es) X.env)) []) _ _ _
  refine PyProof.Rows.callWith_method1 (thn (ha.run pos pins _ σ H _ (I.tok _) h) fun us s1 ⟨vs, H1, I1, r1, a, C, ws, ev, hl, T, ea, q⟩ => ?_) he hpl
  subst ev
  cases r1 with
  | @cons _ u0 _ ur ra rw' =>
    obtain rfl : u0 = Value.ref a := ra
    have hlen : ur.length ≤ sizeLine := by
      rw [← Paired.length rw', sizeLine_eq]
      omega
    exact oinit_ok T I1 ea hlen fun s' J => ⟨.non, H1, J, rfl, q⟩
/-- the promise of an __init__ that calls the base's and keeps its one argument -/
def spBT (C : Addr) (f : Str) : Sp := fun vs H Q _ => ∃ a y, vs = [.ref a, y] ∧ H a = some (exo a C none) ∧ ∀ dx, H dx = none → dx ≠ a → Q .non (upd (upd H dx (exd dx [(f, y)])) a (exo a C (some dx)))
/-- C(e), as a value -/
def tMkV (C : Addr) (sp : Sp) (ta : TA) : TE := fun σ H Q => ta σ H fun vs H1 => vs.length ≤ 1000 ∧ ∀ a, H1 a = none → sp (.ref a :: vs) (upd H1 a (exo a C none))
  (fun v H2 => v = .non ∧ ∃ (d : Addr) (fs : List (Str × V)), H2 a = some (exo a C (some d)) ∧ H2 d = some (exd d fs) ∧ d ≠ a ∧ Q (.ref a) (upd (upd H2 d (.xd fs)) a (ExO (.ref C) (some d) a))) (fun _ _ _ => False)
theorem pe_mkv {CX : CXT} {C fI : Addr} {k : Nat} {fd : FuncData} {ps : List Str} {sp : Sp} (T : OexC X.K C) (iC : PySem.W.findIn X.K (.ref C) "__init__" = some (some (.ref fI))) (tI : PySem.W.typeIn X.K (.ref fI) = some (.type "function"))
    (F1 : FnOk X.prog X.w X.K X.mg X.base CX k fI fd ps sp) (hr : Room (k + 1) X.A) (hb : Binds X.K fd ps []) (hx : Passes CX X (fun _ _ _ => False)) (hg : Gl X x) (hm : X.mg x = some (.ref C)) (ha : PA X (e :: es) ta)
    (hdb : (x == ("__debug__" : Str)) = false := by decide) (he : starEach (e :: es) X.env = (false, eval e X.env) :: starEach es X.env := by rfl) (hpl : (backTo pos (starEach es X.env)).any (·.1) = false := by rfl) :
    PE X (.Call (.Name x p) (e :: es) [] pos) (tMkV C sp ta) := by
  refine ⟨fun pins s σ H Q I h => ?_⟩
  obtain ⟨nm, q, N, bs, bm, sn, sub, ab, col, dd, k0, k1, k2, k3, k5, hC, hbm⟩ := T.cls
  refine wpAny_Call_Name_kw (ld_glob I hg hm ?_ hdb)
  refine PySem.W.callWith_K (h₀ := X.base) I.ok.mod.kin T.kC (thn (ha.run pos pins s σ H _ I h) fun us s1 ⟨vs, H1, I1, r1, hz, q1⟩ => ⟨I1.kIn, ?_⟩) he hpl
  show wpAny _ _ (call (.ref C) us) _ _ _
  obtain ⟨hp, g, dr, tk, os⟩ := s1
  have hsz : hp.objs.size ≤ hp.objs.size + 1 := Nat.le_succ _
  have hn : H1 (hp.objs.size + 1) = none := I1.hok.fresh hsz
  have hq := q1 (hp.objs.size + 1) hn
  have kk : ∀ b o, hp.get? b = some o → ((hp.push (PySem.W.kdv_tup us)).push (PySem.HandSPX.excO C hp.objs.size)).get? b = some o := fun b o e => Heap.get?_push_of_some _ (Heap.get?_push_of_some _ e)
  have hget : ((hp.push (PySem.W.kdv_tup us)).push (PySem.HandSPX.excO C hp.objs.size)).get? (hp.objs.size + 1) = some (PySem.HandSPX.excO C hp.objs.size) := by heap_get
  have I2 : L2.Inv X pins σ (upd H1 (hp.objs.size + 1) (exo (hp.objs.size + 1) C none)) ⟨(hp.push (PySem.W.kdv_tup us)).push (PySem.HandSPX.excO C hp.objs.size), g, dr, tk, os⟩ :=
    I1.laid (t' := tk) (a := hp.objs.size + 1) (o := exo (hp.objs.size + 1) C none) (h' := (hp.push (PySem.W.kdv_tup us)).push (PySem.HandSPX.excO C hp.objs.size)) kk hsz (exo_ok hget)
  have r2 : Vals (V.ref (hp.objs.size + 1) :: vs) (Value.ref (hp.objs.size + 1) :: us) := .cons rfl r1
  have hl : (Value.ref (hp.objs.size + 1) :: us).length = ps.length := by
    have e := r2.length
    rw [F1.len _ _ _ _ hq] at e
    exact e.symm
  have hus : us.length ≤ sizeLine := by
    rw [← Paired.length r1, sizeLine_eq]
    omega
  have hbb := hb _ (Value.ref (hp.objs.size + 1) :: us) I2.kIn (by simpa using hl)
  rw [List.append_nil] at hbb
  refine wpAny_call (PySem.HandSPX.call_own F.excBase_ValueError (fun Y => PySem.HandSPX.refsVE_contains Y bm hbm) (I1.kIn _ _ hC) (PySem.W.looks_findIn I1.kIn iC) (fun self => PySem.W.bind_fn I1.kIn self tI) hus
    (codeAny_mono (F1.run _ X.stack _ _ ⟨Value.ref (hp.objs.size + 1) :: us, []⟩ (Value.ref (hp.objs.size + 1) :: us) _ _ (fun _ _ _ => False) (hr.make C us []) (I2.env0.make C us []) hbb r2 hq) fun r s' hq' => ?_))
  cases r with
  | error er => exact hx pins σ _ _ er s' I2 hq'
  | ok fl =>
    cases fl with
    | ret u =>
      obtain ⟨v, H2, os2, bare2, un2, hok2, rv, ev, d, fs, ea, ed, hda, q2⟩ := hq'
      subst ev
      have J : L2.Inv X pins σ H2 s' := I2.call' (ch := []) os2 un2 hok2 bare2 (fun b z => absurd z (by simp))
      obtain ⟨t0, hoe⟩ := exo_at J.hok ea
      obtain ⟨mA, hns, rel⟩ := exd_at J.hok ed
      have J2 : L2.Inv X pins σ (upd H2 d (.xd fs)) s' := by
        have := J.write (t' := s'.toks) (x := d) (e := d) (o := .xd fs) (h' := s'.heap) (by rw [ed]; exact True.intro) (.inl rfl) (fun _ _ _ z => z) (by obtain ⟨od, es, ep, e1, _⟩ := hns; exact ⟨_, e1⟩) ⟨mA, hns, rel⟩
        exact this
      have J3 : L2.Inv X pins σ (upd (upd H2 d (.xd fs)) (hp.objs.size + 1) (ExO (.ref C) (some d) (hp.objs.size + 1))) s' := by
        have := J2.write (t' := s'.toks) (x := hp.objs.size + 1) (e := hp.objs.size + 1) (o := ExO (.ref C) (some d) (hp.objs.size + 1)) (h' := s'.heap) (by rw [upd_ne (Ne.symm hda), ea]; exact True.intro) (.inl rfl) (fun _ _ _ z => z) ⟨_, hoe⟩ (vexO_ok hoe ⟨rfl, rfl⟩ rfl)
        exact this
      exact ⟨rv, V.ref (hp.objs.size + 1), _, J3, rfl, q2⟩
    | next => exact False.elim hq'
    | brk => exact False.elim hq'
    | cont => exact False.elim hq'
end
structure MkxOk (P : Program) (w : World) (K : PySem.W.Frag) (mg : Mg) (base : Heap) (x f : Str) : Prop where
  ex : ∃ (C fI : Addr) (fd : FuncData) (y : Str), OexC K C ∧ PySem.W.findIn K (.ref C) "__init__" = some (some (.ref fI)) ∧ PySem.W.typeIn K (.ref fI) = some (.type "function") ∧ FnOk P w K mg base (L2.CX P w) 1 fI fd [("self" : Str), y] (spBT C f) ∧ Binds K fd [("self" : Str), y] [] ∧ mg x = some (.ref C)
def mkxM (c f : Str) (fa : M D) : M D := bnd fa fun d => if d.own then bad else pur (.exc c [(f, d)])
def xfD (f : Str) : D → Option D
  | .exc _ fs => match fAt fs f with
    | some d => if d.own then none else some d
    | none => none
  | _ => none
section
variable {X : Cx} {e : Expr} {p pos : Pos} {fa : M D} {Ta : Nat → Bool} {sa : Option Nat} {x f n : Str}
theorem ve_mkx (M : MkxOk X.prog X.w X.K X.mg X.base x f) (hr : Room 2 X.A) (he : VE X e fa Ta none) (hg : Gl X x := by rfl) (hdb : (x == ("__debug__" : Str)) = false := by decide) (hs : starEach (e :: []) X.env = (false, eval e X.env) :: starEach [] X.env := by rfl) (hpl : (backTo pos (starEach [] X.env)).any (·.1) = false := by rfl)
    (hx : Passes (L2.CX X.prog X.w) X (fun _ _ _ => False) := by exact L2.passL) : VE X (.Call (.Name x p) [e] [] pos) (mkxM x f fa) Ta none := by
  obtain ⟨C, fI, fd, y, T, iC, tI, F1, B, m⟩ := M.ex
  refine ⟨fun W tk => pe_imp (pe_mkv T iC tI F1 hr B hx hg m (pa_cons (he.run W tk) pa_nil hs) hdb hs hpl) fun σ H Q ⟨Z, env, Fs, S, c⟩ => ⟨Z, env, Fs, S, ?_⟩⟩
  unfold mkxM bnd at c
  cases q : fa env with
  | err => rw [q] at c; exact c.elim
  | exc z fs e1 => rw [q] at c; exact c
  | ok d e1 =>
    rw [q] at c
    dsimp only at c
    intro v H1 Z1 Fs1 F1' S1 t1 r1 p1
    split at c
    · exact c.elim
    · rename_i ho
      have e0 := r1.unown (by simpa using ho)
      rw [e0] at r1
      have c := Cont.step (T2 := T0) c t1 fun i q => ⟨q, rfl⟩
      refine ⟨by simp, fun a ha => ⟨a, v, rfl, upd_same, fun dx hdx hne => ⟨rfl, dx, _, upd_same, (by rw [upd_ne hne, upd_same]), hne, ?_⟩⟩⟩
      have hdx1 : H1 dx = none := by rw [upd_ne hne] at hdx; exact hdx
      have ot : ∀ b, b ≠ a → b ≠ dx → (upd (upd (upd (upd (upd H1 a (exo a C none)) dx (exd dx [(f, v)])) a (exo a C (some dx))) dx (.xd [(f, v)])) a (ExO (.ref C) (some dx) a)) b = H1 b := fun b h1 h2 => by
        rw [upd_ne h1, upd_ne h2, upd_ne h1, upd_ne h2, upd_ne h1]
      have ea : (upd (upd (upd (upd (upd H1 a (exo a C none)) dx (exd dx [(f, v)])) a (exo a C (some dx))) dx (.xd [(f, v)])) a (ExO (.ref C) (some dx) a)) a = some (ExO (.ref C) (some dx) a) := upd_same
      have ed : (upd (upd (upd (upd (upd H1 a (exo a C none)) dx (exd dx [(f, v)])) a (exo a C (some dx))) dx (.xd [(f, v)])) a (ExO (.ref C) (some dx) a)) dx = some (.xd [(f, v)]) := by rw [upd_ne hne, upd_same]
      generalize (upd (upd (upd (upd (upd H1 a (exo a C none)) dx (exd dx [(f, v)])) a (exo a C (some dx))) dx (.xd [(f, v)])) a (ExO (.ref C) (some dx) a)) = H3 at ot ea ed
      have al : Alloc Z1 H1 (fun b => Z1 b ∨ b = a ∨ b = dx) H3 [] := ⟨fun b o h => by rw [ot b (ne_of_none h ha) (ne_of_none h hdx1)]; exact h, fun b h => .inl h, fun b h => by
        rcases h with h | rfl | rfl
        · exact .inl h
        · exact .inr ⟨ha, _, ea⟩
        · exact .inr ⟨hdx1, _, ed⟩, List.nodup_nil, fun _ h => by simp at h⟩
      refine Cont.ret S1 c al ?_
      simp only [Rep]
      refine ⟨a, C, some dx, [v], rfl, m, ea, .inr (.inl rfl), trivial, ?_, .inr ⟨dx, rfl, ed, .inr (.inr rfl)⟩⟩
      simp only [Repf]
      exact ⟨v, [], [], [], rfl, r1.stay (al.stay S1.zs) (fun _ h => by simp at h), ⟨rfl, rfl⟩, rfl⟩
/-- e.n of an exception that is held as a value -/
theorem repf_at {K : PySem.W.Frag} {mg : Mg} {Z : Addr → Prop} {H : Hp} : ∀ {xs : List (Str × D)} {vs : List V} {k : Str} {x : D}, Repf K mg Z H xs vs [] → fAt xs k = some x → ∃ v, ((xs.map (·.1)).zip vs).lookup k = some v ∧ Rep K mg Z H x v [] := fun {xs vs k x} r h => by
  obtain ⟨v, F1, h1, h2, h3, _⟩ := Repf.focus r h List.nodup_nil
  have : F1 = [] := by
    cases F1 with
    | nil => rfl
    | cons a l => exact absurd (h3.subset List.mem_cons_self) (by simp)
  subst this
  exact ⟨v, h1, h2⟩
def xfM (c : Str) (f : Str) (fa : M D) : M D := oneM fa fun d => match d with
  | .exc c' fs => if c' = c then xfD f (.exc c' fs) else none
  | _ => none
theorem ve_xf {c : Str} (hcl : ∀ C, X.mg c = some (.ref C) → XfC X.K C ∧ PySem.W.findIn X.K (.ref C) n = some none) (he : VE X e fa Ta sa) (hb : attributeBase e n X.env (eval e X.env) = eval e X.env := by rfl) : VE X (.Attribute e n pos) (xfM c n fa) Ta none := by
  refine ⟨fun W tk => pe_imp (t := fun σ H Q => tE X.K X.mg fa Ta sa W σ H fun x H1 => ∃ a C dd fs v, x = .ref a ∧ X.mg c = some (.ref C) ∧ H1 a = some (ExO (.ref C) (some dd) a) ∧ H1 dd = some (.xd fs) ∧ fs.lookup n = some v ∧ Q v H1) ⟨fun pins s σ H Q I h => ?_⟩ fun σ H Q h => tE_one (r := fun x H1 Q => ∃ a C dd fs v, x = .ref a ∧ X.mg c = some (.ref C) ∧ H1 a = some (ExO (.ref C) (some dd) a) ∧ H1 dd = some (.xd fs) ∧ fs.lookup n = some v ∧ Q v H1) (fun {Z H d1 d v1 F1 Q} zs ra e res => ?_) h⟩
  · refine attr_of hb (thn ((he.run W tk).run pins s σ H _ I h) fun u s1 hh => ?_)
    obtain ⟨x, H1, I1, rx, a, C, dd, fs, v, ex, em, ea, ed, l, q⟩ := hh
    subst ex
    obtain rfl : u = Value.ref a := rx
    obtain ⟨T, hno⟩ := hcl C em
    obtain ⟨⟨oe, vs, ho, hz, hdat⟩, _⟩ := I1.hok a _ ea
    have hx : ObjOk X.prog X.w H1 s1.heap dd (.xd fs) := I1.hok dd _ ed
    obtain ⟨mA, hns, hr⟩ := hx
    obtain ⟨od, hod, hl⟩ := lookIn_ns hns
    obtain ⟨u, hu, ru⟩ := RelO.some_of (v := v) (o := mA n) (by rw [← l]; exact hr n)
    have J : PySem.W.InstAt s1.heap a oe C (some od) := ⟨ho, hz.1, by unfold PySem.W.notCls; rw [hdat] <;> rfl, by rw [hz.2]; exact hod⟩
    exact HandSPX.exc_get I1.kIn J T.ga T.gg T.exC (PySem.W.findObj_own T.hdC hno rfl (by rw [hl, hu])) (handed_of ru) ⟨v, H1, I1.tok _, ru, q⟩
  · split at e
    · rename_i c' fs
      split at e
      · rename_i hc
        subst hc
        simp only [xfD] at e
        split at e
        · rename_i d0 hd0
          split at e
          · cases e
          · rename_i ho
            cases e
            simp only [Rep] at ra
            obtain ⟨a, C, dd, vs, rfl, m, t, z, _, rf, y⟩ := ra
            obtain ⟨v, h1, h2⟩ := repf_at rf hd0
            rcases y with ⟨rfl, _⟩ | ⟨dx, rfl, y2, y3⟩
            · simp [fAt] at hd0
            · exact ⟨a, C, dx, _, v, rfl, m, t, y2, h1, res_flat zs res h2⟩
        · cases e
      · cases e
    · cases e
end
end VI
/-! V24: what the top has written, in short -/
namespace VI
open PySem PySem.Spec L2
def excB (K : PySem.W.Frag) (D : Addr) : Bool :=
  decide (PySem.W.findIn K (.ref D) "__getattribute__" = some (some (.builtin "BaseException.__getattribute__"))) && decide (PySem.W.findIn K (.ref D) "__getattr__" = some none) && decide (PySem.W.subIn K (.ref D) (.type "BaseException") = some true) && PySem.W.hasDictIn K D &&
  decide (PySem.W.findIn K (.ref D) "__class__" = some (some (.builtin "object.__class__"))) && decide (PySem.W.specialIn K (.builtin "object.__class__") "__get__" = some (some (.builtin "getset_descriptor.__get__"))) && decide (PySem.W.takesIn K (.builtin "object.__class__") = some true) && decide (PySem.W.mroIn K D (.type "object") = some true)
theorem excB_ok {K : PySem.W.Frag} {D : Addr} (h : excB K D = true) : ExcC K D := by
  unfold excB at h
  simp only [Bool.and_eq_true, decide_eq_true_eq] at h
  obtain ⟨⟨⟨⟨⟨⟨⟨h1, h2⟩, h3⟩, h4⟩, h5⟩, h6⟩, h7⟩, h8⟩ := h
  exact ⟨h1, h2, h3, h4, h5, h6, h7, h8⟩
def teB (K : PySem.W.Frag) (ans : Value → Option Bool) (l : List (Str × Addr × Bool)) : Bool := l.all fun q => excB K q.2.1 && decide (ans (.ref q.2.1) = some q.2.2)
def tbB (ans : Value → Option Bool) (l : List (String × Bool)) : Bool := l.all fun q => decide (ans (.type q.1) = some q.2)
theorem te_of {K : PySem.W.Frag} {mg : Mg} {ans : Value → Option Bool} (l : List (Str × Addr × Bool)) (hg : ∀ q ∈ l, mg q.1 = some (.ref q.2.1)) (hb : teB K ans l = true) : ∀ p ∈ l.map (fun q => (q.1, q.2.2)), ∀ C, mg p.1 = some (.ref C) → ExcC K C ∧ ans (.ref C) = some p.2 := by
  intro p hp C hC
  obtain ⟨q, hq, rfl⟩ := List.mem_map.mp hp
  have h1 := hg q hq
  simp only at hC
  rw [h1] at hC
  cases hC
  have := List.all_eq_true.mp hb q hq
  simp only [Bool.and_eq_true, decide_eq_true_eq] at this
  exact ⟨excB_ok this.1, this.2⟩
theorem tb_of {ans : Value → Option Bool} {l : List (String × Bool)} (hb : tbB ans l = true) : ∀ p ∈ l, ans (.type p.1) = some p.2 := by
  intro p hp
  have := List.all_eq_true.mp hb p hp
  simpa using this
theorem FnOk.law {P : Program} {w : World} {K : PySem.W.Frag} {mg : Mg} {base : Heap} {k : Nat} {f : Addr} {fd : FuncData} {x : Str} {φ : List D → CRes} (F : FnOk P w K mg base (L2.CX P w) k f fd [x] (spOf K mg 1 φ)) (h : ∀ ns : List Int, ns.length ≤ 63 → ∃ fin, φ [scriptD ns] = .ok (.bl true) fin) :
    FnOk P w K mg base (L2.CX P w) k f fd [x] (spLaw K) := F.imp (law_sp h)
end VI
/-! V25: loops, by invariants; arithmetic; for the pure parts -/
namespace VI
open PySem PySem.Spec L2
theorem forM_run {gt : D → M Unit} {fb : M Fl} (P : Nat → Env → Prop) : ∀ (ds : List D) (i : Nat) (env : Env), P i env → (∀ j d e, ds[j]? = some d → P (i + j) e → d.own = false ∧ ∃ e1 e2, gt d e = .ok () e1 ∧ fb e1 = .ok .nx e2 ∧ P (i + j + 1) e2) → ∃ e', forM gt fb ds env = .ok .nx e' ∧ P (i + ds.length) e'
  | [], i, env, h, _ => ⟨env, rfl, h⟩
  | d :: ds, i, env, h, k => by
    obtain ⟨ho, e1, e2, h1, h2, h3⟩ := k 0 d env rfl h
    obtain ⟨e', q1, q2⟩ := forM_run P ds (i + 1) e2 h3 fun j d e hd hp => by
      have := k (j + 1) d e (by simpa using hd) (by rw [show i + (j + 1) = i + 1 + j by omega]; exact hp)
      rw [show i + (j + 1) + 1 = i + 1 + j + 1 by omega] at this
      exact this
    refine ⟨e', ?_, by rw [List.length_cons, show i + (ds.length + 1) = i + 1 + ds.length by omega]; exact q2⟩
    unfold forM
    rw [if_neg (by rw [ho]; exact Bool.false_ne_true)]
    unfold gtb
    rw [h1]
    show bnd fb _ e1 = _
    unfold bnd
    rw [h2]
    exact q1
theorem compLoop_run {gt : D → M Unit} {ft : M Bool} {fe : M D} {vs : List Nat} (P : Nat → List D → Env → Prop) : ∀ (ds : List D) (i : Nat) (acc : List D) (env : Env), P i acc env →
    (∀ j d acc e, ds[j]? = some d → P (i + j) acc e → d.own = false ∧ ∃ e1 e2 e3 y, gt d e = .ok () e1 ∧ ft e1 = .ok true e2 ∧ fe e2 = .ok y e3 ∧ acc.length < 16777216 ∧ P (i + j + 1) (acc ++ [y]) (e3.dropL vs)) → ∃ out e', compLoop gt ft fe vs ds acc env = .ok out e' ∧ P (i + ds.length) out e'
  | [], i, acc, env, h, _ => ⟨acc, env, rfl, h⟩
  | d :: ds, i, acc, env, h, k => by
    obtain ⟨ho, e1, e2, e3, y, h1, h2, h3, h4, h5⟩ := k 0 d acc env rfl h
    obtain ⟨out, e', q1, q2⟩ := compLoop_run P ds (i + 1) (acc ++ [y]) (e3.dropL vs) h5 fun j d acc e hd hp => by
      have := k (j + 1) d acc e (by simpa using hd) (by rw [show i + (j + 1) = i + 1 + j by omega]; exact hp)
      rw [show i + (j + 1) + 1 = i + 1 + j + 1 by omega] at this
      exact this
    refine ⟨out, e', ?_, by rw [List.length_cons, show i + (ds.length + 1) = i + 1 + ds.length by omega]; exact q2⟩
    simp only [compLoop, h1, h2, h3, ho, if_pos h4, Bool.false_eq_true, if_false]
    exact q1
theorem mulI_r {i j : Int} (h1 : -18446744073709551616 < j) (h2 : j < 18446744073709551616) : mulI (.int i) (.int j) = some (.int (i * j)) := by simp [mulI, h1, h2]
theorem mulI_l {i j : Int} (h1 : -18446744073709551616 < i) (h2 : i < 18446744073709551616) : mulI (.int i) (.int j) = some (.int (i * j)) := by simp [mulI, h1, h2]
theorem modD_p {i j : Int} (h : 0 < j) : modD (.int i) (.int j) = some (.int (i % j)) := by simp [modD, h]
theorem fdivD_p {i j : Int} (h : 0 < j) (h2 : j < 1073741824) : fdivD (.int i) (.int j) = some (.int (i / j)) := by simp [fdivD, h, h2]
theorem ixN_pos {n : Nat} {i : Int} (h0 : 0 ≤ i) (h1 : i < n) : ixN n i = some i.toNat := by unfold ixN; rw [if_pos h0, if_pos h1]
theorem rangeD_get {lo hi : Int} {j : Nat} {d : D} (h : (rangeD lo hi)[j]? = some d) : d = .int (lo + j) ∧ (j : Int) < hi - lo := by
  unfold rangeD at h
  rw [List.getElem?_map] at h
  by_cases hj : j < (hi - lo).toNat
  · rw [List.getElem?_range hj] at h
    simp only [Option.map_some, Option.some.injEq] at h
    exact ⟨h.symm, by omega⟩
  · rw [List.getElem?_eq_none (by simpa using hj)] at h
    simp at h
theorem rangeD_len {lo hi : Int} : (rangeD lo hi).length = (hi - lo).toNat := by simp [rangeD]
theorem owns_map {α : Type} (f : α → D) (h : ∀ a, (f a).own = false) (l : List α) : D.owns (l.map f) = false := by
  induction l with
  | nil => rfl
  | cons x l ih => simp [D.owns, h, ih]
theorem seq_nx {f g : M Fl} {e e1 : Env} (h : f e = .ok .nx e1) : seqM f g e = g e1 := by
  unfold seqM bnd
  rw [h]
theorem runB_rt {n : Nat} {body : M Fl} {ds fin : List D} {d : D} {e : Env} (h : body (env0 n ds) = .ok (.rt d) e) (hf : finL ds e.s = some fin) : runB n body ds = .ok d fin := by
  unfold runB
  rw [h]
  simp only [hf]
theorem script_own (ns : List Int) : (scriptD ns).own = false := by simp [scriptD, D.own, owns_map D.int (fun _ => rfl)]
theorem finL_script (ns : List Int) (s : List (Option D)) : finL [scriptD ns] s = some [scriptD ns] := by
  cases s <;> simp [finL, script_own]
theorem compM_run {vs : List Nat} {fi : M (List D)} {gt : D → M Unit} {ft : M Bool} {fe : M D} {env e1 : Env} {ds : List D} (P : Nat → List D → Env → Prop) (h : fi env = .ok ds e1) (hs : savedOk e1 vs = true) (h0 : P 0 [] (e1.dropL vs))
    (k : ∀ j d acc e, ds[j]? = some d → P j acc e → d.own = false ∧ ∃ e1 e2 e3 y, gt d e = .ok () e1 ∧ ft e1 = .ok true e2 ∧ fe e2 = .ok y e3 ∧ acc.length < 16777216 ∧ P (j + 1) (acc ++ [y]) (e3.dropL vs)) :
    ∃ out e', compM vs fi gt ft fe env = .ok (.lst true out) (e'.restL e1 vs) ∧ P ds.length out e' := by
  obtain ⟨out, e', q1, q2⟩ := compLoop_run (gt := gt) (ft := ft) (fe := fe) (vs := vs) P ds 0 [] (e1.dropL vs) h0 (fun j d acc e hd hp => by
    have := k j d acc e hd (by simpa using hp)
    simpa using this)
  refine ⟨out, e', ?_, by simpa using q2⟩
  unfold compM bnd
  rw [h]
  simp only [hs, if_true, q1]
end VI
/-! V26: raise; try: .. except C as n: .. -/
namespace VI
open PySem PySem.Spec L2
section
variable {X : Cx} {pins : List (Addr × Obj)} {σ : L2.St} {H : Hp} {s : Shared}
/-- an object that is there, and not of the entry's, is tracked from here on -/
theorem inv_track {a : Addr} {o : HO} (I : L2.Inv X pins σ H s) (na : H a = none) (n0 : X.s_0.heap.get? a = none) (nL : a ≠ X.env.locals) (nC : ∀ x c, X.env.cells.lookup x = some c → c ≠ a) (np : ∀ p ∈ X.pn ++ pins, p.1 ≠ a) (new : ObjOk X.prog X.w (upd H a o) s.heap a o) :
    L2.Inv X pins σ (upd H a o) s := by
  have ne0 : ∀ b u, X.s_0.heap.get? b = some u → b ≠ a := fun b u e z => by
    rw [z, n0] at e
    cases e
  refine ⟨I.ok, I.os, I.bare, ⟨I.base.keep, I.base.slot, fun b u e n hx => ?_, I.base.there, fun b xs e => ?_, fun b u v e => ?_, fun b ps e => ?_⟩, I.loc, I.cell, ?_, fun x c e => ?_, fun p hp => ?_, HOk.laidN I.hok (fun _ _ z => z) na new, I.len⟩
  · rw [upd_ne (ne0 b u e)]
    exact I.base.free b u e n hx
  · have q := I.base.tups b xs e
    rw [upd_ne (ne_of_none q na)]
    exact q
  · have q := I.base.frzs b u v e
    rw [upd_ne (ne_of_none q na)]
    exact q
  · obtain ⟨m, q⟩ := I.base.tbls b ps e
    exact ⟨m, by rw [upd_ne (ne_of_none q na)]; exact q⟩
  · rw [upd_ne (Ne.symm nL)]
    exact I.free
  · rw [upd_ne (nC x c e)]
    exact I.freeC x c e
  · obtain ⟨h1, h2, h3, h4, h5⟩ := I.pin p hp
    exact ⟨h1, by rw [upd_ne (np p hp)]; exact h2, h3, h4, h5⟩
/-- into an except suite, and out of it -/
theorem inv_suite {a : Addr} (I : L2.Inv X pins σ H s) : L2.Inv (X.suite a (X.pn ++ pins)) [] σ H s :=
  ⟨I.ok.suite _ _, I.os, I.bare, I.base, I.loc, I.cell, I.free, I.freeC, fun p hp => I.pin p (by rw [List.append_nil] at hp; exact hp), I.hok, I.len⟩
theorem inv_unsuite {a : Addr} {pn' : List (Addr × Obj)} (I : L2.Inv (X.suite a (X.pn ++ pins)) pn' σ H s) (ok : X.Ok) : L2.Inv X pins σ H s :=
  ⟨ok, I.os, I.bare, I.base, I.loc, I.cell, I.free, I.freeC, fun p hp => I.pin p (List.mem_append_left _ hp), I.hok, I.len⟩
end
/-- what the clause wishes: the exception is tracked in its suite -/
def wKp (K : PySem.W.Frag) (c : Value) (i : Nat) (ts : TS) (Wout : WX) (D : Ends) : WX := fun cls d σ H =>
  ∃ b, PySem.W.exmOne K cls c = some b ∧ (b = true → ∀ a, H a = none → ts { nx := fun σ' H' => D.nx (σ'.set i none) H', rt := D.rt, bk := fun σ' H' => D.bk (σ'.set i none) H', ct := fun σ' H' => D.ct (σ'.set i none) H' } (σ.set i (some (.ref a))) (upd H a (ExO cls d a))) ∧
    (b = false → Wout cls d σ H)
section
variable {X : Cx} {x n : Str} {c : Value} {i : Nat} {body suite : List Stmt} {b₀ : Stmt} {np_ pos pos' : Pos} {tb : WX → TS} {ts : TS} {Wout : WX}
theorem ps_try_kp (hs : X.stack = X.env :: X.outer) (hf : X.env.frame = some X.env.locals) (hN : X.N.Nodup) (hi : X.N[i]? = some n) (hln : X.env.kindOf n = some .local) (hc : Names X x c) (tk : Takes X Wout) (hex : X.ex = [])
    (hb : ∀ (W : WX) (pn : List (Addr × Obj)) (xe : Value → Shared → Prop), Takes (X.tr pn xe) W → PassesOwn (model X.prog X.w) X.A X.env xe → PSs (X.tr pn xe) body (tb W))
    (hsu : ∀ (a : Addr) (pn : List (Addr × Obj)), PSs (X.suite a pn) (b₀ :: suite) ts) :
    PS X (.Try body [.ExceptHandler (some (.Name x np_)) (some n) (b₀ :: suite) pos'] [] [] pos) (fun D σ H => tb (wKp X.K c i ts Wout D) D σ H) := by
  refine ⟨fun pins s σ H D I h => ?_⟩
  have ok := I.ok
  have hfr : X.A.frames = some (X.env :: X.outer) := by rw [ok.frames, hs]
  have hloc : Loc X.env.scope n := .inl hln
  refine wpAny_Try_except ?_
  refine wpAny_mono ((hb (wKp X.K c i ts Wout D) (X.pn ++ pins) (fun e s₁ => wpAny (model X.prog X.w) X.A (noteFrame e X.env) (fun _ s₂ => wpAny (model X.prog X.w) X.A (setFlight e none) (fun _ s₃ =>
    wpAny (model X.prog X.w) X.A (handleBy e X.env [.ExceptHandler (some (.Name x np_)) (some n) (b₀ :: suite) pos']) (SP X pins D) X.xe s₃) X.xe s₂) X.xe s₁) (fun u s' xx => ?_) PassesOwn.looking).run [] s σ H D (I.toTry _) h) (fun f s1 hsp => ?_) (fun e s1 he => he)
  · obtain ⟨a, B, sI, pins', σ', H', cls, d, rfl, J', nb, up, sky, na, os, ag, b, hb1, hyes, hno⟩ := xx
    have J : L2.Inv X pins σ' H' sI := J'.ofTry ok
    have sky' : Sky B (X.env :: X.outer) a (Zc cls d) X.env.locals s'.heap := by rw [← hs]; exact sky
    show wpAny (model X.prog X.w) X.A (noteFrame (.ref a) X.env) _ _ _
    refine Sky.land Zc.steady hfr hf sky' fun h3 fl3 up3 => ?_
    have J3 : L2.Inv X pins σ' H' { s' with heap := h3 } := J.landed nb fl3.1 (up.trans up3) os ag
    obtain ⟨oe3, vs3, he3, hz3, hd3⟩ := fl3.there
    have notFr : ∀ {h : Heap} {o : Obj} {vs : Array Value}, h.FunFrames B (X.env :: X.outer) → h.get? a = some o → o.data = .fields vs → a ∉ frs (X.env :: X.outer) := fun {h o vs} ff e dd hm => by
      obtain ⟨_, o', e', hnf⟩ := ff.mem hm
      rw [e] at e'; cases e'
      exact hnf _ dd
    have nfr := notFr fl3.2.2.1 he3 hd3
    have nL : a ≠ X.env.locals := fun z => nfr (List.mem_filterMap.mpr ⟨X.env, List.mem_cons_self, by rw [hf, z]⟩)
    have nI : sI.heap.get? a = none := by
      cases e : sI.heap.get? a with
      | none => rfl
      | some o =>
        have := nb a o e (by rw [hs]; exact nfr)
        rw [fl3.2.1] at this
        cases this
    have n0 : X.s_0.heap.get? a = none := by
      cases e : X.s_0.heap.get? a with
      | none => rfl
      | some o =>
        obtain ⟨o', e'⟩ := J.base.there a o e (by rw [hex]; intro z; cases z)
        rw [nI] at e'
        cases e'
    have np : ∀ p ∈ X.pn ++ pins, p.1 ≠ a := fun p hp z => by
      have := (J.pin p hp).1
      rw [z, nI] at this
      cases this
    have nC : ∀ x c, X.env.cells.lookup x = some c → c ≠ a := fun x c e z => by
      obtain ⟨v, o, ho, _⟩ := J.cell x c e
      rw [z, nI] at ho
      cases ho
    have nF : a ∉ X.fs := fun hm => by
      obtain ⟨e, he, q⟩ := List.mem_filterMap.mp hm
      exact nfr (List.mem_filterMap.mpr ⟨e, List.mem_cons_of_mem _ he, q⟩)
    have S3 := J3.suite he3 hd3 na nL nF
    refine wpAny_handleBy_cons (codeAny_handlers_test ?_) (by intro q; cases q)
    have LT : PySem.W.Looks (model X.prog X.w) h3 (typeOf (.ref a)) cls := fun A Q E s k q => wpAny_typeOf_ref (k _ _ he3) (by rw [hz3.1]; exact q)
    have LM := PySem.W.exm_one (M := model X.prog X.w) (J3.kIn) LT hb1
    have test : ∀ {Q : Value → Shared → Prop} {E : Value → Shared → Prop}, Q c { s' with heap := h3 } → wpAny (model X.prog X.w) (X.A.mark (some (.ref a))) (eval (.Name x np_) X.env) Q E { s' with heap := h3 } := fun {Q E} q => by
      obtain ⟨hg, hdbg, hm | ⟨hm, hv, hnn⟩⟩ := hc
      · exact ld_glob (X := X.suite a ((a, oe3) :: (X.pn ++ pins))) S3 hg hm q hdbg
      · exact ld_blt (X := X.suite a ((a, oe3) :: (X.pn ++ pins))) S3 hg hm hv q hnn hdbg
    refine test (LM.here ?_)
    cases b with
    | true =>
      refine codeAny_handlers_suite_as ?_
      refine HandSPX.lands_againZ fl3 fun h4 fl4 up4 => ?_
      have J4 : L2.Inv X pins σ' H' { s' with heap := h4 } := J.landed nb fl4.1 ((up.trans up3).trans up4) os ag
      obtain ⟨oe4, vs4, he4, hz4, hd4⟩ := fl4.there
      have J5 : L2.Inv X pins σ' (upd H' a (ExO cls d a)) { s' with heap := h4 } := inv_track J4 na n0 nL nC np (vexO_ok he4 hz4 hd4)
      have S4 : L2.Inv (X.suite a (X.pn ++ pins)) [] σ' (upd H' a (ExO cls d a)) { s' with heap := h4 } := inv_suite J5
      refine L2.store_ok (X := X.suite a (X.pn ++ pins)) (v := .ref a) S4 hN hi hloc rfl (fun s5 S5 => ?_) (.inr hln)
      refine wpAny_mono ((hsu a (X.pn ++ pins)).run [] s5 _ _ _ S5 (hyes rfl a na)) (fun f s6 hsp => ?_) (fun _ _ z => False.elim z)
      have end_ : ∀ {σ6 : L2.St} {H6 : Hp} {Q : Shared → Prop}, L2.Inv (X.suite a (X.pn ++ pins)) [] σ6 H6 s6 → (∀ s7, L2.Inv X pins (σ6.set i none) H6 s7 → Q s7) →
          wpAny (model X.prog X.w) X.A (do bindName X.env n .none; unbindBehindTheSuite X.env n pos') (fun _ s7 => Q s7) X.xe s6 := fun {σ6 H6 Q} S6 hq => gone_ok (inv_unsuite S6 ok) hN hi hln hq
      cases f with
      | next =>
        obtain ⟨σ6, H6, S6, q6⟩ := hsp
        exact end_ S6 fun s7 J7 => ⟨_, _, J7, q6⟩
      | brk =>
        obtain ⟨σ6, H6, S6, q6⟩ := hsp
        exact end_ S6 fun s7 J7 => ⟨_, _, J7, q6⟩
      | cont =>
        obtain ⟨σ6, H6, S6, q6⟩ := hsp
        exact end_ S6 fun s7 J7 => ⟨_, _, J7, q6⟩
      | ret u =>
        obtain ⟨v6, σ6, H6, S6, r6, q6⟩ := hsp
        exact end_ S6 fun s7 J7 => ⟨_, _, _, J7, r6, q6⟩
    | false =>
      show wpAny _ X.A (handleBy (.ref a) X.env []) _ _ _
      refine wpAny_handleBy_nil ?_
      obtain ⟨k1, k2, k3, oe, vs, T, oT, ts', he, hz, hd, h1, hr⟩ := id fl3
      unfold PySem.passOn
      refine wpAny_bind (wpAny_field he hd h1 ?_)
      rw [if_neg (show ¬ ((Value.ref T == Value.none) = true) from by simp)]
      have fin : wpAny (model X.prog X.w) X.A (setFlight (.ref a) X.env.frame) (fun _ s4 => wpAny (model X.prog X.w) X.A (throw (.ref a) : Sem Flow) (SP X pins D) X.xe s4) X.xe { s' with heap := h3 } := by
        rw [hf]
        refine HandSPX.setFlight_upZ fl3 fun h4 hh4 up4 => wpAny_throw (tk _ _ ?_)
        exact ⟨a, B, sI, pins, σ', H', cls, d, rfl, J, nb, (up.trans up3).trans up4, .inr (.inr (by rw [hs]; exact hh4)), na, os, ag, hno rfl⟩
      first
        | exact wpAny_bind (wpAny_pure (wpAny_bind fin))
        | exact wpAny_bind fin
  · cases f with
    | next =>
      obtain ⟨σ', H', J', q⟩ := hsp
      exact wpAny_execs_nil ⟨σ', H', J'.ofTry ok, q⟩
    | brk =>
      obtain ⟨σ', H', J', q⟩ := hsp
      exact ⟨σ', H', J'.ofTry ok, q⟩
    | cont =>
      obtain ⟨σ', H', J', q⟩ := hsp
      exact ⟨σ', H', J'.ofTry ok, q⟩
    | ret u =>
      obtain ⟨v, σ', H', J', r, q⟩ := hsp
      exact ⟨v, σ', H', J'.ofTry ok, r, q⟩
end
end VI
/-! V27: raise and try as denotations -/
namespace VI
open PySem PySem.Spec L2
def tryM (i : Nat) (te : List (Str × Bool)) (fb fs : M Fl) : M Fl := fun env => match fb env with
  | .ok r e => .ok r e
  | .err => .err
  | .exc c xs e => match te.lookup c with
    | none => .err
    | some false => .exc c xs e
    | some true => if e.p[i]? = some true then .err else if i < e.s.length then (match fs (e.put i (.exc c xs)) with
      | .ok r e2 => .ok r (e2.dropL [i])
      | _ => .err) else .err
def raiseM (c : Str) (fa : M D) : M Fl := bnd fa fun _ env => .exc c [] env
section
variable {K : PySem.W.Frag} {mg : Mg} {Z Z' Z1 Z2 : Addr → Prop} {H H' H1 H2 : Hp} {σ σ1 : L2.St} {env env' env1 env2 : Env} {Fs Fs' Fs1 Fs2 : Nat → List Addr} {T T' T1 T2 : Nat → Bool}
theorem SR.gone (S : SR K mg Z H σ env Fs) (i : Nat) : SR K mg Z H (σ.set i none) (env.dropL [i]) (fsetL Fs [i]) :=
  S.dropL (by simp) fun j hj => List.getElem?_set_ne (by intro e; exact hj (by simp [e]))
theorem Tr.gone (i : Nat) : Tr (T1' i) Z H env Fs Z H (env.dropL [i]) (fsetL Fs [i]) where
  z := fun _ h => h
  zn := fun _ h => .inl h
  keep := fun _ _ h _ => h
  gr := fun _ h => h
  new := fun j a ha => .inl ⟨j, (fsetL_mem ha).1⟩
  un := fun j hj => by
    have ne : j ∉ [i] := by simpa using hj
    exact ⟨dropL_out ne, fsetL_out ne, fun _ _ => rfl⟩
  p := dropL_len.2
theorem VP.gone {i : Nat} {Fd : List Addr} (p : VP none Z H Fs Z' H' Fs' Fd) : VP none Z H Fs Z' H' (fsetL Fs' [i]) Fd :=
  ⟨p.1, fun a ha => ⟨fun j z => (p.2 a ha).1 j (fsetL_mem z).1, (p.2 a ha).2⟩⟩
theorem Pin.gone {p : List Bool} {i : Nat} (h : p[i]? ≠ some true) : Pin p σ (σ.set i none) := fun j hj => List.getElem?_set_ne (fun e => by subst e; exact h hj)
end
section
variable {X : Cx} {x n : Str} {c : Value} {i : Nat} {body suite : List Stmt} {b₀ : Stmt} {np_ pos pos' : Pos} {fb fs : M Fl} {Tb Ts : Nat → Bool}
theorem vs_try {te : List (Str × Bool)} (hs : X.stack = X.env :: X.outer) (hf : X.env.frame = some X.env.locals) (hN : X.N.Nodup) (hi : X.N[i]? = some n) (hln : X.env.kindOf n = some .local) (hc : Names X x c) (hex : X.ex = [])
    (ht : ∀ p ∈ te, ∀ C, X.mg p.1 = some (.ref C) → PySem.W.exmOne X.K (.ref C) c = some p.2)
    (hb : ∀ (pn : List (Addr × Obj)) (xe : Value → Shared → Prop), PassesOwn (model X.prog X.w) X.A X.env xe → VSs (X.tr pn xe) body fb Tb)
    (hsu : ∀ (a : Addr) (pn : List (Addr × Obj)), VSs (X.suite a pn) (b₀ :: suite) fs Ts) :
    VS X (.Try body [.ExceptHandler (some (.Name x np_)) (some n) (b₀ :: suite) pos'] [] [] pos) (tryM i te fb fs) (tor Tb (tor (T1' i) Ts)) := by
  refine ⟨fun W tk => ps_imp (ps_try_kp (tb := fun W' => tS X.K X.mg fb Tb W') (ts := tS X.K X.mg fs Ts (fun _ _ _ _ => False)) hs hf hN hi hln hc tk hex (fun W' pn xe tk' hp => (hb pn xe hp).run W' tk')
    (fun a pn => (hsu a pn).run _ (fun u s' ⟨_, _, _, _, _, _, _, _, _, _, _, _, _, _, _, _, w⟩ => w.elim))) fun D σ H ⟨Z, env, Fs, S, c0⟩ => ⟨Z, env, Fs, S, ?_⟩⟩
  unfold tryM at c0
  cases q : fb env with
  | err => rw [q] at c0; exact c0.elim
  | ok r e =>
    rw [q] at c0
    dsimp only at c0
    have c1 := ContS.mono (T2 := Tb) c0 fun i q => (tor_sub i q).1
    cases r <;> exact c1
  | exc cc xs e1 =>
    rw [q] at c0
    dsimp only at c0
    intro cls dd σ1 H1 Z1 Fs1 S1 t1 p1 r1
    obtain ⟨C, hC, hcl, hr⟩ := id r1
    subst hcl
    cases hl : te.lookup cc with
    | none => rw [hl] at c0; exact c0.elim
    | some b =>
      rw [hl] at c0
      have hm : (cc, b) ∈ te := by
        have : ∀ l : List (Str × Bool), l.lookup cc = some b → (cc, b) ∈ l := fun l => by
          induction l with
          | nil => intro h; cases h
          | cons y l ih =>
            intro h
            rw [List.lookup_cons] at h
            split at h
            · rename_i he
              cases h
              have : cc = y.1 := by simpa using he
              rw [this]; exact List.mem_cons_self
            · exact List.mem_cons_of_mem _ (ih h)
        exact this te hl
      refine ⟨b, ht _ hm C hC, fun hb => ?_, fun hb => ?_⟩
      · subst hb
        intro a na
        dsimp only at c0
        split at c0
        · exact c0.elim
        · rename_i hp
          split at c0
          · rename_i hlen
            have al := Alloc.tup (Z := Z1) (o := ExO (.ref C) dd a) na
            have S2 := S1.alloc al
            have t2 : Tr Tb Z1 H1 e1 Fs1 _ _ e1 Fs1 := Tr.alloc S1 al
            have rp : Rep X.K X.mg (fun b => Z1 b ∨ b = a) (upd H1 a (ExO (.ref C) dd a)) (.exc cc xs) (.ref a) [] := by
              have vs : ∃ vs, Repf X.K X.mg (fun b => Z1 b ∨ b = a) (upd H1 a (ExO (.ref C) dd a)) xs vs [] ∧ ((xs = [] ∧ dd = none) ∨ ∃ d, dd = some d ∧ upd H1 a (ExO (.ref C) dd a) d = some (.xd ((xs.map (·.1)).zip vs)) ∧ (Z1 d ∨ d = a)) := by
                rcases hr with ⟨h1, h2⟩ | ⟨d, vs, h1, h2, h3, h4⟩
                · subst h1
                  exact ⟨[], by simp [Repf], .inl ⟨rfl, h2⟩⟩
                · exact ⟨vs, h4.stay (al.stay S1.zs) (fun _ h => by simp at h), .inr ⟨d, h1, by rw [upd_ne (ne_of_none h2 na)]; exact h2, .inl h3⟩⟩
              obtain ⟨vs, v1, v2⟩ := vs
              simp only [Rep]
              exact ⟨a, C, dd, vs, rfl, hC, upd_same, .inr rfl, trivial, v1, v2⟩
            have S3 := store_ok S2 hlen rp List.nodup_nil (fun _ h => by simp at h)
            have t3 := (t1.trans t2 (T := Tb) fun i q => ⟨q, q⟩).store (i := i) (d := .exc cc xs) (G := []) (fun _ h => by simp at h)
            have ep : e1.p = env.p := t1.p
            have hp0 : env.p[i]? ≠ some true := by rw [← ep]; exact hp
            have p3 : Pin env.p σ (σ1.set i (some (.ref a))) := p1.trans (Pin.set hp0)
            refine ⟨_, _, _, S3, ?_⟩
            have tsub : ∀ j, tor Tb (tor (T1' i) Ts) j = false → tor Tb (T1' i) j = false ∧ Ts j = false := fun j hj => by
              obtain ⟨h1, h2⟩ := tor_sub j hj
              obtain ⟨h3, h4⟩ := tor_sub j h2
              exact ⟨by simp [tor, h1, h3], h4⟩
            have tfin : ∀ j, tor Tb (tor (T1' i) Ts) j = false → tor Tb (tor (T1' i) Ts) j = false ∧ T1' i j = false := fun j hj => ⟨hj, (tor_sub j (tor_sub j hj).2).1⟩
            cases q2 : fs (e1.put i (.exc cc xs)) with
            | err => rw [q2] at c0; exact c0.elim
            | exc _ _ _ => rw [q2] at c0; exact c0.elim
            | ok r e2 =>
              rw [q2] at c0
              dsimp only at c0
              have pe : (e1.put i (.exc cc xs)).p = env.p := t3.p
              cases r with
              | rt d =>
                intro v σ4 H4 Z4 Fs4 Fd S4 t4 p4 r4 vp4
                have vp := (vp4.back t3).gone (i := i)
                exact c0 v (σ4.set i none) H4 Z4 (fsetL Fs4 [i]) Fd (S4.gone i) ((t3.trans t4 tsub).trans (Tr.gone i) tfin) ((p3.trans (by rw [pe] at p4; exact p4)).trans (Pin.gone hp0)) r4 vp
              | nx =>
                intro σ4 H4 Z4 Fs4 S4 t4 p4
                exact c0 (σ4.set i none) H4 Z4 (fsetL Fs4 [i]) (S4.gone i) ((t3.trans t4 tsub).trans (Tr.gone i) tfin) ((p3.trans (by rw [pe] at p4; exact p4)).trans (Pin.gone hp0))
              | bk =>
                intro σ4 H4 Z4 Fs4 S4 t4 p4
                exact c0 (σ4.set i none) H4 Z4 (fsetL Fs4 [i]) (S4.gone i) ((t3.trans t4 tsub).trans (Tr.gone i) tfin) ((p3.trans (by rw [pe] at p4; exact p4)).trans (Pin.gone hp0))
              | ct =>
                intro σ4 H4 Z4 Fs4 S4 t4 p4
                exact c0 (σ4.set i none) H4 Z4 (fsetL Fs4 [i]) (S4.gone i) ((t3.trans t4 tsub).trans (Tr.gone i) tfin) ((p3.trans (by rw [pe] at p4; exact p4)).trans (Pin.gone hp0))
          · exact c0.elim
      · subst hb
        exact c0 _ dd σ1 H1 Z1 Fs1 S1 (t1.mono fun i q => (tor_sub i q).1) p1 r1
end
section
variable {X : Cx} {e : Expr} {p pos pos2 : Pos} {fa : M D} {Ta : Nat → Bool} {x : Str}
theorem vs_raise1 {C : Addr} {bmB : List Value} {B newId initId : String} (F : ExcBaseFacts B newId initId bmB) (q : PySem.W.excIn X.K C bmB newId = true) (gC : X.mg x = some (.ref C)) (kC : PySem.W.keepIn X.K (.ref C) = true)
    (sb : PySem.W.subIn X.K (.ref C) (.type "BaseException") = some true) (ty : PySem.W.typeIn X.K (.ref C) = some (.type "type")) (he : VE X e fa Ta none) (hg : Gl X x := by rfl) (hc : X.calm = true := by rfl)
    (hs : starEach [e] X.env = (false, eval e X.env) :: starEach [] X.env := by rfl) (hdb : (x == ("__debug__" : Str)) = false := by decide) : VS X (.Raise (some (.Call (.Name x p) [e] [] pos)) none pos2) (raiseM x fa) Ta := by
  refine ⟨fun W tk => ps_imp (ps_raise hc tk (pmk_ownA F q gC kC (raises_own sb ty) hg (pa_cons (he.run W tk) pa_nil hs) hdb hs (by rfl))) fun D σ H ⟨Z, env, Fs, S, c⟩ => ⟨Z, env, Fs, S, ?_⟩⟩
  unfold raiseM bnd at c
  cases q : fa env with
  | err => rw [q] at c; exact c.elim
  | exc y fs e1 => rw [q] at c; exact fun cls dd H' Z' Fs' S' t r => c cls dd σ H' Z' Fs' S' t Pin.refl r
  | ok d e1 =>
    rw [q] at c
    intro v H1 Z1 Fs1 F1 S1 t1 r1 p1
    exact ⟨by simp [sizeLine_eq], c _ none σ H1 Z1 Fs1 S1 t1 Pin.refl ⟨C, gC, rfl, .inl ⟨rfl, rfl⟩⟩⟩
end
end VI
/-! V28: a < b < c; constants of the module -/
namespace VI
open PySem PySem.Spec L2
def chainM (g g' : D → D → Option D) (fa fb fc : M D) : M D := bnd fa fun d1 => if d1.own then bad else bnd fb fun d2 => if d2.own then bad else match g d1 d2 with
  | some (.bl true) => bnd fc fun d3 => ofO (g' d2 d3)
  | some (.bl false) => pur (.bl false)
  | _ => bad
section
variable {X : Cx} {e a b c : Expr} {pos : Pos} {f fa fb fc : M D} {T Ta Tb Tc : Nat → Bool} {src sa sb sc : Option Nat}
theorem tE_chain {K : PySem.W.Frag} {mg : Mg} {W : WX} {σ : L2.St} {H : Hp} {Q : VK} {g g' : D → D → Option D} {r r' : R2}
    (hr : ∀ {Z : Addr → Prop} {H : Hp} {d1 d2 d : D} {v1 v2 : V} {F1 F2 : List Addr} {Q : VK}, (∀ a, Z a → ∃ o, H a = some o) → Rep K mg Z H d1 v1 F1 → Rep K mg Z H d2 v2 F2 → g d1 d2 = some d → Res K mg Z H d Q → r v1 v2 H Q)
    (hr' : ∀ {Z : Addr → Prop} {H : Hp} {d1 d2 d : D} {v1 v2 : V} {F1 F2 : List Addr} {Q : VK}, (∀ a, Z a → ∃ o, H a = some o) → Rep K mg Z H d1 v1 F1 → Rep K mg Z H d2 v2 F2 → g' d1 d2 = some d → Res K mg Z H d Q → r' v1 v2 H Q)
    (h : tE K mg (chainM g g' fa fb fc) (tor Ta (tor Tb Tc)) none W σ H Q) : tChain r r' (tE K mg fa Ta sa W) (tE K mg fb Tb sb W) (tE K mg fc Tc sc W) σ H Q := by
  obtain ⟨Z, env, Fs, S, c⟩ := h
  refine ⟨Z, env, Fs, S, ?_⟩
  unfold chainM bnd at c
  cases qa : fa env with
  | err => rw [qa] at c; exact c.elim
  | exc x fs e1 =>
    rw [qa] at c
    exact fun cls dd H' Z' Fs' S' t r => c cls dd H' Z' Fs' S' (t.mono fun i q => (tor_sub i q).1) r
  | ok d1 e1 =>
    rw [qa] at c
    dsimp only at c
    intro v1 H1 Z1 Fs1 F1 S1 t1 r1 p1
    split at c
    · exact c.elim
    rename_i ho1
    have c := Cont.step (T2 := tor Tb Tc) c t1 tor_sub
    dsimp only at c
    refine ⟨Z1, e1, Fs1, S1, ?_⟩
    cases qb : fb e1 with
    | err => rw [qb] at c; exact c.elim
    | exc x fs e2 => rw [qb] at c; exact fun cls dd H' Z' Fs' S' t r => c cls dd H' Z' Fs' S' (t.mono fun i q => (tor_sub i q).1) r
    | ok d2 e2 =>
      rw [qb] at c
      dsimp only at c
      intro v2 H2 Z2 Fs2 F2 S2 t2 r2 p2
      split at c
      · exact c.elim
      rename_i ho2
      have c := Cont.step (T2 := Tc) c t2 tor_sub
      have r1' := Rep.over S1 p1 r1 t2 (.inl (by simpa using ho1))
      have e2' := r2.unown (by simpa using ho2)
      cases qg : g d1 d2 with
      | none => rw [qg] at c; exact c.elim
      | some d =>
        rw [qg] at c
        refine hr S2.zs r1' r2 qg fun v H3 Z3 Fd al rv => ?_
        cases d with
        | bl k =>
          simp only [Rep] at rv
          obtain ⟨rfl, rfl⟩ := rv
          refine ⟨k, rfl, ?_⟩
          cases k with
          | false =>
            rw [if_neg Bool.false_ne_true]
            exact Cont.ret S2 (Cont.step (T2 := Tc) (T1 := T0) c Tr.refl fun i q => ⟨rfl, q⟩) al (by simp [Rep])
          | true =>
            rw [if_pos rfl]
            have S3 := S2.alloc al
            have t3 : Tr T0 Z2 H2 e2 Fs2 Z3 H3 e2 Fs2 := Tr.alloc S2 al
            have c := Cont.step (T2 := Tc) c t3 fun i q => ⟨rfl, q⟩
            refine ⟨Z3, e2, Fs2, S3, ?_⟩
            dsimp only at c
            cases qc : fc e2 with
            | err => rw [qc] at c; exact c.elim
            | exc x fs e3 => rw [qc] at c; exact c
            | ok d3 e3 =>
              rw [qc] at c
              dsimp only at c
              intro v3 H4 Z4 Fs4 F4 S4 t4 r4 p4
              cases qg' : g' d2 d3 with
              | none => rw [qg'] at c; exact c.elim
              | some d' =>
                rw [qg'] at c
                have c := Cont.step (T2 := T0) c t4 fun i q => ⟨q, rfl⟩
                have r2' : Rep K mg Z4 H4 d2 v2 F2 := by
                  rw [e2'] at r2 ⊢
                  exact (r2.stay (al.stay S2.zs) (fun _ h => by simp at h)).stay (t4.stay S3) (fun _ h => by simp at h)
                exact hr' S4.zs r2' r4 qg' fun v H' Z' Fd a r => Cont.ret S4 c a r
        | _ => exact c.elim
theorem ve_chain {op op' : CmpOp} {g g' : D → D → Option D} (h : OpD X (compareOp op) g) (h' : OpD X (compareOp op') g') (ha : VE X a fa Ta sa) (hb : VE X b fb Tb sb) (hc : VE X c fc Tc sc) (hm : lastMarks [op, op'] [b, c] = false := by with_unfolding_all rfl) :
    VE X (.Compare a [op, op'] [b, c] pos) (chainM g g' fa fb fc) (tor Ta (tor Tb Tc)) none := by
  obtain ⟨r, h1, h2⟩ := h
  obtain ⟨r', h1', h2'⟩ := h'
  exact ⟨fun W tk => pe_imp (pe_chain h1 h1' (ha.run W tk) (hb.run W tk) (hc.run W tk) hm) fun σ H Q h => tE_chain h2 h2' h⟩
theorem vt_chain {op op' : CmpOp} {g g' : D → D → Option D} (h : OpD X (compareOp op) g) (h' : OpD X (compareOp op') g') (ha : VE X a fa Ta sa) (hb : VE X b fb Tb sb) (hc : VE X c fc Tc sc) (hm : lastMarks [op, op'] [b, c] = false := by with_unfolding_all rfl) :
    VT X (.Compare a [op, op'] [b, c] pos) (boolM (chainM g g' fa fb fc)) (tor Ta (tor Tb Tc)) := by
  obtain ⟨r, h1, h2⟩ := h
  obtain ⟨r', h1', h2'⟩ := h'
  exact ⟨fun W tk => pt_imp (pt_chain h1 h1' (ha.run W tk) (hb.run W tk) (hc.run W tk) hm) fun σ H Q h => tE_chain h2 h2' (tT_bool h)⟩
end
/-! constants -/
def flatVB : D → Value → Bool
  | .non, .none => true
  | .bl b, .bool c => b == c
  | .int i, .int j _ => i == j
  | .str x, .str y _ => x == y
  | _, _ => false
def flatsVB : List D → List Value → Bool
  | [], [] => true
  | d :: ds, v :: vs => flatVB d v && flatsVB ds vs
  | _, _ => false
theorem flatVB_ok {K : PySem.W.Frag} {mg : Mg} {d : D} {u : Value} (h : flatVB d u = true) : ∃ v, RelV v u ∧ ∀ Z H, Rep K mg Z H d v [] := by
  unfold flatVB at h
  split at h
  · exact ⟨.non, rfl, fun Z H => by simp [Rep]⟩
  · rename_i b c
    have : b = c := by simpa using h
    subst this
    exact ⟨.bl b, rfl, fun Z H => by simp [Rep]⟩
  · rename_i i j t
    have : i = j := by simpa using h
    subst this
    exact ⟨.int i, ⟨_, rfl⟩, fun Z H => by simp [Rep]⟩
  · rename_i i j t
    have : i = j := by simpa using h
    subst this
    exact ⟨.str i, ⟨_, rfl⟩, fun Z H => by simp [Rep]⟩
  · cases h
theorem flatsVB_ok {K : PySem.W.Frag} {mg : Mg} : ∀ {ds : List D} {us : List Value}, flatsVB ds us = true → ∃ vs, Vals vs us ∧ ∀ Z H, Reps K mg Z H ds vs []
  | [], [], _ => ⟨[], .nil, fun Z H => by simp [Reps]⟩
  | d :: ds, u :: us, h => by
    simp only [flatsVB, Bool.and_eq_true] at h
    obtain ⟨v, r, q⟩ := flatVB_ok (K := K) (mg := mg) h.1
    obtain ⟨vs, rs, qs⟩ := flatsVB_ok (K := K) (mg := mg) h.2
    exact ⟨v :: vs, .cons r rs, fun Z H => Reps.cons (q Z H) (qs Z H)⟩
  | [], _ :: _, h | _ :: _, [], h => by simp [flatsVB] at h
def tupB (K : PySem.W.Frag) (a : Addr) (ds : List D) : Bool := match K.lookup a with
  | some o => decide (o.cls = .type "tuple") && (match o.data with
    | .seq its _ => decide (its.size ≤ 1000) && flatsVB ds its.toList
    | _ => false)
  | none => false
theorem tupB_ok {K : PySem.W.Frag} {mg : Mg} {a : Addr} {ds : List D} (h : tupB K a ds = true) : ∀ Z H, Rep K mg Z H (.tup ds) (.ref a) [] := by
  unfold tupB at h
  split at h
  · rename_i o ho
    simp only [Bool.and_eq_true, decide_eq_true_eq] at h
    obtain ⟨h1, h2⟩ := h
    split at h2
    · rename_i its n hd
      simp only [Bool.and_eq_true, decide_eq_true_eq] at h2
      obtain ⟨vs, rs, qs⟩ := flatsVB_ok (K := K) (mg := mg) h2.2
      intro Z H
      simp only [Rep]
      exact ⟨a, vs, rfl, .inr ⟨o, its, n, ho, h1, hd, by have := h2.1; rw [sizeLine_eq]; omega, rs⟩, qs Z H⟩
    · cases h2
  · cases h
/-- a dict of the module: texts, ints -/
def entsB : List (Str × Int) → List DictEntry → Bool
  | [], [] => true
  | (k, i) :: r, e :: es => (match e.key with | .str x _ => x == k | _ => false) && flatVB (.int i) e.val && entsB r es
  | _, _ => false
structure KDictOk (K : PySem.W.Frag) (w : World) (a : Addr) (kvs : List (Str × Int)) : Prop where
  ex : ∃ es n, K.lookup a = some ⟨.type "dict", none, .dict es n, #[]⟩ ∧ PySem.W.KeysLit w.params es.toList ∧ entsB kvs es.toList = true ∧ (a == sysModules) = false
def kgetD (kvs : List (Str × Int)) : D → D → Option D
  | .str z, .int d => some (.int ((kvs.lookup z).getD d))
  | _, _ => none
theorem ents_find {z : Str} : ∀ {kvs : List (Str × Int)} {es : List DictEntry}, entsB kvs es = true → ∀ r : Option Value, (es.find? fun e => Value.isStrOf z e.key).map (·.val) = r → (∀ i, kvs.lookup z = some i → ∃ t, r = some (.int i t)) ∧ (kvs.lookup z = none → r = none)
  | [], [], _, r, h => by
    simp at h
    subst h
    exact ⟨fun i q => by simp at q, fun _ => rfl⟩
  | (k, i) :: kvs, e :: es, h, r, hr => by
    simp only [entsB, Bool.and_eq_true] at h
    obtain ⟨⟨h1, h2⟩, h3⟩ := h
    have ih := ents_find h3 (z := z)
    cases he : e.key with
    | str x t =>
      rw [he] at h1
      have hx : x = k := by simpa using h1
      subst hx
      rw [List.lookup_cons]
      by_cases q : z = x
      · subst q
        have : Value.isStrOf z e.key = true := by rw [he]; simp [Value.isStrOf]
        rw [List.find?_cons_of_pos (by exact this)] at hr
        simp only [beq_self_eq_true]
        refine ⟨fun j hj => ?_, fun hj => by cases hj⟩
        cases hj
        obtain ⟨v, rv, _⟩ := flatVB_ok (K := default) (mg := fun _ => none) h2
        cases hv : e.val with
        | int j t =>
          rw [hv] at h2
          have : i = j := by simpa [flatVB] using h2
          subst this
          rw [Option.map_some, hv] at hr
          exact ⟨t, hr.symm⟩
        | _ => rw [hv] at h2; simp [flatVB] at h2
      · have nb : (z == x) = false := by simpa using q
        have : ¬ Value.isStrOf z e.key = true := by
          rw [he]
          simpa [Value.isStrOf] using fun h => q (by simpa using h.symm)
        rw [List.find?_cons_of_neg (by exact this)] at hr
        rw [nb]
        exact ih r hr
    | _ => rw [he] at h1; cases h1
  | [], _ :: _, h, _, _ | _ :: _, [], h, _, _ => by simp [entsB] at h
section
variable {X : Cx} {e f : Expr} {p apos cpos : Pos} {fe ff : M D} {Te Tf : Nat → Bool} {se sf : Option Nat} {x : Str} {ty tx : TE}
def rKget (kvs : List (Str × Int)) : R2 := fun y z H Q => ∃ (k : Str) (d : Int), y = .str k ∧ z = .int d ∧ Q (.int ((kvs.lookup k).getD d)) H
theorem pe_kget {a : Addr} {kvs : List (Str × Int)} (KD : KDictOk X.K X.w a kvs) (hg : Gl X x) (hm : X.mg x = some (.ref a)) (he : PE X e ty) (hf : PE X f tx) (m : M2 X (.Name x p) "get" apos e f cpos) (hdb : (x == ("__debug__" : Str)) = false := by decide) :
    PE X (.Call (.Attribute (.Name x p) "get" apos) [e, f] [] cpos) (fun σ H Q => ty σ H fun y H2 => tx σ H2 fun z H3 => rKget kvs y z H3 Q) := by
  obtain ⟨es, n, hl, hk, hb, lo⟩ := KD.ex
  refine ⟨fun pins s σ H Q I h => ?_⟩
  refine wpAny_Call_method m.base m.few m.line PySem.F.plainAttrs_dict PySem.F.slot_dict_get PySem.F.type_dict_get (ld_glob I hg hm ?_ hdb)
  have mo := PySem.W.mapOf_K (prog := X.prog) (w := X.w) I.kIn hl hk
  refine ⟨mo.typeIs, fun b q => ?_, ?_⟩
  · cases q
    exact ⟨_, I.kIn _ _ hl, rfl⟩
  rw [m.trees]
  refine Calls.callWith_builtin rfl (Calls.evalArgs_plain (Calls.spliced_cons (thn (he.run pins s σ H _ I h) fun iv s2 ⟨y, H2, I2, ry, q2⟩ =>
    Calls.spliced_cons (thn (hf.run pins s2 σ H2 _ I2 q2) fun fv s3 ⟨z, H3, I3, rz, k, d, ey, ez, q3⟩ => Calls.spliced_nil ?_))))
  subst ey ez
  obtain ⟨t, rfl⟩ := (show ∃ t, iv = Value.str k t from ry)
  have mo3 := PySem.W.mapOf_K (prog := X.prog) (w := X.w) I3.kIn hl hk
  refine call_meetsIn PySem.F.slot_dict_get mo3.typeIs PySem.F.entry_dict_get (PySem.F.args_dict_get_3 _ _ _) (meets_dict_get_default (strKind X.prog X.w) a (strKind_is X.prog X.w k t) lo fv) ⟨_, mo3, ?_⟩
  have key : RelV (V.int ((kvs.lookup k).getD d)) ((findBy Value.isStrOf es k).getD fv) := by
    obtain ⟨l⟩ := es
    have := ents_find (z := k) hb (findBy Value.isStrOf ⟨l⟩ k) (by simp [findBy])
    cases ql : kvs.lookup k with
    | none => rw [this.2 ql]; exact rz
    | some i =>
      obtain ⟨t, e⟩ := this.1 i ql
      rw [e]
      exact ⟨t, rfl⟩
  exact ⟨_, H3, I3.tok _, key, q3⟩
theorem ve_kget {a : Addr} {kvs : List (Str × Int)} (k : Bool) (KD : KDictOk X.K X.w a kvs) (hm : X.mg x = some (.ref a)) (he : VE X e fe Te se) (hf : VE X f ff Tf sf) (hk : k = true → ∀ i, se = some i → Tf i = false := by first | (intro h; exact Bool.noConfusion h) | (intro _ i h; cases h; rfl) | (intro _ i h; cases h))
    (hg : Gl X x := by rfl) (m : M2 X (.Name x p) "get" apos e f cpos := by exact ⟨rfl, rfl, rfl, rfl⟩) (hdb : (x == ("__debug__" : Str)) = false := by decide) :
    VE X (.Call (.Attribute (.Name x p) "get" apos) [e, f] [] cpos) (twoM k fe ff (kgetD kvs)) (tor Te Tf) none := by
  refine ⟨fun W tk => pe_imp (pe_kget KD hg hm (he.run W tk) (hf.run W tk) m hdb) fun σ H Q h => tE_two hk ?_ h⟩
  intro Z H d1 d2 d v1 v2 F1 F2 Q zs ra rb e res
  unfold kgetD at e
  split at e <;> cases e
  simp only [Rep] at ra rb
  exact ⟨_, _, ra.1, rb.1, res_flat zs res (by simp [Rep])⟩
/-- a tuple of the module -/
theorem ve_ktup {a : Addr} {ds : List D} {pos : Pos} (hm : X.mg x = some (.ref a)) (hb : tupB X.K a ds = true) (hg : Gl X x := by rfl) (hdb : (x == ("__debug__" : Str)) = false := by decide) : VE X (.Name x pos) (pur (.tup ds)) T0 none :=
  ve_glob (tupB_ok hb) hg hm rfl hdb
theorem ve_kint {i : Int} {u : Value} {pos : Pos} (hm : X.mg x = some u) (hb : flatVB (.int i) u = true) (hg : Gl X x := by rfl) (hdb : (x == ("__debug__" : Str)) = false := by decide) : VE X (.Name x pos) (pur (.int i)) T0 none := by
  obtain ⟨v, r, q⟩ := flatVB_ok (K := X.K) (mg := X.mg) hb
  exact ve_glob q hg hm r hdb
theorem ve_kstr {i : Str} {u : Value} {pos : Pos} (hm : X.mg x = some u) (hb : flatVB (.str i) u = true) (hg : Gl X x := by rfl) (hdb : (x == ("__debug__" : Str)) = false := by decide) : VE X (.Name x pos) (pur (.str i)) T0 none := by
  obtain ⟨v, r, q⟩ := flatVB_ok (K := X.K) (mg := X.mg) hb
  exact ve_glob q hg hm r hdb
end
end VI
/-! V29: promises of defs that are made where no repr is under way -/
namespace VI
open PySem PySem.Spec PyProof.Rows L2
/-- a def's promise, where it's known that no repr is under way -/
structure FnG (P : Program) (w : World) (K : PySem.W.Frag) (mg : Mg) (base : Heap) (CX : CXT) (k : Nat) (f : Addr) (fd : FuncData) (ps : List Str) (sp : Sp) : Prop where
  len : ∀ vs H Q E, sp vs H Q E → vs.length = ps.length
  go : ∀ (A : Around) (outer : List PySem.Env) (s : Shared) (H : Hp) (args : Args) (us : List Value) (vs : List V) (Q : VK) (E : XK), A.guards = some [] → Room k A → Env0 P w K mg base A outer s H → BindsTo s fd args (ps.zip us) → Vals vs us → sp vs H Q E →
    codeAny (model P w) A (.call (.ref f) args) (CR CX outer P w H s Q E) s
section
variable {P : Program} {w : World} {K : PySem.W.Frag} {mg : Mg} {base : Heap} {CX : CXT} {k : Nat} {f : Addr} {fd : FuncData} {ps : List Str} {sp sp' : Sp}
theorem FnG.of (F : FnOk P w K mg base CX k f fd ps sp) : FnG P w K mg base CX k f fd ps sp := ⟨F.len, fun A outer s H args us vs Q E _ => F.run A outer s H args us vs Q E⟩
theorem FnG.weak (F : FnG P w K mg base CX k f fd ps sp) (h : ∀ vs H Q E, sp' vs H Q E → sp vs H Q E) : FnG P w K mg base CX k f fd ps sp' :=
  ⟨fun vs H Q E q => F.len vs H Q E (h _ _ _ _ q), fun A outer s H args us vs Q E hg hr he hb hv hs => F.go A outer s H args us vs Q E hg hr he hb hv (h _ _ _ _ hs)⟩
/-- what a body's end tells the caller -/
theorem body_end {N : List Str} {qual : Str} {scope : Scope} {cdv : Value} {A : Around} {outer : List PySem.Env} {s s' : Shared} {H : Hp} {Q : VK} {E : XK} {fl : Flow}
    (hs : SP (cxOf CX P w K mg base N qual scope f cdv A outer s H E) [] { nx := fun _ H' => Q .non H', rt := Q } fl s') : CR CX outer P w H s Q E (.ok (.ret (match fl with | .ret v => v | _ => .none))) s' := by
  cases fl with
  | next => obtain ⟨σ', H', J, q⟩ := hs; exact ⟨.non, H', J.os, J.bare, J.base, J.hok, rfl, q⟩
  | ret u => obtain ⟨v, σ', H', J, rv, q⟩ := hs; exact ⟨v, H', J.os, J.bare, J.base, J.hok, rv, q⟩
  | brk => obtain ⟨_, _, _, q⟩ := hs; exact q.elim
  | cont => obtain ⟨_, _, _, q⟩ := hs; exact q.elim
/-- a def by its body -/
theorem fnG_of {x qual : Str} {st : Stmt} {N : List Str} (F : Fun K x qual st f fd) (S : FnScope N ps (defScope st)) (len : ∀ vs H Q E, sp vs H Q E → vs.length = ps.length)
    (hb : ∀ (cdv : Value) (A : Around) (outer : List PySem.Env) (s : Shared) (H : Hp) (vs : List V) (Q : VK) (E : XK), A.guards = some [] → Room k (A.deeper (envOfC qual (defScope st) s.heap.objs.size f cdv)) → sp vs H Q E →
      ∃ t, PSs (cxOf CX P w K mg base N qual (defScope st) f cdv A outer s H E) (defBody st) t ∧ t { nx := fun _ H' => Q .non H', rt := Q } (start N vs) H) : FnG P w K mg base CX (k + 1) f fd ps sp := by
  obtain ⟨oc, od, kV, doc, pm, an, cdv, ct, osl, rfl, lk, hcd⟩ := F.ex
  refine ⟨len, fun A outer s H args us vs Q E hg hr e0 bi r hsp => ?_⟩
  have KX : K.In s.heap := e0.mod.kin.keeps fun b o e => (e0.bs b o e).1
  refine codeAny_call_function hr.depth (KX _ _ lk) rfl S.co S.gen rfl (PySem.W.codeRec_of KX hcd) (bi _ _ _ _ ?_)
  refine wpAny_newFunctionEnv_cells S.kind (fun y hy => ?_) fun env he s1 x1 => ?_
  · exact (S.par y.1 (List.of_mem_zip hy).1).imp_right fun q => ⟨q, PySem.W.cellsFrom_some _ _ _ (.inl q)⟩
  · subst he
    refine ⟨(e0.mod.nolimit.keeps fun b o e => (e0.bs b o e).1).keeps x1.toInCall.keep, codeAny_func ?_⟩
    obtain ⟨t, ht, hq⟩ := hb cdv A outer s H vs Q E hg (hr.deeper _) hsp
    exact wpAny_mono (ht.run [] s1 (start N vs) H _ (inv_start S hr.hd e0 (len _ _ _ _ hsp) r x1) hq) (fun fl s' hs => by cases fl <;> exact body_end hs) fun e s' hs => hs
end
section
variable {X : Cx} {CX : CXT} {k : Nat} {f : Addr} {fd : FuncData} {ps : List Str} {sp : Sp} {E : L2.St → XK} {x : Str} {p pos : Pos} {e : Expr} {es : List Expr} {t : TA}
theorem runG {pins : List (Addr × Obj)} {σ : L2.St} {H : Hp} {s : Shared} {Q : VK} {us : List Value} {vs : List V} (F : FnG X.prog X.w X.K X.mg X.base CX k f fd ps sp) (hgd : X.A.guards = some []) (hr : Room k X.A) (hb : Binds X.K fd ps []) (hx : PassesAt CX X σ (E σ))
    (I : L2.Inv X pins σ H s) (r : Vals vs us) (h : sp vs H Q (E σ)) : wpAny (model X.prog X.w) X.A (call (.ref f) us) (EP X pins σ Q) X.xe s := by
  have b := hb s us I.kIn (by rw [List.append_nil, ← r.length]; exact F.len _ _ _ _ h)
  rw [List.append_nil] at b
  refine wpAny_call (codeAny_mono (F.go X.A X.stack s H ⟨us, []⟩ us vs Q (E σ) hgd hr I.env0 b r h) fun r s' hq => ?_)
  match r, hq with
  | .error e, hq => exact hx pins H s e s' I hq
  | .ok (.ret u), hq => exact I.after hq
theorem pe_callG (F : FnG X.prog X.w X.K X.mg X.base CX k f fd ps sp) (hgd : X.A.guards = some []) (hr : Room k X.A) (hg : Gl X x) (hm : X.mg x = some (.ref f)) (hk : PySem.W.keepIn X.K (.ref f) = true) (hb : Binds X.K fd ps []) (hx : ∀ σ, PassesAt CX X σ (E σ))
    (ha : PA X (e :: es) t) (hdb : (x == ("__debug__" : Str)) = false) (he : starEach (e :: es) X.env = (false, eval e X.env) :: starEach es X.env) (hpl : (backTo pos (starEach es X.env)).any (·.1) = false) :
    PE X (.Call (.Name x p) (e :: es) [] pos) (tCallS sp E t) :=
  ⟨fun pins s σ H Q I h => wpAny_Call_Name_kw (ld_glob I hg hm (PySem.W.callWith_K (h₀ := X.base) I.ok.mod.kin hk (thn (ha.run pos pins s σ H _ I h) fun us s1 ⟨vs, H1, I1, r, q⟩ => ⟨I1.kIn, runG F hgd hr hb (hx σ) I1 r q⟩) he hpl) hdb)⟩
theorem pe_callG0 (F : FnG X.prog X.w X.K X.mg X.base CX k f fd ps sp) (hgd : X.A.guards = some []) (hr : Room k X.A) (hg : Gl X x) (hm : X.mg x = some (.ref f)) (hk : PySem.W.keepIn X.K (.ref f) = true) (hb : Binds X.K fd ps []) (hx : ∀ σ, PassesAt CX X σ (E σ))
    (hdb : (x == ("__debug__" : Str)) = false) : PE X (.Call (.Name x p) [] [] pos) (tCallS sp E tNil) :=
  ⟨fun pins s σ H Q I h => wpAny_Call_Name_kw (ld_glob I hg hm (PySem.W.callWith_K0 I.kIn hk (runG (us := []) F hgd hr hb (hx σ) I .nil h)) hdb)⟩
end
/-! the program's defs -/
section
variable {K : PySem.W.Frag} {mg : Mg} {H : Hp} {Q : VK} {E : XK} {N ps : List Str} {body : M Fl} {vs : List V} {T : Nat → Bool}
theorem body_run (h : spOf K mg ps.length (runB N.length body) vs H Q E) : tS K mg body T (fun cls d _ H' => E cls d H') { nx := fun _ H' => Q .non H', rt := Q } (L2.start N vs) H := by
  obtain ⟨hl, Z, ds, Gs, S0, c⟩ := h
  refine ⟨Z, env0 N.length ds, Gs, start_sr S0, ?_⟩
  unfold runB at c
  cases q : body (env0 N.length ds) with
  | err => rw [q] at c; exact c
  | exc cc fs e =>
    rw [q] at c
    intro cls dd σ' H' Z' Fs' S' t pn r
    dsimp only at c
    split at c
    · rename_i rd rf hr
      split at hr <;> cases hr
    · rename_i c' fs' fin hc
      split at hc
      · rename_i fin' hf
        cases hc
        obtain ⟨Gs', S2, t2, _⟩ := end_sr S0 S' t pn hf
        exact c cls dd H' Z' Gs' S2 t2 r
      · cases hc
    · exact c.elim
  | ok fl e =>
    rw [q] at c
    cases fl with
    | bk => exact c.elim
    | ct => exact c.elim
    | rt d =>
      intro v σ' H' Z' Fs' Fd S' t pn r p
      dsimp only at c
      split at c
      · rename_i rd rf hr
        split at hr
        · rename_i fin' hf
          cases hr
          obtain ⟨Gs', S2, t2, sub⟩ := end_sr S0 S' t pn hf
          exact c v H' Z' Gs' Fd S2 t2 r ⟨p.1, fun a ha => ⟨fun j z => (p.2 a ha).1 j (sub j a z), (p.2 a ha).2⟩⟩
        · cases hr
      · rename_i c' fs' fin hc
        split at hc <;> cases hc
      · exact c.elim
    | nx =>
      intro σ' H' Z' Fs' S' t pn
      dsimp only at c
      split at c
      · rename_i rd rf hr
        split at hr
        · rename_i fin' hf
          cases hr
          obtain ⟨Gs', S2, t2, sub⟩ := end_sr S0 S' t pn hf
          exact c .non H' Z' Gs' [] S2 t2 (by simp [Rep]) VP.nil
        · cases hr
      · rename_i c' fs' fin hc
        split at hc <;> cases hc
      · exact c.elim
end
section
variable {P : Program} {w : World} {K : PySem.W.Frag} {mg : Str → Option Value} {base : Heap}
theorem fnDG {x qual : Str} {st : Stmt} {f : Addr} {fd : FuncData} {N ps : List Str} {k : Nat} {body : M Fl} (F : Fun K x qual st f fd) (S : FnScope N ps (defScope st))
    (hb : ∀ (cdv : Value) (A : Around) (outer : List PySem.Env) (s : Shared) (H : Hp) (E : XK), A.guards = some [] → Room k (A.deeper (PyProof.Rows.envOfC qual (defScope st) s.heap.objs.size f cdv)) →
      ∃ T, VSs (cxOf (L2.CX P w) P w K mg base N qual (defScope st) f cdv A outer s H E) (defBody st) body T) : FnG P w K mg base (L2.CX P w) (k + 1) f fd ps (spOf K mg ps.length (runB N.length body)) := by
  refine fnG_of F S (fun vs H Q E h => h.1) fun cdv A outer s H vs Q E hg hr h => ?_
  obtain ⟨T, v⟩ := hb cdv A outer s H E hg hr
  refine ⟨_, v.run (fun cls d _ H' => E cls d H') (takes_of rfl rfl rfl rfl), ?_⟩
  exact body_run h
end
structure CallG (P : Program) (w : World) (K : PySem.W.Frag) (mg : Mg) (base : Heap) (k : Nat) (d : DefI) (φ : List D → CRes) : Prop where
  ex : ∃ f fd, FnG P w K mg base (L2.CX P w) k f fd d.ps (spOf K mg d.ps.length φ) ∧ PySem.W.keepIn K (.ref f) = true ∧ Binds K fd d.ps [] ∧ mg d.x = some (.ref f)
def CallsG (P : Program) (w : World) (K : PySem.W.Frag) (mg : Mg) (base : Heap) (DL : List DefI) (k : Nat) (Φ : Ph) : Prop := ∀ (i : Nat) (d : DefI), DL[i]? = some d → CallG P w K mg base k d (Φ i)
def BodyG (P : Program) (w : World) (K : PySem.W.Frag) (mg : Mg) (base : Heap) (DL : List DefI) (d : DefI) : Prop := ∀ (k : Nat) (Φ : Ph), 3 ≤ k → CallsG P w K mg base DL k Φ → ∀ (f : Addr) (cdv : Value) (A : Around) (outer : List PySem.Env) (s : Shared) (H : Hp) (E : XK), A.guards = some [] →
  Room k (A.deeper (PyProof.Rows.envOfC d.qual (defScope d.st) s.heap.objs.size f cdv)) → ∃ T, VSs (cxOf (L2.CX P w) P w K mg base d.N d.qual (defScope d.st) f cdv A outer s H E) (defBody d.st) (d.b Φ) T
theorem all_okG {P : Program} {w : World} {K : PySem.W.Frag} {mg : Mg} {base : Heap} {DL : List DefI} (hh : ∀ (i : Nat) (d : DefI), DL[i]? = some d → Has K mg d) (hb : ∀ (i : Nat) (d : DefI), DL[i]? = some d → BodyG P w K mg base DL d) : ∀ n, CallsG P w K mg base DL (n + 3) (PhiN DL n)
  | 0 => fun i d hd => by
    obtain ⟨f, fd, F, B, m⟩ := (hh i d hd).fn
    exact ⟨f, fd, ⟨fun vs H Q E h => h.1, fun A outer s H args us vs Q E _ hr e0 hbi hv h => by
      obtain ⟨_, Z, ds, Gs, _, c⟩ := h
      exact c.elim⟩, F.kp, B, m⟩
  | n + 1 => fun i d hd => by
    obtain ⟨f, fd, F, B, m⟩ := (hh i d hd).fn
    have e : PhiN DL (n + 1) i = runB d.N.length (d.b (PhiN DL n)) := by
      funext ds
      simp only [PhiN, hd]
    refine ⟨f, fd, ?_, F.kp, B, m⟩
    rw [e]
    exact fnDG F (hh i d hd).sc fun cdv A outer s H E hg hr => hb i d hd (n + 3) _ (Nat.le_add_left _ _) (all_okG hh hb n) f cdv A outer s H E hg hr
section
variable {X : Cx} {e : Expr} {es : List Expr} {p pos : Pos} {d : DefI} {k : Nat} {φ : List D → CRes} {g : M (List Arg)} {T : Nat → Bool}
theorem ecallG (C : CallG X.prog X.w X.K X.mg X.base k d φ) (hgd : X.A.guards = some []) (hr : Room k X.A) (ha : VG X (e :: es) g T) (ln : GLen g d.ps.length) (hg : Gl X d.x := by rfl)
    (hdb : (d.x == ("__debug__" : Str)) = false := by decide) (he : starEach (e :: es) X.env = (false, eval e X.env) :: starEach es X.env := by rfl) (hpl : ∀ pos, (backTo pos (starEach es X.env)).any (·.1) = false := by intro _; rfl) :
    VE X (.Call (.Name d.x p) (e :: es) [] pos) (callM φ g) T none := by
  obtain ⟨f, fd, F, kp, B, m⟩ := C.ex
  exact ⟨fun W tk => pe_imp (pe_callG (E := WE W) F hgd hr hg m kp B (fun σ => passAt tk σ) (ha.run W tk) hdb he (hpl pos)) fun σ H Q h => tE_call ha.nm ln h⟩
theorem ecallG0 (C : CallG X.prog X.w X.K X.mg X.base k d φ) (hgd : X.A.guards = some []) (hr : Room k X.A) (ln : d.ps.length = 0) (hg : Gl X d.x := by rfl) (hdb : (d.x == ("__debug__" : Str)) = false := by decide) :
    VE X (.Call (.Name d.x p) [] [] pos) (callM φ (pur [])) T0 none := by
  obtain ⟨f, fd, F, kp, B, m⟩ := C.ex
  refine ⟨fun W tk => pe_imp (pe_callG0 (E := WE W) F hgd hr hg m kp B (fun σ => passAt tk σ) hdb) fun σ H Q h => ?_⟩
  have ln0 : ∀ (env : Env) (as : List Arg) (e' : Env), (pur [] : M (List Arg)) env = .ok as e' → as.length = d.ps.length := by rw [ln]; exact glen_nil
  obtain ⟨Z, env, Fs, S, c⟩ := tE_call (X := X) (np := d.ps.length) (vg_nil (X := X)).nm ln0 h
  exact c [] H Z Fs [] S Tr.refl (by simp [AReps]) VP.nil
end
end VI
/-! V30: the law's end, by FnG -/
namespace VI
open PySem PySem.Spec PyProof.Rows L2
/-- the script's list: at a, of ints, known in H or the module's own -/
structure HeapFor (K : PySem.W.Frag) (P : Program) (w : World) (h : Heap) (a : Addr) (ns : List Int) (H : Hp) : Prop where
  only : Only H
  seq : SqL K H a (ns.map V.int)
  hok : HOk P w H h
  at_ : ∀ b, H b ≠ none → b = a
  own : H a ≠ none → K.lookup a = none
theorem heapFor {K : PySem.W.Frag} {P : Program} {w : World} {h : Heap} {a : Addr} {vs : List Value} {ns : List Int} (KX : K.In h) (ha : h.get? a = some { cls := .type "list", data := .seq vs.toArray }) (hi : IntsAre vs ns) (hl : ns.length ≤ sizeLine) : ∃ H, HeapFor K P w h a ns H := by
  cases hk : K.lookup a with
  | some o =>
    have e := KX a o hk
    rw [ha] at e
    cases e
    exact ⟨fun _ => none, fun _ => .inl rfl, .inr ⟨_, vs.toArray, _, hk, rfl, rfl, rfl, by rw [List.size_toArray, hi.length]; exact hl, by simpa using vals_ints hi⟩, fun b u z => absurd z (by simp), fun b z => absurd rfl z, fun z => absurd rfl z⟩
  | none =>
    have off : ∀ {b : Addr} {u : HO}, (if b = a then some (HO.frz { cls := .type "list", data := .seq vs.toArray } (.lst (ns.map V.int))) else none) = some u → b = a ∧ u = .frz { cls := .type "list", data := .seq vs.toArray } (.lst (ns.map V.int)) := fun {b u} z => by
      split at z
      · rename_i q
        exact ⟨q, (Option.some.inj z).symm⟩
      · cases z
    refine ⟨fun b => if b = a then some (.frz { cls := .type "list", data := .seq vs.toArray } (.lst (ns.map V.int))) else none, fun b => ?_, .inl (.inr ⟨_, if_pos rfl⟩), fun b u z => ?_, fun b z => ?_, fun _ => hk⟩
    · show (if b = a then _ else none) = none ∨ ∃ o xs, (if b = a then _ else none) = some (HO.frz o (.lst xs))
      split
      · exact .inr ⟨_, _, rfl⟩
      · exact .inl rfl
    · obtain ⟨rfl, rfl⟩ := off z
      exact ⟨ha, by rw [List.length_map]; exact hl, vs, _, vals_ints hi, ha⟩
    · cases q : (if b = a then some (HO.frz { cls := .type "list", data := .seq vs.toArray } (.lst (ns.map V.int))) else none) with
      | none => exact absurd q z
      | some u => exact (off q).1
theorem law_callG {P : Program} {w : World} {K : PySem.W.Frag} {mg mb : Str → Option Value} {CX : CXT} {k : Nat} {fa a : Addr} {fd : FuncData} {x : Str} {sp : Sp} {s₁ : Shared} {vs : List Value} {ns : List Int}
    (KX : K.In s₁.heap) (hns : s₁.heap.Ns mainGlobals mg) (hb : s₁.heap.Ns builtinsNs mb) (hbb : ∀ x : Str, x ≠ "__name__" → mb x = bootBuiltins x) (hlim : s₁.heap.NoLimit) (hg : s₁.gens = #[])
    (ha : s₁.heap.get? a = some { cls := .type "list", data := .seq vs.toArray }) (hi : IntsAre vs ns) (hl : ns.length ≤ sizeLine) (hr : Room k callerA)
    (F : ∀ base : Heap, K.In base → base.Ns mainGlobals mg → FnG P w K mg base CX k fa fd [x] sp) (hbind : ∀ (s : Shared) (u : Value), BindsTo s fd ⟨[u], []⟩ [(x, u)])
    (hsp : ∀ H : Hp, Only H → SqL K H a (ns.map V.int) → sp [.ref a] H (fun v _ => v = .bl true) fun _ _ _ => False)
    (hCX : ∀ H e s', CX [] H s₁ (fun _ _ _ => False) e s' → False) :
    codeAny (model P w) callerA (.call (.ref fa) ⟨[.ref a], []⟩) (fun r s' => r = .ok (.ret (.bool true)) ∧ OldK s₁.heap s'.heap ∧ s'.os = s₁.os ∧ AllBare s'.gens) s₁ := by
  obtain ⟨H, HF⟩ := heapFor (P := P) (w := w) KX ha hi hl
  -- what isn't the script is hidden from what's tracked
  have free : ∀ {b : Addr} {o : Obj}, s₁.heap.get? b = some o → (∀ es ep, o.data = .dict es ep → H b = none) := fun {b o} e es ep d => by
    cases q : H b with
    | none => rfl
    | some u =>
      have := HF.at_ b (by rw [q]; exact Option.some_ne_none u)
      subst this
      rw [ha] at e
      cases e
      cases d
  have nsK : ∀ {b : Addr} {m : Str → Option Value}, s₁.heap.Ns b m → (hidT s₁.heap H).Ns b m := fun ⟨o, es, ep, e, d, r⟩ => ⟨o, es, ep, hidT_get e (free e es ep d), d, r⟩
  have hKb : K.In (hidT s₁.heap H) := fun b o e => hidT_get (KX b o e) (by
    cases q : H b with
    | none => rfl
    | some u =>
      have z := HF.at_ b (by rw [q]; exact Option.some_ne_none u)
      subst z
      rw [HF.own (by rw [q]; exact Option.some_ne_none u)] at e
      cases e)
  obtain ⟨mc, l1, l2⟩ := hlim
  have e0 : Env0 P w K mg (hidT s₁.heap H) callerA [] s₁ H := ⟨rfl, ⟨hKb, nsK hns, ⟨mb, nsK hb, hbb⟩, mc, nsK l1, l2⟩, fun b o e => of_hidT e, Nat.le_of_eq (hidT_size _ _), trivial, fun b z => absurd z (by simp [frs]), HF.hok, .of_eq hg⟩
  refine codeAny_mono ((F _ hKb (nsK hns)).go callerA [] s₁ H ⟨[.ref a], []⟩ [.ref a] [.ref a] _ _ rfl hr e0 (hbind s₁ (.ref a)) (.cons rfl .nil) (hsp H HF.only HF.seq)) fun r s' h => ?_
  match r, h with
  | .error e, h => exact (hCX H e s' h).elim
  | .ok (.ret u), h =>
    obtain ⟨v, H', os, bare, un, hok', r', q⟩ := h
    obtain rfl : v = .bl true := q
    obtain rfl : u = Value.bool true := r'
    refine ⟨rfl, OldK.of_keep fun b o e => ?_, os, bare⟩
    rcases HF.only b with q | ⟨ob, xs, q⟩
    · exact un.keep b o e q (by simp [frs]) (by simp)
    · obtain ⟨e1, _⟩ := HF.hok b _ q
      obtain ⟨e2, _⟩ := hok' b _ (un.frzs b ob _ q)
      rw [e] at e1
      cases e1
      exact e2
theorem walk_ofG {l : PySem.W.OpenLaw} {n k : Nat} {q : Program} {loose : List Str} {XP : (Str → Option Value) → Heap → Prop} {YP : World → Heap → Prop} {d : DefRec} {K : Params → PySem.W.Frag} {CX : World → CXT} {sp : World → Sp} {x : Str}
    (hn : l.most = some n) (hn2 : n ≤ sizeLine) (hdf : d.params.defaults = []) (hr : Room k callerA) (hY : ∀ (w : World) (h : Heap), YP w h → (K w.params).In h)
    (F : ∀ (w : World) (mg : Str → Option Value) (fa : Addr) (h : Heap), (K w.params).In h → h.Ns mainGlobals mg → mg d.name = some (.ref fa) →
      ∃ fd : FuncData, (∀ (s : Shared) (u : Value), BindsTo s fd ⟨[u], []⟩ [(x, u)]) ∧ ∀ base : Heap, (K w.params).In base → base.Ns mainGlobals mg → FnG l.prog w (K w.params) mg base (CX w) k fa fd [x] (sp w))
    (hsp : ∀ (w : World) (H : Hp) (a : Addr) (ns : List Int), ns.length ≤ n → (∀ z ∈ ns, Builtin.Int.intBits z ≤ 1048576) → Only H → SqL (K w.params) H a (ns.map V.int) → sp w [.ref a] H (fun v _ => v = .bl true) fun _ _ _ => False)
    (hCX : ∀ (w : World) (H : Hp) (s : Shared) (e : Value) (s' : Shared), CX w [] H s (fun _ _ _ => False) e s' → False) :
    PySem.W.WalkO q loose XP YP l.row.toRowW d [] (fun f vs => PySem.call f vs) := by
  refine Att.attach_callB hn hdf fun w s₀ s₁ mg mb fa o pm cd doc a vs ns G Y ho hd hcd hmg hobj hints hlen hbits hg => ?_
  obtain ⟨fd, hb, hF⟩ := F w mg fa _ (hY w _ Y) G.T.g hmg
  exact law_callG (hY w _ Y) G.T.g G.T.b G.T.builtins G.T.nolimit hg hobj hints (Nat.le_trans hlen hn2) hr hF hb (fun H hO hS => hsp w H a ns hlen hbits hO hS) fun H e s' => hCX w H s₁ e s'
end VI
/-! V31: in, not in; the law's promise with the script's bits -/
namespace VI
open PySem PySem.Spec L2
def flatD : D → Bool
  | .non => true
  | .int _ => true
  | .str _ => true
  | _ => false
def eqF : D → D → Bool
  | .non, .non => true
  | .int a, .int b => decide (a = b)
  | .str a, .str b => decide (a = b)
  | _, _ => false
def inF (x : D) (ds : List D) : Bool := ds.any fun y => eqF y x
def inFD : D → D → Option D
  | x, .lst _ ds => if flatD x && ds.all flatD then some (.bl (inF x ds)) else none
  | x, .tup ds => if flatD x && ds.all flatD then some (.bl (inF x ds)) else none
  | _, _ => none
def notO (o : Option D) : Option D := match o with
  | some (.bl b) => some (.bl (!b))
  | _ => none
section
variable {K : PySem.W.Frag} {mg : Mg} {Z : Addr → Prop} {H : Hp}
theorem flat_rep {d : D} {v : V} {F : List Addr} (r : Rep K mg Z H d v F) (h : flatD d = true) : flatV v = true ∧ ((d = .non ∧ v = .non) ∨ (∃ i, d = .int i ∧ v = .int i) ∨ ∃ x, d = .str x ∧ v = .str x) := by
  cases d <;> first | (exact absurd h Bool.false_ne_true) | (simp only [Rep] at r; obtain ⟨rfl, _⟩ := r; exact ⟨rfl, by simp⟩)
theorem flat_eq {d e : D} {v u : V} {F G : List Addr} (r : Rep K mg Z H d v F) (q : Rep K mg Z H e u G) (h : flatD d = true) (h' : flatD e = true) : eqV v u = eqF d e := by
  obtain ⟨_, r1⟩ := flat_rep r h
  obtain ⟨_, q1⟩ := flat_rep q h'
  rcases r1 with ⟨rfl, rfl⟩ | ⟨i, rfl, rfl⟩ | ⟨i, rfl, rfl⟩ <;> rcases q1 with ⟨rfl, rfl⟩ | ⟨j, rfl, rfl⟩ | ⟨j, rfl, rfl⟩ <;> first | rfl | (simp [eqV, eqF, beq_eq_decide])
theorem flat_reps {x : D} {v : V} {F : List Addr} (r : Rep K mg Z H x v F) (h : flatD x = true) : ∀ {ds : List D} {vs : List V} {G : List Addr}, Reps K mg Z H ds vs G → ds.all flatD = true → vs.all flatV = true ∧ inV v vs = inF x ds
  | [], vs, G, q, _ => by
    simp only [Reps] at q
    rw [q.1]
    exact ⟨rfl, rfl⟩
  | d :: ds, vs, G, q, hd => by
    simp only [Reps] at q
    obtain ⟨u, us, F1, F2, rfl, q1, q2, _⟩ := q
    rw [List.all_cons, Bool.and_eq_true] at hd
    obtain ⟨a, b⟩ := flat_reps r h q2 hd.2
    refine ⟨by rw [List.all_cons, (flat_rep q1 hd.1).1, a]; rfl, ?_⟩
    unfold inV inF at b ⊢
    rw [List.any_cons, List.any_cons, b, flat_eq q1 r hd.1 h]
end
section
variable {X : Cx}
theorem inF_sq {Z : Addr → Prop} {H : Hp} {d1 d2 d : D} {v1 v2 : V} {F1 F2 : List Addr} (ra : Rep X.K X.mg Z H d1 v1 F1) (rb : Rep X.K X.mg Z H d2 v2 F2) (e : inFD d1 d2 = some d) :
    ∃ p xs, v2 = .ref p ∧ (SqL X.K H p xs ∨ SqT X.K H p xs) ∧ flatV v1 = true ∧ xs.all flatV = true ∧ d = .bl (inV v1 xs) := by
  unfold inFD at e
  split at e
  · split at e
    · rename_i hc
      cases e
      rw [Bool.and_eq_true] at hc
      obtain ⟨a, vs, G, rfl, s, r⟩ := lst_sq rb
      obtain ⟨h1, h2⟩ := flat_reps ra hc.1 r hc.2
      exact ⟨a, vs, rfl, .inl s, (flat_rep ra hc.1).1, h1, by rw [h2]⟩
    · cases e
  · split at e
    · rename_i hc
      cases e
      rw [Bool.and_eq_true] at hc
      obtain ⟨a, vs, rfl, s, r⟩ := tup_read rb
      obtain ⟨h1, h2⟩ := flat_reps ra hc.1 r hc.2
      exact ⟨a, vs, rfl, .inr s, (flat_rep ra hc.1).1, h1, by rw [h2]⟩
    · cases e
  · cases e
theorem od_inF : OpD X (compareOp .In) inFD := by
  refine ⟨_, op_in_seq, fun {Z H d1 d2 d v1 v2 F1 F2 Q} zs ra rb e res => ?_⟩
  obtain ⟨p, xs, h1, h2, h3, h4, rfl⟩ := inF_sq ra rb e
  exact ⟨p, xs, h1, h2, h3, h4, res_flat zs res (by simp [Rep])⟩
theorem od_ninF : OpD X (compareOp .NotIn) (fun a b => notO (inFD a b)) := by
  refine ⟨_, op_notIn_seq, fun {Z H d1 d2 d v1 v2 F1 F2 Q} zs ra rb e res => ?_⟩
  dsimp only at e
  cases q : inFD d1 d2 with
  | none => rw [q] at e; cases e
  | some z =>
    obtain ⟨p, xs, h1, h2, h3, h4, rfl⟩ := inF_sq ra rb q
    rw [q] at e
    cases e
    exact ⟨p, xs, h1, h2, h3, h4, res_flat zs res (by simp [Rep])⟩
end
end VI
/-! V32: repr of data; in of deep lists and tuples, of dicts -/
namespace VI
open PySem PySem.Spec L2
/-- repr of a tuple, a list, of any depth -/
def reprP (d : D) : Option D := match d with
  | .tup _ | .lst _ _ => (match d.dat with
    | some p => if p.showable && p.canLay0 && decide (p.depth ≤ 140) && decide (p.shown.length ≤ 16777216) then some (.str p.shown) else none
    | none => none)
  | _ => none
section
variable {X : Cx}
theorem call_reprP (hg : X.A.guards = some []) (hu : X.A.units + 150 < cLine) : CallR X (.builtin "repr") (fun xs H Q => ∃ (a : Addr) (p : PyData), xs = [.ref a] ∧ Dp X.K H (.ref a) p ∧ p.showable = true ∧ p.canLay0 = true ∧ p.depth ≤ 140 ∧ p.shown.length ≤ sizeLine ∧ Q (.str p.shown) H) := by
  intro pins s σ H xs us Q I r h
  obtain ⟨a, p, rfl, hd, hs, hc, hz, hl, q⟩ := h
  obtain ⟨u, rfl, hr⟩ := vals1 r
  obtain rfl : u = Value.ref a := hr
  obtain ⟨as, rd⟩ := Dp.reads I p _ _ hd rfl
  refine repr_of_reads' rd hs (PyData.noDict_hsm (PyData.hasDict_of_canLay p hc)) hg (by omega) (fun _ _ e => e) (fun h' u tk hk => ?_) hl
  exact ⟨.str p.shown, H, I.kept hk, ⟨_, rfl⟩, q⟩
theorem c1_reprP (hg : X.A.guards = some []) (hu : X.A.units + 150 < cLine) : Call1D X (.builtin "repr") reprP := by
  refine ⟨_, call_reprP hg hu, fun {Z H d1 d v1 F1 Q} zs ra e res => ?_⟩
  have ref : refB d1 = true := by
    unfold reprP at e
    cases d1 <;> first | rfl | cases e
  obtain ⟨a, rfl⟩ := rep_ref ra ref
  unfold reprP at e
  have e' : (match d1.dat with
    | some p => if p.showable && p.canLay0 && decide (p.depth ≤ 140) && decide (p.shown.length ≤ 16777216) then some (D.str p.shown) else none
    | none => none) = some d := by
    cases d1 <;> first | exact e | cases e
  split at e'
  · rename_i p hp
    split at e'
    · rename_i hc
      cases e'
      simp only [Bool.and_eq_true, decide_eq_true_eq] at hc
      exact ⟨a, p, rfl, rep_dp ra hp, hc.1.1.1, hc.1.1.2, hc.1.2, by rw [sizeLine_eq]; exact hc.2, res_flat zs res (by simp [Rep])⟩
    · cases e'
  · cases e'
end
end VI
/-! V33: in of deep lists and tuples, of dicts -/
namespace VI
open PySem PySem.Spec L2
def inPD : D → D → Option D
  | x, .lst _ ds => (match x.dat, D.dats ds with
    | some p, some ps => if p.canLay0 && PyData.canLayAll0 ps && decide (p.depth ≤ 64) then some (.bl (ps.any fun z => PyData.eqv z p)) else none
    | _, _ => none)
  | x, .tup ds => (match x.dat, D.dats ds with
    | some p, some ps => if p.canLay0 && PyData.canLayAll0 ps && decide (p.depth ≤ 64) then some (.bl (ps.any fun z => PyData.eqv z p)) else none
    | _, _ => none)
  | _, _ => none
def inKD : D → D → Option D
  | x, .dct _ kvs => (match keyD x with
    | some k => some (.bl (dAt kvs k).isSome)
    | none => none)
  | _, _ => none
section
variable {X : Cx}
def rInP (K : PySem.W.Frag) (neg : Bool) : R2 := fun x y H Q => ∃ d ds, Dp K H x d ∧ (Dp K H y (.list ds) ∨ Dp K H y (.tuple ds)) ∧ d.canLay0 = true ∧ PyData.canLayAll0 ds = true ∧ d.depth ≤ 64 ∧ Q (.bl (if neg then !ds.any fun z => PyData.eqv z d else ds.any fun z => PyData.eqv z d)) H
theorem op_inP (hu : X.A.units + 150 < cLine) : OpR X (compareOp .In) (rInP X.K false) := by
  intro pins s σ H x y v u Q I rx ry h
  obtain ⟨d, ds, hd, he, sd, se, sz, q⟩ := h
  obtain ⟨as, r1⟩ := Dp.reads I d x v hd rx
  have hr : X.A.units + 1 + min (PyData.depthAll ds) d.depth < cLine := by have := Nat.min_le_right (PyData.depthAll ds) d.depth; omega
  rcases he with he | he
  · obtain ⟨bs, r2⟩ := Dp.reads I (.list ds) y u he ry
    exact SeqAt.in_list_reads r2 r1 se sd hr ⟨.bl _, H, I, rfl, q⟩
  · obtain ⟨bs, r2⟩ := Dp.reads I (.tuple ds) y u he ry
    exact SeqAt.in_tuple_reads r2 r1 se sd hr ⟨.bl _, H, I, rfl, q⟩
theorem op_ninP (hu : X.A.units + 150 < cLine) : OpR X (compareOp .NotIn) (rInP X.K true) := by
  intro pins s σ H x y v u Q I rx ry h
  obtain ⟨d, ds, hd, he, sd, se, sz, q⟩ := h
  obtain ⟨as, r1⟩ := Dp.reads I d x v hd rx
  have hr : X.A.units + 1 + min (PyData.depthAll ds) d.depth < cLine := by have := Nat.min_le_right (PyData.depthAll ds) d.depth; omega
  rcases he with he | he
  · obtain ⟨bs, r2⟩ := Dp.reads I (.list ds) y u he ry
    exact SeqAt.notIn_list_reads r2 r1 se sd hr ⟨.bl _, H, I, rfl, q⟩
  · obtain ⟨bs, r2⟩ := Dp.reads I (.tuple ds) y u he ry
    exact SeqAt.notIn_tuple_reads r2 r1 se sd hr ⟨.bl _, H, I, rfl, q⟩
theorem inP_rd {Z : Addr → Prop} {H : Hp} {d1 d2 d : D} {v1 v2 : V} {F1 F2 : List Addr} (ra : Rep X.K X.mg Z H d1 v1 F1) (rb : Rep X.K X.mg Z H d2 v2 F2) (e : inPD d1 d2 = some d) :
    ∃ p ps, Dp X.K H v1 p ∧ (Dp X.K H v2 (.list ps) ∨ Dp X.K H v2 (.tuple ps)) ∧ p.canLay0 = true ∧ PyData.canLayAll0 ps = true ∧ p.depth ≤ 64 ∧ d = .bl (ps.any fun z => PyData.eqv z p) := by
  unfold inPD at e
  split at e
  · rename_i x o ds
    split at e
    · rename_i p ps h1 h2
      split at e
      · rename_i hc
        cases e
        simp only [Bool.and_eq_true, decide_eq_true_eq] at hc
        exact ⟨p, ps, rep_dp ra h1, .inl (rep_dp rb (by unfold D.dat; rw [h2])), hc.1.1, hc.1.2, hc.2, rfl⟩
      · cases e
    · cases e
  · rename_i x ds
    split at e
    · rename_i p ps h1 h2
      split at e
      · rename_i hc
        cases e
        simp only [Bool.and_eq_true, decide_eq_true_eq] at hc
        exact ⟨p, ps, rep_dp ra h1, .inr (rep_dp rb (by unfold D.dat; rw [h2])), hc.1.1, hc.1.2, hc.2, rfl⟩
      · cases e
    · cases e
  · cases e
theorem od_inP (hu : X.A.units + 150 < cLine) : OpD X (compareOp .In) inPD := by
  refine ⟨_, op_inP hu, fun {Z H d1 d2 d v1 v2 F1 F2 Q} zs ra rb e res => ?_⟩
  obtain ⟨p, ps, h1, h2, h3, h4, h5, rfl⟩ := inP_rd ra rb e
  exact ⟨p, ps, h1, h2, h3, h4, h5, res_flat zs res (by simp [Rep])⟩
theorem od_ninP (hu : X.A.units + 150 < cLine) : OpD X (compareOp .NotIn) (fun a b => notO (inPD a b)) := by
  refine ⟨_, op_ninP hu, fun {Z H d1 d2 d v1 v2 F1 F2 Q} zs ra rb e res => ?_⟩
  dsimp only at e
  cases q : inPD d1 d2 with
  | none => rw [q] at e; cases e
  | some z =>
    obtain ⟨p, ps, h1, h2, h3, h4, h5, rfl⟩ := inP_rd ra rb q
    rw [q] at e
    cases e
    exact ⟨p, ps, h1, h2, h3, h4, h5, res_flat zs res (by simp [Rep])⟩
end
end VI
/-! V34: in of dicts; in of all kinds -/
namespace VI
open PySem PySem.Spec L2
section
variable {K : PySem.W.Frag} {mg : Mg} {Z : Addr → Prop} {H : Hp}
theorem dAt_val : ∀ {kvs : List (D × D)} {ks : List Key} {vs : List V} {F : List Addr} {k : Key}, Repk K mg Z H kvs vs F → keysD kvs = some ks → (valV (ks.zip vs) k).isSome = (dAt kvs k).isSome
  | [], ks, vs, F, k, r, h => by
    simp only [Repk, keysD, Option.some.injEq] at r h
    subst h
    rfl
  | (k0, x0) :: kvs, ks, vs, F, k, r, h => by
    simp only [Repk] at r
    obtain ⟨v, us, F1, F2, rfl, r1, r2, _⟩ := r
    simp only [keysD] at h
    split at h
    · rename_i a b ea eb
      cases h
      have ih := dAt_val (k := k) r2 eb
      unfold valV dAt
      rw [List.zip_cons_cons, ea]
      by_cases q : a = k
      · subst q
        simp
      · rw [List.find?_cons_of_neg (by simpa using q), if_neg (by simpa using q)]
        exact ih
    · cases h
theorem dct_read {o : Bool} {kvs : List (D × D)} {v : V} {F : List Addr} (r : Rep K mg Z H (.dct o kvs) v F) : ∃ a ks vs G, v = .ref a ∧ H a = some (.dK (ks.zip vs)) ∧ keysD kvs = some ks ∧ ks.Nodup ∧ Repk K mg Z H kvs vs G := by
  cases o with
  | true =>
    simp only [Rep] at r
    obtain ⟨a, ks, vs, G, e, t, q, r, f⟩ := r
    exact ⟨a, ks, vs, G, e, t, q.1, q.2, r⟩
  | false =>
    simp only [Rep] at r
    obtain ⟨a, ks, vs, e, t, z, q, r, f⟩ := r
    exact ⟨a, ks, vs, [], e, t, q.1, q.2, r⟩
end
section
variable {X : Cx}
def rInK (neg : Bool) : R2 := fun x y H Q => ∃ a kvs k, y = .ref a ∧ H a = some (.dK kvs) ∧ x = kV k ∧ Q (.bl (if neg then !(valV kvs k).isSome else (valV kvs k).isSome)) H
theorem op_inK (hu : X.A.units + 150 < cLine) : OpR X (compareOp .In) (rInK false) := by
  intro pins s σ H x y v u Q I rx ry h
  obtain ⟨a, kvs, k, rfl, hH, rfl, q⟩ := h
  obtain rfl : u = Value.ref a := ry
  exact d_in (by omega) I (DGet.k (k := k) hH) rx fun s3 I3 => ⟨.bl (valV kvs k).isSome, H, I3, rfl, q⟩
theorem op_ninK (hu : X.A.units + 150 < cLine) : OpR X (compareOp .NotIn) (rInK true) := by
  intro pins s σ H x y v u Q I rx ry h
  obtain ⟨a, kvs, k, rfl, hH, rfl, q⟩ := h
  obtain rfl : u = Value.ref a := ry
  exact d_notIn (by omega) I (DGet.k (k := k) hH) rx fun s3 I3 => ⟨.bl (!(valV kvs k).isSome), H, I3, rfl, q⟩
theorem inK_rd {Z : Addr → Prop} {H : Hp} {d1 d2 d : D} {v1 v2 : V} {F1 F2 : List Addr} (ra : Rep X.K X.mg Z H d1 v1 F1) (rb : Rep X.K X.mg Z H d2 v2 F2) (e : inKD d1 d2 = some d) :
    ∃ a kvs k, v2 = .ref a ∧ H a = some (.dK kvs) ∧ v1 = kV k ∧ d = .bl (valV kvs k).isSome := by
  unfold inKD at e
  split at e
  · split at e
    · rename_i k hk
      cases e
      obtain ⟨a, ks, vs, G, rfl, hH, hq, hn, r⟩ := dct_read rb
      exact ⟨a, _, k, rfl, hH, rep_key ra hk, by rw [dAt_val r hq]⟩
    · cases e
  · cases e
theorem od_inK (hu : X.A.units + 150 < cLine) : OpD X (compareOp .In) inKD := by
  refine ⟨_, op_inK hu, fun {Z H d1 d2 d v1 v2 F1 F2 Q} zs ra rb e res => ?_⟩
  obtain ⟨a, kvs, k, h1, h2, h3, rfl⟩ := inK_rd ra rb e
  exact ⟨a, kvs, k, h1, h2, h3, res_flat zs res (by simp [Rep])⟩
theorem od_ninK (hu : X.A.units + 150 < cLine) : OpD X (compareOp .NotIn) (fun a b => notO (inKD a b)) := by
  refine ⟨_, op_ninK hu, fun {Z H d1 d2 d v1 v2 F1 F2 Q} zs ra rb e res => ?_⟩
  dsimp only at e
  cases q : inKD d1 d2 with
  | none => rw [q] at e; cases e
  | some z =>
    obtain ⟨a, kvs, k, h1, h2, h3, rfl⟩ := inK_rd ra rb q
    rw [q] at e
    cases e
    exact ⟨a, kvs, k, h1, h2, h3, res_flat zs res (by simp [Rep])⟩
/-- in, of all kinds -/
def inD : D → D → Option D
  | a, .str z => inSD a (.str z)
  | a, .dct o kvs => inKD a (.dct o kvs)
  | a, .lst o ds => match inFD a (.lst o ds) with
    | some r => some r
    | none => inPD a (.lst o ds)
  | a, .tup ds => match inFD a (.tup ds) with
    | some r => some r
    | none => inPD a (.tup ds)
  | _, _ => none
def ninD (a b : D) : Option D := notO (inD a b)
theorem inD_cases {a b d : D} (h : inD a b = some d) : inSD a b = some d ∨ inKD a b = some d ∨ inFD a b = some d ∨ inPD a b = some d := by
  unfold inD at h
  split at h
  · exact .inl h
  · exact .inr (.inl h)
  · split at h
    · rename_i e; exact .inr (.inr (.inl (e.trans h)))
    · exact .inr (.inr (.inr h))
  · split at h
    · rename_i e; exact .inr (.inr (.inl (e.trans h)))
    · exact .inr (.inr (.inr h))
  · cases h
theorem or3 {f : Value → Value → Sem Value} {g g1 g2 g3 g4 : D → D → Option D} (h1 : OpD X f g1) (h2 : OpD X f g2) (h3 : OpD X f g3) (h4 : OpD X f g4) (h : ∀ a b d, g a b = some d → g1 a b = some d ∨ g2 a b = some d ∨ g3 a b = some d ∨ g4 a b = some d) : OpD X f g := by
  obtain ⟨r1, o1, q1⟩ := h1
  obtain ⟨r2, o2, q2⟩ := h2
  obtain ⟨r3, o3, q3⟩ := h3
  obtain ⟨r4, o4, q4⟩ := h4
  refine ⟨_, OpR.or o1 (OpR.or o2 (OpR.or o3 o4)), fun {Z H d1 d2 d v1 v2 F1 F2 Q} zs ra rb e res => ?_⟩
  rcases h _ _ _ e with e | e | e | e
  · exact .inl (q1 zs ra rb e res)
  · exact .inr (.inl (q2 zs ra rb e res))
  · exact .inr (.inr (.inl (q3 zs ra rb e res)))
  · exact .inr (.inr (.inr (q4 zs ra rb e res)))
theorem od_in (hu : X.A.units + 150 < cLine) : OpD X (compareOp .In) inD := or3 od_inS (od_inK hu) od_inF (od_inP hu) fun a b d h => inD_cases h
theorem ninS_eq {a b d : D} (h : notO (inSD a b) = some d) : ninSD a b = some d := by
  unfold inSD at h
  unfold ninSD
  split at h
  · split at h
    · exact h
    · cases h
  · cases h
theorem od_nin (hu : X.A.units + 150 < cLine) : OpD X (compareOp .NotIn) ninD := or3 od_ninS (od_ninK hu) od_ninF (od_ninP hu) fun a b d h => by
  unfold ninD at h
  cases q : inD a b with
  | none => rw [q] at h; cases h
  | some r =>
    rw [q] at h
    rcases inD_cases q with e | e | e | e
    · exact .inl (ninS_eq (by rw [e]; exact h))
    · exact .inr (.inl (by rw [e]; exact h))
    · exact .inr (.inr (.inl (by rw [e]; exact h)))
    · exact .inr (.inr (.inr (by rw [e]; exact h)))
end
end VI
/-! V35: sorted of texts; tuple * int; xs[::-1]; repr of all kinds -/
namespace VI
open PySem PySem.Spec L2
/-! ### sorting -/
section
variable {α : Type}
def insB (lt : α → α → Bool) (x : α) : List α → List α
  | [] => [x]
  | y :: r => if lt y x then y :: insB lt x r else x :: y :: r
def sortB (lt : α → α → Bool) : List α → List α
  | [] => []
  | x :: r => insB lt x (sortB lt r)
theorem insB_perm (lt : α → α → Bool) (x : α) : ∀ l : List α, (insB lt x l).Perm (x :: l)
  | [] => List.Perm.refl _
  | y :: r => by
    unfold insB
    split
    · exact ((insB_perm lt x r).cons y).trans (List.Perm.swap x y r)
    · exact List.Perm.refl _
theorem sortB_perm (lt : α → α → Bool) : ∀ l : List α, (sortB lt l).Perm l
  | [] => List.Perm.refl _
  | x :: r => (insB_perm lt x _).trans ((sortB_perm lt r).cons x)
theorem insB_pw {lt : α → α → Bool} (as : ∀ a b, lt a b = true → lt b a = false) (tr : ∀ a b c, lt b a = false → lt c b = false → lt c a = false) (x : α) : ∀ l : List α, l.Pairwise (fun a b => lt b a = false) → (insB lt x l).Pairwise (fun a b => lt b a = false)
  | [], _ => by simp [insB]
  | y :: r, h => by
    obtain ⟨h1, h2⟩ := List.pairwise_cons.mp h
    unfold insB
    split
    · rename_i q
      refine List.pairwise_cons.mpr ⟨fun z hz => ?_, insB_pw as tr x r h2⟩
      rcases List.mem_cons.mp ((insB_perm lt x r).mem_iff.mp hz) with rfl | hz
      · exact as _ _ q
      · exact h1 z hz
    · rename_i q
      refine List.pairwise_cons.mpr ⟨fun z hz => ?_, h⟩
      have q' : lt y x = false := by simpa using q
      rcases List.mem_cons.mp hz with rfl | hz
      · exact q'
      · exact tr _ _ _ q' (h1 z hz)
theorem sortB_pw {lt : α → α → Bool} (as : ∀ a b, lt a b = true → lt b a = false) (tr : ∀ a b c, lt b a = false → lt c b = false → lt c a = false) : ∀ l : List α, (sortB lt l).Pairwise (fun a b => lt b a = false)
  | [] => List.Pairwise.nil
  | x :: r => insB_pw as tr x _ (sortB_pw as tr r)
theorem perm_uniq {R : α → α → Prop} (an : ∀ a b, R a b → R b a → a = b) : ∀ {xs ys : List α}, xs.Perm ys → xs.Pairwise R → ys.Pairwise R → xs = ys
  | [], ys, h, _, _ => (List.Perm.nil_eq h)
  | x :: xs, [], h, _, _ => absurd h.length_eq (by simp)
  | x :: xs, y :: ys, h, h1, h2 => by
    obtain ⟨a1, a2⟩ := List.pairwise_cons.mp h1
    obtain ⟨b1, b2⟩ := List.pairwise_cons.mp h2
    have e : x = y := by
      rcases List.mem_cons.mp (h.mem_iff.mp (List.mem_cons_self (a := x) (l := xs))) with e | hx
      · exact e
      · rcases List.mem_cons.mp (h.mem_iff.mpr (List.mem_cons_self (a := y) (l := ys))) with e | hy
        · exact e.symm
        · exact an _ _ (a1 y hy) (b1 x hx)
    subst e
    rw [perm_uniq an (h.cons_inv) a2 b2]
end
/-- the order of texts -/
def ltT (a b : Str) : Bool := decide (a.cps.toList < b.cps.toList)
theorem ltT_as (a b : Str) (h : ltT a b = true) : ltT b a = false := by
  unfold ltT at *
  simp only [decide_eq_true_eq, decide_eq_false_iff_not] at *
  exact fun h2 => List.lt_irrefl _ (List.lt_trans h h2)
theorem ltT_tr (a b c : Str) (h1 : ltT b a = false) (h2 : ltT c b = false) : ltT c a = false := by
  unfold ltT at *
  simp only [decide_eq_false_iff_not, List.not_lt] at *
  exact List.le_trans h1 h2
theorem ltT_an (a b : Str) (h1 : ltT b a = false) (h2 : ltT a b = false) : a = b := by
  unfold ltT at *
  simp only [decide_eq_false_iff_not, List.not_lt] at *
  have e := List.le_antisymm h1 h2
  cases a; cases b
  simp only at e
  congr 1
  exact Array.toList_inj.mp e
abbrev sortS : List Str → List Str := sortB ltT
theorem rising_pw : ∀ (l : List Str) (p : Str), PyProof.Rows.risingS p l = true → (p :: l).Pairwise (fun a b => ltT b a = false)
  | [], p, _ => by simp
  | x :: r, p, h => by
    unfold PyProof.Rows.risingS at h
    rw [Bool.and_eq_true, PyProof.Rows.ltCps_eq] at h
    have ih := rising_pw r x h.2
    have h1 : ltT x p = false := by unfold ltT; simpa using h.1
    refine List.pairwise_cons.mpr ⟨fun z hz => ?_, ih⟩
    rcases List.mem_cons.mp hz with rfl | hz
    · exact h1
    · exact ltT_tr _ _ _ h1 ((List.pairwise_cons.mp ih).1 z hz)
theorem sortedS_pw {l : List Str} (h : PyProof.Rows.sortedS l = true) : l.Pairwise (fun a b => ltT b a = false) := by
  cases l with
  | nil => exact List.Pairwise.nil
  | cons x r => exact rising_pw r x h
theorem sortS_of {ys xs : List Str} (h : ys.Perm xs) (s : PyProof.Rows.sortedS ys = true) : ys = sortS xs :=
  perm_uniq (fun a b h1 h2 => ltT_an a b h1 h2) (h.trans (sortB_perm ltT xs).symm) (sortedS_pw s) (sortB_pw ltT_as ltT_tr xs)
def sortedTx : D → Option D
  | .lst _ xs => (strsD xs).bind fun ys => if ys.length < 64 then some (.lst true ((sortS ys).map .str)) else none
  | _ => none
theorem reps_strs {K : PySem.W.Frag} {mg : Mg} {Z : Addr → Prop} {H : Hp} : ∀ ns : List Str, Reps K mg Z H (ns.map D.str) (ns.map V.str) []
  | [] => Reps.nil
  | n :: ns => Reps.cons (F := []) (by simp [Rep]) (reps_strs ns)
section
variable {X : Cx}
theorem c1_sortS : Call1D X (.builtin "sorted") sortedTx := by
  refine ⟨fun vs H Q => rSortedS X.K vs H Q, cr_sortedS, fun {Z H d1 d v1 F1 Q} zs ra e res => ?_⟩
  unfold sortedTx at e
  split at e
  · rename_i o xs
    cases eb : strsD xs with
    | none => rw [eb] at e; cases e
    | some ys =>
      rw [eb] at e
      simp only [Option.bind_some] at e
      split at e
      · rename_i hl
        cases e
        obtain ⟨a, vs, G, rfl, s, r⟩ := lst_sq ra
        rw [strs_rep r eb] at s
        refine ⟨a, ys, rfl, s, hl, fun zs2 p hp hs hn => ?_⟩
        rw [sortS_of hp hs]
        refine res _ _ Z [p] (Alloc.own hn zs) ?_
        simp only [Rep]
        exact ⟨p, _, [], rfl, upd_same, reps_strs _, rfl⟩
      · cases e
  · cases e
end
/-! ### tuple * int -/
def repT : D → D → Option D
  | .tup xs, .int k => if D.owns xs then none else if xs = [] then none else if k < -1000 then none else if k ≤ 0 then some (.tup []) else if k = 1 then some (.tup xs) else if k ≤ 1000 ∧ xs.length ≤ 1000 then some (.tup (List.replicate k.toNat xs).flatten) else none
  | _, _ => none
section
open PyProof.Rows
theorem tuple_mul1 (l : Addr) (items : Array Value) (n : Nat) (dd : Option Addr) (sl : Array (Option Value)) (x : Int) (u : Tok) (c0 : (decide (x < -(2 ^ 63)) || decide (x ≥ 2 ^ 63)) = false) (c1 : (items.isEmpty || x == 1) = true) :
    Meets (Builtin.«tuple.__mul__» ⟨[.ref l, .int x u], []⟩) (fun _ R s => s.heap.get? l = some { cls := .type "tuple", dict := dd, data := .seq items n, slots := sl } ∧ R (.ok (.ret (Value.ref l))) s) :=
  .of_wp fun prog w A R s h => by
    obtain ⟨hp, g, d, tk, os⟩ := s
    obtain ⟨hl, h⟩ := h
    have f1 := AutoSeq1.idx_int
    wp_walk using wpAny_loadPart' hl
    repeat (first
      | (refine wpAny_ite_false (decide_eq_false (by rw [c0]; exact Bool.false_ne_true)) ?_; wp_walk using wpAny_loadPart' hl)
      | (refine wpAny_ite_true (decide_eq_true c1) ?_; wp_walk using wpAny_loadPart' hl))
    exact ⟨_, rfl, h⟩
theorem tuple_mul0 (l : Addr) (items : Array Value) (n : Nat) (dd : Option Addr) (sl : Array (Option Value)) (x : Int) (u : Tok) (c0 : (decide (x < -(2 ^ 63)) || decide (x ≥ 2 ^ 63)) = false) (c1 : (items.isEmpty || x == 1) = false) (c2 : (decide (x ≤ 0) || items.isEmpty) = true) :
    Meets (Builtin.«tuple.__mul__» ⟨[.ref l, .int x u], []⟩) (fun _ R s => s.heap.get? l = some { cls := .type "tuple", dict := dd, data := .seq items n, slots := sl } ∧
      R (.ok (.ret (Value.ref s.heap.objs.size))) { s with heap := s.heap.push { cls := Value.type "tuple", data := Data.seq #[] }, toks := s.toks }) :=
  .of_wp fun prog w A R s h => by
    obtain ⟨hp, g, d, tk, os⟩ := s
    obtain ⟨hl, h⟩ := h
    have f1 := AutoSeq1.idx_int
    wp_walk using wpAny_loadPart' hl
    repeat (first
      | (refine wpAny_ite_false (decide_eq_false (by rw [c0]; exact Bool.false_ne_true)) ?_; wp_walk using wpAny_loadPart' hl)
      | (refine wpAny_ite_false (decide_eq_false (by rw [c1]; exact Bool.false_ne_true)) ?_; wp_walk using wpAny_loadPart' hl)
      | (refine wpAny_ite_true (decide_eq_true c2) ?_; wp_walk using wpAny_loadPart' hl))
    exact ⟨_, rfl, h⟩
end
def rRepT1 (K : PySem.W.Frag) : R2 := fun x y H Q => ∃ l k xs, x = .ref l ∧ y = .int k ∧ SqT K H l xs ∧ xs ≠ [] ∧ -1000 ≤ k ∧ k ≤ 1 ∧ (k = 1 → Q (.ref l) H) ∧ (k ≤ 0 → ∀ p, H p = none → Q (.ref p) (upd H p (.tup [])))
section
variable {X : Cx}
open PyProof.Rows in
theorem op_repT1 : OpR X (binaryOp .Mult) (rRepT1 X.K) := by
  intro pins s σ H x y v u Q I rx ry h
  obtain ⟨l, k, xs, rfl, rfl, hT, hne, h1, h2, q1, q0⟩ := h
  cases rx
  obtain ⟨t, rfl⟩ := ry
  obtain ⟨its, r, ⟨⟨cls, dd, data, sl⟩, ho, hc, n, hd⟩, hs⟩ := I.tuple hT
  simp only at hc hd
  subst hc hd
  have hle : its.length = xs.length := r.length.symm
  have hn : its ≠ [] := fun e => hne (by
    rw [e] at hle
    exact List.eq_nil_of_length_eq_zero hle.symm)
  have hi : its.toArray.isEmpty = false := by
    cases its with
    | nil => exact absurd rfl hn
    | cons a b => rfl
  have c0 : (decide (k < -(2 ^ 63)) || decide (k ≥ 2 ^ 63)) = false := by
    rw [decide_eq_false (by omega), decide_eq_false (by omega)] <;> rfl
  by_cases hk : k = 1
  · subst hk
    refine wpAny_binaryOp_repeat_ref (T := "tuple") (U := "int") (by decide) ⟨_, ho, rfl⟩ (fun s' => typeIs_int s' 1 t) noFill_tuple_mul F.fills_int_mul F.slot_int_rmul repeat_tuple F.slot_int_index.lookup
      (call_meets F.slot_int_rmul (typeIs_int s 1 t) F.entry_int_rmul (F.args_int_rmul_2 _ _) (int_rmul_tuple 1 t l its.toArray n dd sl)
        ⟨ho, rfl, ⟨_, ho, rfl⟩, call_meets F.slot_tuple_mul ⟨_, ho, rfl⟩ F.entry_tuple_mul (F.args_tuple_mul_2 _ _) (tuple_mul1 l its.toArray n dd sl 1 t c0 (by rw [hi]; rfl)) ⟨ho, ?_⟩⟩)
    exact ⟨.ref l, H, I, rfl, q1 rfl⟩
  · have c1 : (its.toArray.isEmpty || k == 1) = false := by
      rw [hi, Bool.false_or]
      exact beq_eq_false_iff_ne.mpr (by omega)
    have c2 : (decide (k ≤ 0) || its.toArray.isEmpty) = true := by
      rw [decide_eq_true (by omega)]; rfl
    refine wpAny_binaryOp_repeat_ref (T := "tuple") (U := "int") (by decide) ⟨_, ho, rfl⟩ (fun s' => typeIs_int s' k t) noFill_tuple_mul F.fills_int_mul F.slot_int_rmul repeat_tuple F.slot_int_index.lookup
      (call_meets F.slot_int_rmul (typeIs_int s k t) F.entry_int_rmul (F.args_int_rmul_2 _ _) (int_rmul_tuple k t l its.toArray n dd sl)
        ⟨ho, rfl, ⟨_, ho, rfl⟩, call_meets F.slot_tuple_mul ⟨_, ho, rfl⟩ F.entry_tuple_mul (F.args_tuple_mul_2 _ _) (tuple_mul0 l its.toArray n dd sl k t c0 c1 c2) ⟨ho, ?_⟩⟩)
    refine ⟨.ref s.heap.objs.size, _, I.laid (t' := s.toks) (o := .tup []) (fun b ob q => Heap.get?_push_of_some _ q) (Nat.le_refl _) ?_, rfl, q0 (by omega) _ (I.hok.fresh (Nat.le_refl _))⟩
    exact ⟨by rw [sizeLine_eq]; decide, _, .nil, IsTup.new _ _⟩
theorem reps_rep {K : PySem.W.Frag} {mg : Mg} {Z : Addr → Prop} {H : Hp} {xs : List D} {vs : List V} (r : Reps K mg Z H xs vs []) : ∀ m : Nat, Reps K mg Z H (List.replicate m xs).flatten (List.replicate m vs).flatten []
  | 0 => Reps.nil
  | m + 1 => by
    rw [List.replicate_succ, List.replicate_succ, List.flatten_cons, List.flatten_cons]
    exact Reps.app r (reps_rep r m)
theorem repT_cases {xs : List D} {k : Int} {d : D} (e : repT (.tup xs) (.int k) = some d) : D.owns xs = false ∧ xs ≠ [] ∧ -1000 ≤ k ∧ ((k ≤ 0 ∧ d = .tup []) ∨ (k = 1 ∧ d = .tup xs) ∨ (2 ≤ k ∧ k ≤ 1000 ∧ xs.length ≤ 1000 ∧ d = .tup (List.replicate k.toNat xs).flatten)) := by
  unfold repT at e
  dsimp only at e
  by_cases ho : D.owns xs = true
  · rw [if_pos ho] at e; cases e
  rw [if_neg ho] at e
  by_cases hx : xs = []
  · rw [if_pos hx] at e; cases e
  rw [if_neg hx] at e
  by_cases hl : k < -1000
  · rw [if_pos hl] at e; cases e
  rw [if_neg hl] at e
  refine ⟨by simpa using ho, hx, by omega, ?_⟩
  by_cases h0 : k ≤ 0
  · rw [if_pos h0] at e; cases e; exact .inl ⟨h0, rfl⟩
  rw [if_neg h0] at e
  by_cases h1 : k = 1
  · rw [if_pos h1] at e; cases e; exact .inr (.inl ⟨h1, rfl⟩)
  rw [if_neg h1] at e
  by_cases h2 : k ≤ 1000 ∧ xs.length ≤ 1000
  · rw [if_pos h2] at e; cases e; exact .inr (.inr ⟨by omega, h2.1, h2.2, rfl⟩)
  · rw [if_neg h2] at e; cases e
theorem od_repT1 : OpD X (binaryOp .Mult) (fun a b => match a, b with
    | .tup xs, .int k => if k ≤ 1 then repT (.tup xs) (.int k) else none
    | _, _ => none) := by
  refine ⟨_, op_repT1, fun {Z H d1 d2 d v1 v2 F1 F2 Q} zs ra rb e res => ?_⟩
  dsimp only at e
  split at e
  · rename_i xs k
    by_cases hk : k ≤ 1
    · rw [if_pos hk] at e
      obtain ⟨ho, hx, hlo, hc⟩ := repT_cases e
      have ra' := ra
      obtain ⟨a, vs, rfl, s1, r1⟩ := tup_read ra
      have e1 := r1.unown ho
      subst e1
      simp only [Rep] at rb
      refine ⟨a, k, vs, rfl, rb.1, s1, fun z => hx ?_, hlo, hk, fun h1 => ?_, fun h0 p hp => ?_⟩
      · subst z
        exact List.eq_nil_of_length_eq_zero (by simpa using r1.length.symm)
      · obtain ⟨h, _⟩ | ⟨_, rfl⟩ | ⟨h, _⟩ := hc
        · omega
        · exact res_flat zs res ra'
        · omega
      · obtain ⟨_, rfl⟩ | ⟨h, _⟩ | ⟨h, _⟩ := hc
        · refine res _ _ _ [] (Alloc.tup hp) ?_
          simp only [Rep]
          exact ⟨p, [], rfl, .inl ⟨.inr rfl, .inl upd_same⟩, Reps.nil⟩
        · omega
        · omega
    · rw [if_neg hk] at e; cases e
  · cases e
theorem od_repT2 : OpD X (binaryOp .Mult) (fun a b => match a, b with
    | .tup xs, .int k => if k ≤ 1 then none else repT (.tup xs) (.int k)
    | _, _ => none) := by
  refine ⟨_, op_repT, fun {Z H d1 d2 d v1 v2 F1 F2 Q} zs ra rb e res => ?_⟩
  dsimp only at e
  split at e
  · rename_i xs k
    by_cases hk : k ≤ 1
    · rw [if_pos hk] at e; cases e
    · rw [if_neg hk] at e
      obtain ⟨ho, hx, hlo, hc⟩ := repT_cases e
      obtain ⟨a, vs, rfl, s1, r1⟩ := tup_read ra
      have e1 := r1.unown ho
      subst e1
      simp only [Rep] at rb
      obtain ⟨h, _⟩ | ⟨h, _⟩ | ⟨h2, h3, h4, rfl⟩ := hc
      · omega
      · omega
      · refine ⟨a, k, vs, rfl, rb.1, s1, fun z => hx ?_, h2, h3, by rw [r1.length]; exact h4, fun p hp => ?_⟩
        · subst z
          exact List.eq_nil_of_length_eq_zero (by simpa using r1.length.symm)
        have al : Alloc Z H (fun a => Z a ∨ a = p) (upd H p (.tup (List.replicate k.toNat vs).flatten)) [] := Alloc.tup hp
        refine res _ _ _ [] al ?_
        simp only [Rep]
        exact ⟨p, _, rfl, .inl ⟨.inr rfl, .inl upd_same⟩, Reps.stay (al.stay zs) (reps_rep r1 _) (fun _ h => by simp at h)⟩
  · cases e
theorem od_repT : OpD X (binaryOp .Mult) repT := OpD.or od_repT1 od_repT2 fun a b d e => by
  unfold repT at e
  split at e
  · rename_i xs k
    by_cases hk : k ≤ 1
    · exact .inl (by simp only [if_pos hk]; exact e)
    · exact .inr (by simp only [if_neg hk]; exact e)
  · cases e
def mulD (a b : D) : Option D := match a with
  | .tup _ => repT a b
  | _ => mulI a b
theorem od_mul : OpD X (binaryOp .Mult) mulD := OpD.or od_repT od_mulI fun a b d e => by
  unfold mulD at e
  split at e
  · exact .inl e
  · exact .inr e
end
/-! ### xs[::-1] -/
def revD : D → Option D
  | .lst _ xs => if D.owns xs then none else some (.lst true xs.reverse)
  | _ => none
section
variable {X : Cx} {e : Expr} {f : M D} {T : Nat → Bool} {s : Option Nat} {k : Nat} {p1 p2 p3 pos : Pos}
theorem Reps.rev {K : PySem.W.Frag} {mg : Mg} {Z : Addr → Prop} {H : Hp} : ∀ {xs : List D} {vs : List V}, Reps K mg Z H xs vs [] → Reps K mg Z H xs.reverse vs.reverse []
  | [], vs, r => by
    simp only [Reps] at r
    rw [r.1]
    exact Reps.nil
  | x :: xs, vs, r => by
    simp only [Reps] at r
    obtain ⟨v, us, F1, F2, rfl, r1, r2, f⟩ := r
    obtain ⟨rfl, rfl⟩ := rep_nil2 f
    rw [List.reverse_cons, List.reverse_cons]
    exact Reps.app (F := []) (G := []) (Reps.rev r2) (Reps.one r1)
theorem ve_rev (he : VE X e f T s) : VE X (.Subscript e (.Slice none none (some (.UnaryOp .USub (.Constant (.int 1) k p1) p2)) p3) pos) (oneM f revD) T none :=
  ⟨fun W tk => pe_imp (pe_revL (he.run W tk)) fun σ H Q h => tE_one (r := fun x H1 Q => ∃ a xs, x = .ref a ∧ SqL X.K H1 a xs ∧ ∀ p, H1 p = none → Q (.ref p) (upd H1 p (.lst xs.reverse))) (fun {Z H d1 d v1 F1 Q} zs ra e res => by
    unfold revD at e
    split at e
    · split at e
      · cases e
      · rename_i ho
        cases e
        obtain ⟨a, vs, G, rfl, sq, r⟩ := lst_sq ra
        have e1 := r.unown (by simpa using ho)
        subst e1
        refine ⟨a, vs, rfl, sq, fun p hp => ?_⟩
        have al : Alloc Z H Z (upd H p (.lst vs.reverse)) [p] := Alloc.own hp zs
        refine res _ _ Z [p] al ?_
        simp only [Rep]
        exact ⟨p, _, [], rfl, upd_same, Reps.stay (al.stay zs) (Reps.rev r) (fun _ h => by simp at h), rfl⟩
    · cases e) h⟩
end
end VI
/-! V36: short rules for the printed bodies, further -/
namespace VI
open PySem PySem.Spec L2
def reprS : D → Option D
  | _ => none
/-- repr of all kinds -/
def reprD (d : D) : Option D := match d with
  | .int _ => reprI d
  | _ => reprP d
section
variable {X : Cx} {e a b c f : Expr} {pos p p2 apos cpos : Pos} {fa fb fc fe ff : M D} {Ta Tb Tc Te Tf : Nat → Bool} {s sa sb sc se sf : Option Nat} {x : Str}
theorem c1_repr (hg : X.A.guards = some []) (hu : X.A.units + 150 < cLine) : Call1D X (.builtin "repr") reprD := Call1D.or c1_reprI (c1_reprP hg hu) fun a d h => by
  unfold reprD at h
  split at h
  · exact .inl h
  · exact .inr h
theorem ekint {i : Int} (h : ∃ u, X.mg x = some u ∧ flatVB (.int i) u = true) (hg : Gl X x := by rfl) (hdb : (x == ("__debug__" : Str)) = false := by decide) : VE X (.Name x pos) (pur (.int i)) T0 none := by
  obtain ⟨u, h1, h2⟩ := h
  exact ve_kint h1 h2 hg hdb
theorem ekstr {i : Str} (h : ∃ u, X.mg x = some u ∧ flatVB (.str i) u = true) (hg : Gl X x := by rfl) (hdb : (x == ("__debug__" : Str)) = false := by decide) : VE X (.Name x pos) (pur (.str i)) T0 none := by
  obtain ⟨u, h1, h2⟩ := h
  exact ve_kstr h1 h2 hg hdb
theorem ektup {ds : List D} (h : ∃ u, X.mg x = some (.ref u) ∧ tupB X.K u ds = true) (hg : Gl X x := by rfl) (hdb : (x == ("__debug__" : Str)) = false := by decide) : VE X (.Name x pos) (pur (.tup ds)) T0 none := by
  obtain ⟨u, h1, h2⟩ := h
  exact ve_ktup h1 h2 hg hdb
theorem ekget {kvs : List (Str × Int)} (k : Bool) (h : ∃ a, X.mg x = some (.ref a) ∧ KDictOk X.K X.w a kvs) (he : VE X e fe Te se) (hf : VE X f ff Tf sf) (hk : k = true → ∀ i, se = some i → Tf i = false := by first | (intro h; exact Bool.noConfusion h) | (intro _ i h; cases h; rfl) | (intro _ i h; cases h))
    (hg : Gl X x := by rfl) (m : M2 X (.Name x p) "get" apos e f cpos := by exact ⟨rfl, rfl, rfl, rfl⟩) (hdb : (x == ("__debug__" : Str)) = false := by decide) :
    VE X (.Call (.Attribute (.Name x p) "get" apos) [e, f] [] cpos) (twoM k fe ff (kgetD kvs)) (tor Te Tf) none := by
  obtain ⟨u, h1, h2⟩ := h
  exact ve_kget k h2 h1 he hf hk hg m hdb
/-- what is known of an exception class that is raised -/
structure RaiOk (K : PySem.W.Frag) (mg : Mg) (x : Str) : Prop where
  ex : ∃ C, mg x = some (.ref C) ∧ PySem.W.excIn K C [.type "ValueError", .type "Exception", .type "BaseException", .type "object"] "ValueError.__new__" = true ∧ PySem.W.keepIn K (.ref C) = true ∧ PySem.W.subIn K (.ref C) (.type "BaseException") = some true ∧ PySem.W.typeIn K (.ref C) = some (.type "type")
theorem vrai (h : RaiOk X.K X.mg x) (he : VE X e fa Ta none) (hg : Gl X x := by rfl) (hc : X.calm = true := by rfl)
    (hs : starEach [e] X.env = (false, eval e X.env) :: starEach [] X.env := by rfl) (hdb : (x == ("__debug__" : Str)) = false := by decide) : VS X (.Raise (some (.Call (.Name x p) [e] [] pos)) none p2) (raiseM x fa) Ta := by
  obtain ⟨C, h1, h2, h3, h4, h5⟩ := h.ex
  exact vs_raise1 PySem.F.excBase_ValueError h2 h1 h3 h4 h5 he hg hc hs hdb
/-- what is known of a class that an except clause names -/
structure ExmOk (K : PySem.W.Frag) (mg : Mg) (x : Str) (te : List (Str × Bool)) : Prop where
  ex : ∃ c, mg x = some (.ref c) ∧ ∀ p ∈ te, ∀ C, mg p.1 = some (.ref C) → PySem.W.exmOne K (.ref C) (.ref c) = some p.2
def exmB (K : PySem.W.Frag) (c : Value) (l : List (Str × Addr × Bool)) : Bool := l.all fun q => decide (PySem.W.exmOne K (.ref q.2.1) c = some q.2.2)
theorem exm_of {K : PySem.W.Frag} {mg : Mg} {c : Value} (l : List (Str × Addr × Bool)) (hg : ∀ q ∈ l, mg q.1 = some (.ref q.2.1)) (hb : exmB K c l = true) : ∀ p ∈ l.map (fun q => (q.1, q.2.2)), ∀ C, mg p.1 = some (.ref C) → PySem.W.exmOne K (.ref C) c = some p.2 := by
  intro p hp C hC
  obtain ⟨q, hq, rfl⟩ := List.mem_map.mp hp
  have h1 := hg q hq
  simp only at hC
  rw [h1] at hC
  cases hC
  have := List.all_eq_true.mp hb q hq
  simpa using this
theorem vtry {n : Str} {i : Nat} {body suite : List Stmt} {b₀ : Stmt} {np_ pos' : Pos} {fb fs : M Fl} {Tb Ts : Nat → Bool} {te : List (Str × Bool)} (h : ExmOk X.K X.mg x te) (hN : X.N.Nodup)
    (hb : ∀ (pn : List (Addr × Obj)) (xe : Value → Shared → Prop), PassesOwn (model X.prog X.w) X.A X.env xe → VSs (X.tr pn xe) body fb Tb)
    (hsu : ∀ (a : Addr) (pn : List (Addr × Obj)), VSs (X.suite a pn) (b₀ :: suite) fs Ts)
    (hs : X.stack = X.env :: X.outer := by rfl) (hf : X.env.frame = some X.env.locals := by rfl) (hi : X.N[i]? = some n := by rfl) (hln : X.env.kindOf n = some .local := by rfl) (hg : Gl X x := by rfl) (hd : (x == ("__debug__" : Str)) = false := by decide) (hex : X.ex = [] := by rfl) :
    VS X (.Try body [.ExceptHandler (some (.Name x np_)) (some n) (b₀ :: suite) pos'] [] [] pos) (tryM i te fb fs) (tor Tb (tor (T1' i) Ts)) := by
  obtain ⟨c, h1, h2⟩ := h.ex
  exact vs_try hs hf hN hi hln ⟨hg, hd, .inl h1⟩ hex h2 hb hsu
end
end VI
namespace PL
open PySem PySem.Spec L2 VI
def tb_str : List (String × Bool) := [("NoneType", false), ("bool", false), ("int", false), ("str", true), ("tuple", false), ("list", false), ("dict", false)]
def te_str : List (Str × Bool) := [("HandError", false), ("BadDeeds", false), ("BadHand", false), ("BadHouse", false), ("BadMachine", false), ("BadNode", false), ("BadRow", false), ("BadWay", false), ("BadPaper", false), ("NoName", false), ("TooGreat", false), ("BadText", false)]
def tb_tuple : List (String × Bool) := [("NoneType", false), ("bool", false), ("int", false), ("str", false), ("tuple", true), ("list", false), ("dict", false)]
def te_tuple : List (Str × Bool) := [("HandError", false), ("BadDeeds", false), ("BadHand", false), ("BadHouse", false), ("BadMachine", false), ("BadNode", false), ("BadRow", false), ("BadWay", false), ("BadPaper", false), ("NoName", false), ("TooGreat", false), ("BadText", false)]
def tb_BadDeeds_BadHouse_BadMachine_BadNode_BadPaper : List (String × Bool) := [("NoneType", false), ("bool", false), ("int", false), ("str", false), ("tuple", false), ("list", false), ("dict", false)]
def te_BadDeeds_BadHouse_BadMachine_BadNode_BadPaper : List (Str × Bool) := [("HandError", false), ("BadDeeds", true), ("BadHand", false), ("BadHouse", true), ("BadMachine", true), ("BadNode", true), ("BadRow", false), ("BadWay", false), ("BadPaper", true), ("NoName", false), ("TooGreat", false), ("BadText", false)]
def tb_BadRow_BadText_BadWay_NoName_TooGreat : List (String × Bool) := [("NoneType", false), ("bool", false), ("int", false), ("str", false), ("tuple", false), ("list", false), ("dict", false)]
def te_BadRow_BadText_BadWay_NoName_TooGreat : List (Str × Bool) := [("HandError", false), ("BadDeeds", false), ("BadHand", false), ("BadHouse", false), ("BadMachine", false), ("BadNode", false), ("BadRow", true), ("BadWay", true), ("BadPaper", false), ("NoName", true), ("TooGreat", true), ("BadText", true)]
def tb_BadHand : List (String × Bool) := [("NoneType", false), ("bool", false), ("int", false), ("str", false), ("tuple", false), ("list", false), ("dict", false)]
def te_BadHand : List (Str × Bool) := [("HandError", false), ("BadDeeds", false), ("BadHand", true), ("BadHouse", false), ("BadMachine", false), ("BadNode", false), ("BadRow", false), ("BadWay", false), ("BadPaper", false), ("NoName", false), ("TooGreat", false), ("BadText", false)]
def tb_ValueError : List (String × Bool) := [("NoneType", false), ("bool", false), ("int", false), ("str", false), ("tuple", false), ("list", false), ("dict", false)]
def te_ValueError : List (Str × Bool) := [("HandError", true), ("BadDeeds", true), ("BadHand", true), ("BadHouse", true), ("BadMachine", true), ("BadNode", true), ("BadRow", true), ("BadWay", true), ("BadPaper", true), ("NoName", true), ("TooGreat", true), ("BadText", true)]
def em_HandError : List (Str × Bool) := [("HandError", true), ("BadDeeds", true), ("BadHand", true), ("BadHouse", true), ("BadMachine", true), ("BadNode", true), ("BadRow", true), ("BadWay", true), ("BadPaper", true), ("NoName", true), ("TooGreat", true), ("BadText", true)]
def kd_LONG_forms : List (Str × Int) := [("stop", 1), ("spin", 1), ("name", 2), ("then", 3), ("out", 3), ("own", 3), ("beside", 4), ("hide", 3), ("as", 3)]
def kd_LONG_surroundings : List (Str × Int) := [("then", 2), ("out", 2), ("own", 2), ("beside", 3), ("hide", 2), ("as", 2)]
/-- is_word: 0 thing 1 sign -/
def B_is_word : M Fl :=
    seqM (iteM (orM (notM (boolM (oneM (varM 0) (isiD tb_str te_str)))) (orM (notM (boolM (chainM leD leD (pur (.int 1)) (oneM (varM 0) lenD) (pur (.int 6))))) (boolM (twoM true (varM 0) (pur (.tup [.str "stop", .str "spin", .str "out", .str "own", .str "beside", .str "hide", .str "as"])) inD)))) (retM (pur (.bl false))) (pur .nx))
    (retM (oneM (compM [1] (seqI (varM 0)) (gnM 1) (pur true) (twoM true (varM 1) (pur (.str "abcdefghijklmnopqrstuvwxyz")) inD)) allD))
/-- is_row: 0 thing 1 deed -/
def B_is_row (f_is_word : List D → CRes) : M Fl :=
    retM (andD (oneM (varM 0) (isiD tb_tuple te_tuple)) (oneM (compM [1] (seqI (varM 0)) (gnM 1) (pur true) (callM f_is_word (narM 1 (pur [])))) allD))
/-- is_rising: 0 texts 1 one 2 other -/
def B_is_rising : M Fl :=
    retM (oneM (compM [1, 2] (zipI true (varM 0) (sliceM true (varM 0) (partM (pur (.int 1))) (pur none))) (gtM 2 (gconsM (gnM 1) (gconsM (gnM 2) (gnilM)))) (pur true) (twoM true (varM 1) (varM 2) ltD)) allD)
/-- is_set: 0 thing -/
def B_is_set (f_is_row f_is_rising : List D → CRes) : M Fl :=
    retM (andD (callM f_is_row (narM 0 (pur []))) (andD (twoM true (oneM (varM 0) lenD) (pur (.int 8)) leD) (callM f_is_rising (narM 0 (pur [])))))
/-- is_pairs: 0 thing 1 pair 2 deed -/
def B_is_pairs (f_is_word f_is_rising : List D → CRes) : M Fl :=
    seqM (iteM (orM (notM (boolM (oneM (varM 0) (isiD tb_tuple te_tuple)))) (boolM (twoM true (oneM (varM 0) lenD) (pur (.int 8)) gtD))) (retM (pur (.bl false))) (pur .nx))
    (seqM (forS (seqI (varM 0)) (gnM 1) (iteM (orM (notM (boolM (oneM (varM 1) (isiD tb_tuple te_tuple)))) (orM (boolM (twoM true (oneM (varM 1) lenD) (pur (.int 2)) neD)) (notM (boolM (oneM (compM [2] (seqI (varM 1)) (gnM 2) (pur true) (callM f_is_word (narM 2 (pur [])))) allD))))) (retM (pur (.bl false))) (pur .nx)))
    (retM (callM f_is_rising (argM (compM [1] (seqI (varM 0)) (gnM 1) (pur true) (twoM true (varM 1) (pur (.int 0)) ixD)) (pur [])))))
/-- is_form: 0 thing -/
def B_is_form (f_is_word f_is_set f_is_pairs : List D → CRes) : M Fl :=
    seqM (iteM (orM (notM (boolM (oneM (varM 0) (isiD tb_tuple te_tuple)))) (orM (boolM (twoM true (varM 0) (tupM (pur [])) eqD)) (notM (boolM (oneM (twoM true (varM 0) (pur (.int 0)) ixD) (isiD tb_str te_str)))))) (retM (pur (.bl false))) (pur .nx))
    (seqM (iteM (boolM (twoM true (twoM true (twoM true (varM 0) (pur (.int 0)) ixD) (pur (.int 0)) (kgetD kd_LONG_forms)) (oneM (varM 0) lenD) neD)) (retM (pur (.bl false))) (pur .nx))
    (seqM (iteM (boolM (twoM true (twoM true (varM 0) (pur (.int 0)) ixD) (tupM (consM (pur (.str "name")) (consM (pur (.str "then")) (pur [])))) inD)) (retM (callM f_is_word (argM (twoM true (varM 0) (pur (.int 1)) ixD) (pur [])))) (pur .nx))
    (seqM (iteM (boolM (twoM true (twoM true (varM 0) (pur (.int 0)) ixD) (tupM (consM (pur (.str "beside")) (consM (pur (.str "hide")) (pur [])))) inD)) (retM (callM f_is_set (argM (twoM true (varM 0) (pur (.int 2)) ixD) (pur [])))) (pur .nx))
    (retM (orD (twoM true (twoM true (varM 0) (pur (.int 0)) ixD) (pur (.str "as")) neD) (callM f_is_pairs (argM (twoM true (varM 0) (pur (.int 2)) ixD) (pur []))))))))
/-- beneath: 0 hand -/
def B_beneath : M Fl :=
    seqM (iteM (boolM (twoM true (twoM true (varM 0) (pur (.int 0)) ixD) (pur (.str "then")) eqD)) (retM (lstM (consM (twoM true (varM 0) (pur (.int 2)) ixD) (pur [])))) (pur .nx))
    (seqM (iteM (boolM (twoM true (twoM true (varM 0) (pur (.int 0)) ixD) (tupM (consM (pur (.str "out")) (consM (pur (.str "own")) (pur [])))) inD)) (retM (lstM (consM (twoM true (varM 0) (pur (.int 1)) ixD) (consM (twoM true (varM 0) (pur (.int 2)) ixD) (pur []))))) (pur .nx))
    (seqM (iteM (boolM (twoM true (twoM true (varM 0) (pur (.int 0)) ixD) (pur (.str "beside")) eqD)) (retM (lstM (consM (twoM true (varM 0) (pur (.int 1)) ixD) (consM (twoM true (varM 0) (pur (.int 3)) ixD) (pur []))))) (pur .nx))
    (retM (iteM (boolM (twoM true (twoM true (varM 0) (pur (.int 0)) ixD) (tupM (consM (pur (.str "hide")) (consM (pur (.str "as")) (pur [])))) inD)) (lstM (consM (twoM true (varM 0) (pur (.int 1)) ixD) (pur []))) (lstM (pur []))))))
/-- is_hand: 0 thing 1 waiting 2 many 3 here 4 deep 5 part -/
def B_is_hand (f_is_form f_beneath : List D → CRes) : M Fl :=
    seqM (asgM 1 (lstM (consM (tupM (consM (keepM 0) (consM (pur (.int 1)) (pur [])))) (pur []))))
    (seqM (asgM 2 (pur (.int 0)))
    (seqM (whileM 100000 (boolM (twoM true (varM 1) (lstM (pur [])) neD)) (seqM (asgtM (mthM 1 "list" popG (rootM 1) (pur [])) (gtM 2 (gconsM (gnM 3) (gconsM (gnM 4) (gnilM)))))
    (seqM (augM 2 addI (pur (.int 1)))
    (seqM (iteM (orM (boolM (twoM true (varM 2) (pur (.int 200)) gtD)) (orM (boolM (twoM true (varM 4) (pur (.int 40)) gtD)) (notM (boolM (callM f_is_form (narM 3 (pur []))))))) (retM (pur (.bl false))) (pur .nx))
    (exprM (mthM 1 "list" extendG (rootM 1) (consM (compM [5] (seqI (callM f_beneath (narM 3 (pur [])))) (gnM 5) (pur true) (tupM (consM (keepM 5) (consM (twoM true (varM 4) (pur (.int 1)) addD) (pur []))))) (pur []))))))))
    (retM (pur (.bl true)))))
/-- need_hand: 0 thing -/
def B_need_hand (f_is_hand : List D → CRes) : M Fl :=
    iteM (notM (boolM (callM f_is_hand (narM 0 (pur []))))) (raiseM "BadHand" (pur (.str "a hand is wanted"))) (pur .nx)
/-- is_step: 0 thing -/
def B_is_step (f_is_word f_is_hand f_is_pairs f_is_set : List D → CRes) : M Fl :=
    seqM (iteM (orM (notM (boolM (oneM (varM 0) (isiD tb_tuple te_tuple)))) (orM (boolM (twoM true (varM 0) (tupM (pur [])) eqD)) (notM (boolM (oneM (twoM true (varM 0) (pur (.int 0)) ixD) (isiD tb_str te_str)))))) (retM (pur (.bl false))) (pur .nx))
    (seqM (iteM (boolM (twoM true (twoM true (twoM true (varM 0) (pur (.int 0)) ixD) (pur (.int 0)) (kgetD kd_LONG_surroundings)) (oneM (varM 0) lenD) neD)) (retM (pur (.bl false))) (pur .nx))
    (seqM (iteM (boolM (twoM true (twoM true (varM 0) (pur (.int 0)) ixD) (pur (.str "then")) eqD)) (retM (callM f_is_word (argM (twoM true (varM 0) (pur (.int 1)) ixD) (pur [])))) (pur .nx))
    (seqM (iteM (boolM (twoM true (twoM true (varM 0) (pur (.int 0)) ixD) (tupM (consM (pur (.str "out")) (consM (pur (.str "own")) (pur [])))) inD)) (retM (callM f_is_hand (argM (twoM true (varM 0) (pur (.int 1)) ixD) (pur [])))) (pur .nx))
    (seqM (iteM (boolM (twoM true (twoM true (varM 0) (pur (.int 0)) ixD) (pur (.str "as")) eqD)) (retM (callM f_is_pairs (argM (twoM true (varM 0) (pur (.int 1)) ixD) (pur [])))) (pur .nx))
    (retM (andD (callM f_is_set (argM (twoM true (varM 0) (pur (.int 1)) ixD) (pur []))) (orD (twoM true (twoM true (varM 0) (pur (.int 0)) ixD) (pur (.str "hide")) eqD) (callM f_is_hand (argM (twoM true (varM 0) (pur (.int 2)) ixD) (pur []))))))))))
/-- need_surroundings: 0 thing 1 step -/
def B_need_surroundings (f_is_step : List D → CRes) : M Fl :=
    iteM (orM (notM (boolM (oneM (varM 0) (isiD tb_tuple te_tuple)))) (orM (boolM (twoM true (oneM (varM 0) lenD) (pur (.int 10)) gtD)) (notM (boolM (oneM (compM [1] (seqI (varM 0)) (gnM 1) (pur true) (callM f_is_step (narM 1 (pur [])))) allD))))) (raiseM "BadHand" (pur (.str "surroundings are wanted"))) (pur .nx)
/-- put_one: 0 hand 1 step -/
def B_put_one : M Fl :=
    seqM (iteM (boolM (twoM true (twoM true (varM 1) (pur (.int 0)) ixD) (pur (.str "then")) eqD)) (retM (tupM (consM (pur (.str "then")) (consM (twoM true (varM 1) (pur (.int 1)) ixD) (consM (keepM 0) (pur [])))))) (pur .nx))
    (retM (twoM true (tupM (consM (twoM true (varM 1) (pur (.int 0)) ixD) (consM (keepM 0) (pur [])))) (sliceM true (varM 1) (partM (pur (.int 1))) (pur none)) addD))
/-- put_round: 0 hand 1 steps 2 step -/
def B_put_round (f_need_hand f_need_surroundings f_put_one : List D → CRes) : M Fl :=
    seqM (exprM (callM f_need_hand (narM 0 (pur []))))
    (seqM (exprM (callM f_need_surroundings (narM 1 (pur []))))
    (seqM (forS (seqI (varM 1)) (gnM 2) (asgM 0 (callM f_put_one (narM 0 (narM 2 (pur []))))))
    (seqM (exprM (callM f_need_hand (narM 0 (pur []))))
    (retM (moveM 0)))))
/-- _law_mixed: 0 _law_cell 1 _law_k 2 _law_number -/
def B__law_mixed : M Fl :=
    seqM (asgM 2 (twoM true (twoM true (twoM true (twoM true (twoM true (varM 0) (twoM true (pur (.int 1)) (twoM true (pur (.int 2)) (varM 1) mulD) addD) mulD) (pur (.int 48271)) mulD) (pur (.int 2147483647)) modD) (twoM true (twoM true (pur (.int 7919)) (varM 1) mulD) (varM 1) mulD) addD) (twoM true (pur (.int 104729)) (varM 1) mulD) addD))
    (retM (twoM true (twoM true (twoM true (varM 2) (pur (.int 69621)) mulD) (pur (.int 2147483629)) modD) (pur (.int 7)) fdivD))
/-- _law_folded: 0 _law_script 1 _law_found 2 _law_k 3 _law_cell -/
def B__law_folded : M Fl :=
    seqM (asgM 1 (compM [2] (range1I (pur (.int 64))) (gnM 2) (pur true) (twoM true (pur (.int 17)) (varM 2) addD)))
    (seqM (forS (enumI (varM 0)) (gtM 2 (gconsM (gnM 2) (gconsM (gnM 3) (gnilM)))) (storeM 1 (twoM true (twoM true (twoM true (twoM true (varM 1) (twoM true (varM 2) (pur (.int 64)) modD) ixD) (pur (.int 48271)) mulD) (varM 3) addD) (pur (.int 2147483647)) modD) (rootM 1) (twoM true (varM 2) (pur (.int 64)) modD)))
    (seqM (forS (range2I (pur (.int 1)) (pur (.int 64))) (gnM 2) (storeM 1 (twoM true (twoM true (twoM true (varM 1) (varM 2) ixD) (twoM true (twoM true (varM 1) (twoM true (varM 2) (pur (.int 1)) subD) ixD) (pur (.int 16807)) mulD) addD) (pur (.int 2147483647)) modD) (rootM 1) (varM 2)))
    (retM (moveM 1))))
/-- _law_draw: 0 _law_m 1 _law_many 2 _law_k 3 _law_at 4 _law_cell -/
def B__law_draw (f__law_mixed : List D → CRes) : M Fl :=
    seqM (asgM 2 (plainM (getM 0 (pixM 0 (rootM 0) (pur (.str "at"))))))
    (seqM (storeM 0 (twoM true (varM 2) (pur (.int 1)) addD) (rootM 0) (pur (.str "at")))
    (seqM (iteM (boolM (twoM true (getM 0 (pixM 0 (rootM 0) (pur (.str "left")))) (lstM (pur [])) neD)) (seqM (asgM 3 (twoM true (varM 2) (oneM (getM 0 (pixM 0 (rootM 0) (pur (.str "left")))) lenD) modD))
    (seqM (asgM 4 (plainM (getM 0 (pixM 0 (pixM 0 (rootM 0) (pur (.str "left"))) (varM 3)))))
    (iteM (boolM (twoM true (varM 4) (pur (.int 0)) gtD)) (seqM (storeM 0 (twoM true (varM 4) (varM 1) fdivD) (pixM 0 (rootM 0) (pur (.str "left"))) (varM 3))
    (retM (twoM true (varM 4) (varM 1) modD))) (pur .nx)))) (pur .nx))
    (retM (twoM true (callM f__law_mixed (argM (callM f__law_mixed (argM (twoM true (getM 0 (pixM 0 (pixM 0 (rootM 0) (pur (.str "cells"))) (twoM true (varM 2) (pur (.int 64)) modD))) (twoM true (pur (.int 31)) (twoM true (varM 2) (pur (.int 64)) fdivD) mulD) addD) (narM 2 (pur [])))) (argM (twoM true (varM 2) (pur (.int 7)) addD) (pur [])))) (varM 1) modD))))
/-- _law_begun: 0 _law_script 1 _law_m 2 _law_cell -/
def B__law_begun (f__law_folded : List D → CRes) : M Fl :=
    seqM (asgM 1 (dispM ["cells", "left", "at", "room"] (consM (callM f__law_folded (narM 0 (pur []))) (consM (lstM (pur [])) (consM (pur (.int 0)) (consM (pur (.int 12)) (pur [])))))))
    (seqM (storeM 1 (compM [2] (seqI (varM 0)) (gnM 2) (pur true) (iteM (boolM (twoM true (varM 2) (twoM true (pur (.int 10)) (pur (.int 18)) powD) geD)) (keepM 2) (pur (.int 0)))) (rootM 1) (pur (.str "left")))
    (retM (moveM 1)))
/-- _law_words: 0 _law_m 1 _law_many 2 _law_letters 3 _law_size 4 _law_at 5 _law_stride 6 _law_base 7 _law_found 8 _law_k 9 _law_bars 10 _law_start 11 _law_way 12 _law_mark 13 _law_word 14 _law_j -/
def B__law_words (f__law_draw : List D → CRes) : M Fl :=
    seqM (asgM 2 (pur (.str "abcdefghijklmnopqrstuvwxyz")))
    (seqM (asgtM (tupM (consM (callM f__law_draw (narM 0 (argM (pur (.int 26)) (pur [])))) (consM (callM f__law_draw (narM 0 (argM (pur (.int 4)) (pur [])))) (pur [])))) (gtM 2 (gconsM (gnM 10) (gconsM (gnM 11) (gnilM)))))
    (seqM (asgM 3 (twoM true (pur (.int 1)) (callM f__law_draw (narM 0 (argM (pur (.int 6)) (pur [])))) addD))
    (seqM (asgM 4 (callM f__law_draw (narM 0 (narM 3 (pur [])))))
    (seqM (asgM 5 (twoM true (lstM (consM (pur (.int 1)) (consM (pur (.int 3)) (consM (pur (.int 7)) (consM (pur (.int 11)) (consM (pur (.int 17)) (consM (pur (.int 25)) (pur [])))))))) (callM f__law_draw (narM 0 (argM (pur (.int 6)) (pur [])))) ixD))
    (seqM (asgM 6 (joinM (pur (.str "")) (compM [14] (range1I (pur (.int 8))) (gnM 14) (pur true) (twoM true (varM 2) (twoM true (twoM true (varM 10) (twoM true (pur (.int 5)) (varM 14) mulD) addD) (pur (.int 26)) modD) ixD))))
    (seqM (asgM 7 (lstM (pur [])))
    (seqM (forS (range1I (varM 1)) (gnM 8) (seqM (asgM 12 (twoM true (varM 2) (twoM true (twoM true (varM 10) (twoM true (varM 5) (varM 8) mulD) addD) (pur (.int 26)) modD) ixD))
    (iteM (boolM (twoM true (varM 11) (pur (.int 3)) eqD)) (exprM (mthM 7 "list" appendG (rootM 7) (consM (twoM true (varM 12) (sliceM true (varM 6) (pur none) (partM (twoM true (twoM true (varM 8) (varM 5) mulD) (pur (.int 6)) modD))) addD) (pur [])))) (exprM (mthM 7 "list" appendG (rootM 7) (consM (twoM true (twoM true (sliceM true (varM 6) (pur none) (partM (varM 4))) (varM 12) addD) (sliceM true (varM 6) (partM (twoM true (varM 4) (pur (.int 1)) addD)) (partM (varM 3))) addD) (pur [])))))))
    (seqM (asgM 9 (lstM (consM (pur (.str "stop")) (consM (pur (.str "spin")) (consM (pur (.str "out")) (consM (pur (.str "own")) (consM (pur (.str "beside")) (consM (pur (.str "hide")) (consM (pur (.str "as")) (pur []))))))))))
    (retM (compM [13] (seqI (varM 7)) (gnM 13) (pur true) (iteM (boolM (twoM true (varM 13) (varM 9) ninD)) (keepM 13) (twoM true (twoM true (pur (.str "zz")) (sliceM true (varM 13) (pur none) (partM (pur (.int 1)))) addD) (pur (.str "z")) addD))))))))))))
/-- _law_set: 0 _law_m 1 _law_deeds 2 _law_deed -/
def B__law_set (f__law_draw : List D → CRes) : M Fl :=
    retM (oneM (oneM (compM [2] (seqI (varM 1)) (gnM 2) (boolM (twoM true (callM f__law_draw (narM 0 (argM (pur (.int 2)) (pur [])))) (pur (.int 0)) eqD)) (keepM 2)) sortedTx) tupleD)
/-- _law_pairs: 0 _law_m 1 _law_deeds 2 _law_firsts 3 _law_deed -/
def B__law_pairs (f__law_draw : List D → CRes) : M Fl :=
    seqM (asgM 2 (oneM (compM [3] (seqI (varM 1)) (gnM 3) (boolM (twoM true (callM f__law_draw (narM 0 (argM (pur (.int 2)) (pur [])))) (pur (.int 0)) eqD)) (keepM 3)) sortedTx))
    (retM (oneM (compM [3] (seqI (varM 2)) (gnM 3) (pur true) (tupM (consM (keepM 3) (consM (twoM true (varM 1) (callM f__law_draw (narM 0 (argM (oneM (varM 1) lenD) (pur [])))) ixD) (pur []))))) tupleD))
/-- _law_hand: 0 _law_m 1 _law_deeds 2 _law_names 3 _law_deep 4 _law_way 5 _law_some 6 _law_one -/
def B__law_hand (f__law_draw f__law_hand f__law_set f__law_pairs : List D → CRes) : M Fl :=
    seqM (storeM 0 (twoM true (getM 0 (pixM 0 (rootM 0) (pur (.str "room")))) (pur (.int 1)) subD) (rootM 0) (pur (.str "room")))
    (seqM (asgM 4 (iteM (andM (boolM (twoM true (varM 3) (pur (.int 1)) gtD)) (boolM (twoM true (getM 0 (pixM 0 (rootM 0) (pur (.str "room")))) (pur (.int 0)) gtD))) (callM f__law_draw (narM 0 (argM (pur (.int 13)) (pur [])))) (twoM true (pur (.int 11)) (callM f__law_draw (narM 0 (argM (pur (.int 2)) (pur [])))) addD)))
    (seqM (iteM (andM (boolM (twoM true (varM 4) (pur (.int 5)) ltD)) (boolM (twoM true (varM 1) (lstM (pur [])) neD))) (retM (tupM (consM (pur (.str "then")) (consM (twoM true (varM 1) (callM f__law_draw (narM 0 (argM (oneM (varM 1) lenD) (pur [])))) ixD) (consM (callM f__law_hand (narM 0 (narM 1 (narM 2 (argM (twoM true (varM 3) (pur (.int 1)) subD) (pur [])))))) (pur [])))))) (pur .nx))
    (seqM (iteM (boolM (twoM true (varM 4) (pur (.int 7)) ltD)) (retM (tupM (consM (pur (.str "own")) (consM (callM f__law_hand (narM 0 (narM 1 (narM 2 (argM (twoM true (varM 3) (pur (.int 1)) subD) (pur [])))))) (consM (callM f__law_hand (narM 0 (narM 1 (narM 2 (argM (twoM true (varM 3) (pur (.int 1)) subD) (pur [])))))) (pur [])))))) (pur .nx))
    (seqM (iteM (boolM (twoM true (varM 4) (pur (.int 11)) ltD)) (seqM (asgM 5 (iteM (boolM (twoM true (callM f__law_draw (narM 0 (argM (pur (.int 8)) (pur [])))) (pur (.int 0)) eqD)) (keepM 2) (lstM (pur []))))
    (seqM (asgM 6 (callM f__law_hand (narM 0 (narM 1 (narM 5 (argM (twoM true (varM 3) (pur (.int 1)) subD) (pur [])))))))
    (seqM (iteM (boolM (twoM true (varM 4) (pur (.int 7)) eqD)) (retM (tupM (consM (pur (.str "out")) (consM (keepM 6) (consM (callM f__law_hand (narM 0 (narM 1 (narM 5 (argM (twoM true (varM 3) (pur (.int 1)) subD) (pur [])))))) (pur [])))))) (pur .nx))
    (seqM (iteM (boolM (twoM true (varM 4) (pur (.int 8)) eqD)) (retM (tupM (consM (pur (.str "beside")) (consM (keepM 6) (consM (callM f__law_set (narM 0 (narM 1 (pur [])))) (consM (callM f__law_hand (narM 0 (narM 1 (narM 5 (argM (twoM true (varM 3) (pur (.int 1)) subD) (pur [])))))) (pur []))))))) (pur .nx))
    (retM (iteM (boolM (twoM true (varM 4) (pur (.int 9)) eqD)) (tupM (consM (pur (.str "hide")) (consM (keepM 6) (consM (callM f__law_set (narM 0 (narM 1 (pur [])))) (pur []))))) (tupM (consM (pur (.str "as")) (consM (keepM 6) (consM (callM f__law_pairs (narM 0 (narM 1 (pur [])))) (pur []))))))))))) (pur .nx))
    (seqM (iteM (andM (boolM (twoM true (varM 2) (lstM (pur [])) neD)) (boolM (twoM true (varM 4) (pur (.int 11)) eqD))) (retM (tupM (consM (pur (.str "name")) (consM (twoM true (varM 2) (callM f__law_draw (narM 0 (argM (oneM (varM 2) lenD) (pur [])))) ixD) (pur []))))) (pur .nx))
    (retM (iteM (boolM (twoM true (callM f__law_draw (narM 0 (argM (pur (.int 8)) (pur [])))) (pur (.int 0)) eqD)) (tupM (consM (pur (.str "spin")) (pur []))) (tupM (consM (pur (.str "stop")) (pur []))))))))))
/-- _law_step: 0 _law_m 1 _law_deeds 2 _law_names 3 _law_way 4 _law_hand_here -/
def B__law_step (f__law_draw f__law_set f__law_pairs f__law_hand : List D → CRes) : M Fl :=
    seqM (asgM 3 (callM f__law_draw (narM 0 (argM (pur (.int 6)) (pur [])))))
    (seqM (iteM (andM (boolM (twoM true (varM 3) (pur (.int 0)) eqD)) (boolM (twoM true (varM 1) (lstM (pur [])) neD))) (retM (tupM (consM (pur (.str "then")) (consM (twoM true (varM 1) (callM f__law_draw (narM 0 (argM (oneM (varM 1) lenD) (pur [])))) ixD) (pur []))))) (pur .nx))
    (seqM (iteM (boolM (twoM true (varM 3) (pur (.int 1)) eqD)) (retM (tupM (consM (pur (.str "hide")) (consM (callM f__law_set (narM 0 (narM 1 (pur [])))) (pur []))))) (pur .nx))
    (seqM (iteM (boolM (twoM true (varM 3) (pur (.int 2)) eqD)) (retM (tupM (consM (pur (.str "as")) (consM (callM f__law_pairs (narM 0 (narM 1 (pur [])))) (pur []))))) (pur .nx))
    (seqM (storeM 0 (pur (.int 4)) (rootM 0) (pur (.str "room")))
    (seqM (asgM 4 (callM f__law_hand (narM 0 (narM 1 (narM 2 (argM (pur (.int 3)) (pur [])))))))
    (seqM (iteM (boolM (twoM true (varM 3) (pur (.int 3)) eqD)) (retM (tupM (consM (pur (.str "beside")) (consM (callM f__law_set (narM 0 (narM 1 (pur [])))) (consM (keepM 4) (pur [])))))) (pur .nx))
    (retM (tupM (consM (twoM true (lstM (consM (pur (.str "out")) (consM (pur (.str "own")) (pur [])))) (twoM true (varM 3) (pur (.int 2)) modD) ixD) (consM (keepM 4) (pur [])))))))))))
/-- _law_put: 0 _law_hand_here 1 _law_steps 2 _law_step_here -/
def B__law_put : M Fl :=
    seqM (forS (seqI (varM 1)) (gnM 2) (iteM (boolM (twoM true (twoM true (varM 2) (pur (.int 0)) ixD) (pur (.str "then")) eqD)) (asgM 0 (tupM (consM (pur (.str "then")) (consM (twoM true (varM 2) (pur (.int 1)) ixD) (consM (keepM 0) (pur [])))))) (iteM (boolM (twoM true (twoM true (varM 2) (pur (.int 0)) ixD) (pur (.str "beside")) eqD)) (asgM 0 (tupM (consM (pur (.str "beside")) (consM (keepM 0) (consM (twoM true (varM 2) (pur (.int 1)) ixD) (consM (twoM true (varM 2) (pur (.int 2)) ixD) (pur []))))))) (asgM 0 (tupM (consM (twoM true (varM 2) (pur (.int 0)) ixD) (consM (keepM 0) (consM (twoM true (varM 2) (pur (.int 1)) ixD) (pur [])))))))))
    (retM (moveM 0))
/-- _law_is_other: 0 _law_caught -/
def B__law_is_other : M Fl :=
    seqM (iteM (boolM (oneM (varM 0) (isiD tb_BadDeeds_BadHouse_BadMachine_BadNode_BadPaper te_BadDeeds_BadHouse_BadMachine_BadNode_BadPaper))) (retM (pur (.bl true))) (pur .nx))
    (retM (oneM (varM 0) (isiD tb_BadRow_BadText_BadWay_NoName_TooGreat te_BadRow_BadText_BadWay_NoName_TooGreat)))
/-- _law_said: 0 _law_hand_here 1 _law_steps 2 _law_caught 3 _law_found 4 error 5 _law_is_one -/
def B__law_said (f_put_round f__law_is_other : List D → CRes) : M Fl :=
    seqM (asgM 2 (pur .non))
    (seqM (asgM 3 (pur .non))
    (seqM (tryM 4 em_HandError (asgM 3 (callM f_put_round (narM 0 (narM 1 (pur []))))) (asgM 2 (keepM 4)))
    (seqM (iteM (boolM (twoM true (varM 2) (pur .non) isND)) (retM (moveM 3)) (pur .nx))
    (seqM (asgM 5 (andD (oneM (varM 2) (isiD tb_BadHand te_BadHand)) (andD (oneM (varM 2) (isiD tb_ValueError te_ValueError)) (notD (callM f__law_is_other (narM 2 (pur [])))))))
    (retM (iteM (boolM (varM 5)) (pur (.str "hand")) (pur (.str "else"))))))))
/-- _law_chain: 0 _law_many 1 _law_hand_here 2 _law_turn -/
def B__law_chain : M Fl :=
    seqM (asgM 1 (tupM (consM (pur (.str "stop")) (pur []))))
    (seqM (forS (range1I (varM 0)) (gnM 2) (asgM 1 (tupM (consM (pur (.str "then")) (consM (pur (.str "a")) (consM (keepM 1) (pur [])))))))
    (retM (moveM 1)))
/-- _law_bush: 0 _law_many -/
def B__law_bush (f__law_bush : List D → CRes) : M Fl :=
    seqM (iteM (boolM (twoM true (varM 0) (pur (.int 2)) ltD)) (retM (tupM (consM (pur (.str "stop")) (pur [])))) (pur .nx))
    (retM (tupM (consM (pur (.str "own")) (consM (callM f__law_bush (argM (twoM true (varM 0) (pur (.int 2)) fdivD) (pur []))) (consM (callM f__law_bush (argM (twoM true (varM 0) (twoM true (varM 0) (pur (.int 2)) fdivD) subD) (pur []))) (pur []))))))
/-- _law_bounds_right: 0 _law_m 1 _law_many 2 _law_led 3 _law_bush_here 4 _law_some 5 _law_one 6 _law_two -/
def B__law_bounds_right (f__law_draw f__law_said f__law_chain f__law_put f__law_bush : List D → CRes) : M Fl :=
    seqM (asgM 1 (callM f__law_draw (narM 0 (argM (pur (.int 10)) (pur [])))))
    (seqM (asgM 2 (twoM true (tupM (consM (tupM (consM (pur (.str "then")) (consM (pur (.str "b")) (pur [])))) (pur []))) (varM 1) mulD))
    (seqM (iteM (boolM (twoM true (oneM (callM f__law_said (argM (callM f__law_chain (argM (twoM true (pur (.int 39)) (varM 1) subD) (pur []))) (narM 2 (pur [])))) reprD) (oneM (callM f__law_put (argM (callM f__law_chain (argM (twoM true (pur (.int 39)) (varM 1) subD) (pur []))) (narM 2 (pur [])))) reprD) neD)) (retM (pur (.bl false))) (pur .nx))
    (seqM (iteM (boolM (twoM true (callM f__law_said (argM (callM f__law_chain (argM (twoM true (pur (.int 40)) (varM 1) subD) (pur []))) (narM 2 (pur [])))) (pur (.str "hand")) neD)) (retM (pur (.bl false))) (pur .nx))
    (seqM (asgM 3 (callM f__law_bush (argM (pur (.int 100)) (pur []))))
    (seqM (asgM 4 (twoM true (lstM (consM (tupM (consM (tupM (consM (pur (.str "hide")) (consM (tupM (pur [])) (pur [])))) (pur []))) (consM (tupM (consM (tupM (consM (pur (.str "as")) (consM (tupM (pur [])) (pur [])))) (pur []))) (consM (tupM (consM (tupM (consM (pur (.str "then")) (consM (pur (.str "x")) (pur [])))) (pur []))) (consM (tupM (consM (tupM (consM (pur (.str "hide")) (consM (tupM (consM (pur (.str "a")) (consM (pur (.str "b")) (pur [])))) (pur [])))) (pur []))) (pur [])))))) (callM f__law_draw (narM 0 (argM (pur (.int 4)) (pur [])))) ixD))
    (seqM (iteM (orM (boolM (twoM true (oneM (callM f__law_said (narM 3 (narM 4 (pur [])))) reprD) (oneM (callM f__law_put (narM 3 (narM 4 (pur [])))) reprD) neD)) (boolM (twoM true (callM f__law_said (narM 3 (argM (twoM true (varM 4) (varM 4) addD) (pur [])))) (pur (.str "hand")) neD))) (retM (pur (.bl false))) (pur .nx))
    (seqM (asgM 5 (tupM (consM (twoM true (lstM (consM (pur (.str "out")) (consM (pur (.str "own")) (pur [])))) (callM f__law_draw (narM 0 (argM (pur (.int 2)) (pur [])))) ixD) (consM (tupM (consM (pur (.str "stop")) (pur []))) (pur [])))))
    (seqM (asgM 6 (tupM (consM (pur (.str "beside")) (consM (tupM (consM (pur (.str "a")) (pur []))) (consM (tupM (consM (pur (.str "spin")) (pur []))) (pur []))))))
    (retM (andD (twoM true (callM f__law_said (narM 3 (argM (tupM (consM (keepM 5) (pur []))) (pur [])))) (pur (.str "hand")) eqD) (twoM true (callM f__law_said (narM 3 (argM (tupM (consM (keepM 6) (pur []))) (pur [])))) (pur (.str "hand")) eqD)))))))))))
/-- _law_steps: 0 _law_m 1 _law_deeds 2 _law_many 3 _law_found 4 _law_k 5 _law_hand_here 6 _law_some -/
def B__law_steps (f__law_hand f__law_set f__law_pairs f__law_draw : List D → CRes) : M Fl :=
    seqM (asgM 3 (lstM (pur [])))
    (seqM (forS (range1I (varM 2)) (gnM 4) (seqM (storeM 0 (pur (.int 3)) (rootM 0) (pur (.str "room")))
    (seqM (asgM 5 (callM f__law_hand (narM 0 (narM 1 (argM (lstM (pur [])) (argM (pur (.int 2)) (pur [])))))))
    (seqM (asgM 6 (lstM (consM (tupM (consM (pur (.str "hide")) (consM (callM f__law_set (narM 0 (narM 1 (pur [])))) (pur [])))) (consM (tupM (consM (pur (.str "as")) (consM (callM f__law_pairs (narM 0 (narM 1 (pur [])))) (pur [])))) (consM (tupM (consM (pur (.str "out")) (consM (keepM 5) (pur [])))) (consM (tupM (consM (pur (.str "own")) (consM (keepM 5) (pur [])))) (pur [])))))))
    (seqM (asgM 6 (twoM true (varM 6) (lstM (consM (tupM (consM (pur (.str "beside")) (consM (callM f__law_set (narM 0 (narM 1 (pur [])))) (consM (keepM 5) (pur []))))) (consM (tupM (consM (pur (.str "then")) (consM (twoM true (twoM true (varM 1) (lstM (consM (pur (.str "zz")) (pur []))) addD) (pur (.int 0)) ixD) (pur [])))) (pur [])))) addD))
    (exprM (mthM 3 "list" appendG (rootM 3) (consM (twoM true (varM 6) (callM f__law_draw (narM 0 (argM (pur (.int 6)) (pur [])))) ixD) (pur [])))))))))
    (retM (oneM (varM 3) tupleD)))
/-- _law_no_step: 0 _law_number 1 _law_some -/
def B__law_no_step : M Fl :=
    seqM (asgM 1 (lstM (consM (pur .non) (consM (pur (.int 5)) (consM (pur (.bl true)) (consM (pur (.str "hide")) (consM (tupM (pur [])) (consM (lstM (pur [])) (consM (dispM [] (pur [])) (consM (tupM (consM (pur (.str "hide")) (pur []))) (consM (tupM (consM (pur (.str "hide")) (consM (lstM (consM (pur (.str "a")) (pur []))) (pur [])))) (consM (tupM (consM (pur (.str "hide")) (consM (tupM (consM (pur (.str "b")) (consM (pur (.str "a")) (pur [])))) (pur [])))) (pur [])))))))))))))
    (seqM (exprM (mthM 1 "list" appendG (rootM 1) (consM (tupM (consM (pur (.str "hide")) (consM (tupM (consM (pur (.str "a")) (consM (pur (.str "a")) (pur [])))) (pur [])))) (pur []))))
    (seqM (asgM 1 (twoM true (varM 1) (lstM (consM (tupM (consM (pur (.str "hide")) (consM (tupM (consM (pur (.str "stop")) (pur []))) (pur [])))) (consM (tupM (consM (pur (.str "hide")) (consM (tupM (pur [])) (consM (tupM (pur [])) (pur []))))) (consM (lstM (consM (pur (.str "hide")) (consM (tupM (pur [])) (pur [])))) (consM (tupM (consM (pur (.str "then")) (consM (pur (.str "own")) (pur [])))) (consM (tupM (consM (pur (.str "then")) (consM (pur (.str "")) (pur [])))) (pur []))))))) addD))
    (seqM (asgM 1 (twoM true (varM 1) (lstM (consM (tupM (consM (pur (.str "then")) (consM (pur (.str "abcdefg")) (pur [])))) (consM (tupM (consM (pur (.str "then")) (consM (tupM (consM (pur (.str "a")) (pur []))) (pur [])))) (consM (tupM (consM (pur (.str "then")) (consM (pur (.str "a")) (consM (tupM (consM (pur (.str "stop")) (pur []))) (pur []))))) (consM (tupM (consM (pur (.str "out")) (pur []))) (consM (tupM (consM (pur (.str "out")) (consM (tupM (consM (pur (.str "halt")) (pur []))) (pur [])))) (pur []))))))) addD))
    (seqM (exprM (mthM 1 "list" appendG (rootM 1) (consM (tupM (consM (pur (.str "own")) (consM (pur .non) (pur [])))) (pur []))))
    (seqM (asgM 1 (twoM true (varM 1) (lstM (consM (tupM (consM (pur (.str "beside")) (consM (tupM (consM (pur (.str "stop")) (pur []))) (consM (tupM (pur [])) (pur []))))) (consM (tupM (consM (pur (.str "beside")) (consM (tupM (consM (pur (.str "A")) (pur []))) (consM (tupM (consM (pur (.str "stop")) (pur []))) (pur []))))) (consM (tupM (consM (pur (.str "beside")) (consM (tupM (pur [])) (consM (tupM (consM (pur (.str "then")) (consM (pur (.str "a")) (pur [])))) (pur []))))) (pur []))))) addD))
    (seqM (asgM 1 (twoM true (varM 1) (lstM (consM (tupM (consM (pur (.str "as")) (consM (tupM (consM (tupM (consM (pur (.str "a")) (pur []))) (pur []))) (pur [])))) (consM (tupM (consM (pur (.str "as")) (consM (tupM (consM (tupM (consM (pur (.str "b")) (consM (pur (.str "a")) (pur [])))) (consM (tupM (consM (pur (.str "a")) (consM (pur (.str "b")) (pur [])))) (pur [])))) (pur [])))) (consM (tupM (consM (pur (.str "as")) (consM (lstM (consM (tupM (consM (pur (.str "a")) (consM (pur (.str "b")) (pur [])))) (pur []))) (pur [])))) (pur []))))) addD))
    (seqM (asgM 1 (twoM true (varM 1) (lstM (consM (tupM (consM (pur (.str "as")) (consM (tupM (consM (tupM (consM (pur (.str "a")) (consM (pur (.str "b")) (pur [])))) (consM (tupM (consM (pur (.str "b")) (consM (pur (.str "own")) (pur [])))) (pur [])))) (pur [])))) (consM (tupM (consM (pur (.str "as")) (consM (tupM (consM (tupM (consM (pur (.str "a")) (consM (pur (.str "b")) (pur [])))) (consM (tupM (consM (pur (.str "b")) (consM (pur (.str "A")) (pur [])))) (consM (tupM (consM (pur (.str "c")) (consM (pur (.str "a")) (pur [])))) (pur []))))) (pur [])))) (pur [])))) addD))
    (seqM (asgM 1 (twoM true (varM 1) (lstM (consM (tupM (consM (pur (.str "spin")) (pur []))) (consM (tupM (consM (pur (.str "name")) (consM (pur (.str "a")) (pur [])))) (pur [])))) addD))
    (retM (twoM true (varM 1) (varM 0) ixD))))))))))
/-- _law_no_hand: 0 _law_number 1 _law_deep 2 _law_turn 3 _law_some -/
def B__law_no_hand : M Fl :=
    seqM (asgM 1 (tupM (consM (pur (.str "stop")) (pur []))))
    (seqM (forS (range1I (pur (.int 300))) (gnM 2) (asgM 1 (tupM (consM (pur (.str "then")) (consM (pur (.str "a")) (consM (keepM 1) (pur [])))))))
    (seqM (asgM 3 (lstM (consM (pur .non) (consM (pur (.int 5)) (consM (pur (.bl true)) (consM (pur (.str "stop")) (consM (tupM (pur [])) (consM (lstM (pur [])) (consM (dispM [] (pur [])) (consM (lstM (consM (pur (.str "stop")) (pur []))) (consM (tupM (consM (pur (.str "stop")) (consM (pur (.int 1)) (pur [])))) (consM (tupM (consM (pur (.str "then")) (consM (pur (.str "a")) (pur [])))) (consM (tupM (consM (pur (.str "then")) (consM (pur (.str "A")) (consM (tupM (consM (pur (.str "stop")) (pur []))) (pur []))))) (consM (keepM 1) (pur [])))))))))))))))
    (seqM (asgM 3 (twoM true (varM 3) (lstM (consM (tupM (consM (pur (.str "name")) (consM (pur (.str "as")) (pur [])))) (consM (tupM (consM (pur (.str "name")) (pur []))) (consM (tupM (consM (pur (.str "out")) (consM (tupM (consM (pur (.str "stop")) (pur []))) (pur [])))) (consM (tupM (consM (pur (.str "own")) (consM (tupM (consM (pur (.str "stop")) (pur []))) (consM (pur (.str "stop")) (pur []))))) (pur [])))))) addD))
    (seqM (exprM (mthM 3 "list" appendG (rootM 3) (consM (tupM (consM (pur (.str "hide")) (consM (tupM (consM (pur (.str "stop")) (pur []))) (consM (lstM (consM (pur (.str "a")) (pur []))) (pur []))))) (pur []))))
    (seqM (asgM 3 (twoM true (varM 3) (lstM (consM (tupM (consM (pur (.str "beside")) (consM (tupM (consM (pur (.str "stop")) (pur []))) (consM (tupM (consM (pur (.str "spin")) (pur []))) (consM (tupM (pur [])) (pur [])))))) (consM (tupM (consM (pur (.str "as")) (consM (tupM (consM (pur (.str "stop")) (pur []))) (consM (tupM (consM (tupM (consM (pur (.str "a")) (consM (pur (.str "b")) (pur [])))) (consM (tupM (consM (pur (.str "a")) (consM (pur (.str "c")) (pur [])))) (pur [])))) (pur []))))) (consM (tupM (consM (pur .non) (consM (tupM (pur [])) (pur [])))) (pur []))))) addD))
    (seqM (exprM (mthM 3 "list" appendG (rootM 3) (consM (tupM (consM (pur (.str "as")) (consM (tupM (consM (pur (.str "stop")) (pur []))) (consM (tupM (consM (tupM (consM (pur (.str "a")) (consM (pur (.str "b")) (pur [])))) (consM (tupM (consM (pur (.str "b")) (consM (pur (.str "own")) (pur [])))) (pur [])))) (pur []))))) (pur []))))
    (retM (twoM true (varM 3) (varM 0) ixD))))))))
/-- _law_far: 0 _law_turn 1 _law_great 2 _law_deep -/
def B__law_far : M Fl :=
    seqM (parM [1, 2] (consM (twoM true (twoM true (twoM true (pur (.int 10)) (pur (.int 64)) powD) (pur (.int 64)) powD) (twoM true (twoM true (pur (.int 10)) (pur (.int 64)) powD) (pur (.int 8)) powD) mulD) (consM (tupM (pur [])) (pur []))))
    (seqM (forS (range1I (pur (.int 1200))) (gnM 0) (asgM 2 (tupM (consM (keepM 2) (pur [])))))
    (retM (lstM (consM (keepM 1) (consM (twoM true (pur (.int 0)) (varM 1) subD) (consM (keepM 2) (pur [])))))))
end PL
/-! Q0: what is applied to a state, step by step -/
namespace PL
open PySem PySem.Spec L2 VI
section
variable {α β : Type}
def obind (o : Out α) (g : α → VI.Env → Out β) : Out β := match o with
  | .ok a e => g a e
  | .exc c fs e => .exc c fs e
  | .err => .err
theorem obind_ok {a : α} {e : VI.Env} {g : α → VI.Env → Out β} : obind (.ok a e) g = g a e := rfl
theorem obind_exc {c : Str} {fs : List (Str × D)} {e : VI.Env} {g : α → VI.Env → Out β} : obind (.exc c fs e) g = .exc c fs e := rfl
theorem obind_err {g : α → VI.Env → Out β} : obind .err g = .err := rfl
def oof (o : Option α) (e : VI.Env) : Out α := match o with
  | some a => .ok a e
  | none => .err
theorem oof_some {a : α} {e : VI.Env} : oof (some a) e = .ok a e := rfl
def obool (d : D) (e : VI.Env) : Out Bool := match d with
  | .bl b => .ok b e
  | _ => .err
theorem obool_bl {b : Bool} {e : VI.Env} : obool (.bl b) e = .ok b e := rfl
def oslot (o : Option (Option D)) (g : D → Out α) : Out α := match o with
  | some (some d) => g d
  | _ => .err
theorem oslot_some {d : D} {g : D → Out α} : oslot (some (some d)) g = g d := rfl
theorem bnd_ap (f : M α) (g : α → M β) (e : VI.Env) : bnd f g e = obind (f e) g := rfl
theorem pur_ap (a : α) (e : VI.Env) : pur a e = .ok a e := rfl
theorem varM_ap (i : Nat) (e : VI.Env) : varM i e = oslot e.s[i]? fun d => .ok d e := rfl
theorem keepM_ap (i : Nat) (e : VI.Env) : keepM i e = oslot e.s[i]? fun d => if d.own then .ok d.frz (e.put i d.frz) else .ok d e := rfl
theorem moveM_ap (i : Nat) (e : VI.Env) : moveM i e = oslot e.s[i]? fun d => if d.own then (if e.p[i]? = some true then .ok d.frz (e.put i d.frz) else .ok d (e.drop i)) else .ok d e := rfl
theorem plainM_ap (f : M D) (e : VI.Env) : plainM f e = obind (f e) fun d e' => if d.own then .err else .ok d e' := by
  unfold plainM bnd obind; cases f e <;> simp; split <;> rfl
theorem twoM_ap (k : Bool) (fa fb : M D) (g : D → D → Option D) (e : VI.Env) : twoM k fa fb g e = obind (fa e) fun d1 e1 => if k || !d1.own then obind (fb e1) fun d2 e2 => oof (g d1 d2) e2 else .err := by
  show obind (fa e) (fun d1 => if (k || !d1.own) = true then bnd fb fun d2 => ofO (g d1 d2) else bad) = _
  congr 1; funext d1 e1
  split
  · show obind (fb e1) (fun d2 => ofO (g d1 d2)) = _
    congr 1; funext d2 e2
    cases g d1 d2 <;> rfl
  · rfl
theorem oneM_ap (fa : M D) (g : D → Option D) (e : VI.Env) : oneM fa g e = obind (fa e) fun d e' => oof (g d) e' := by
  show obind (fa e) (fun d => ofO (g d)) = _
  congr 1; funext d e2
  cases g d <;> rfl
theorem boolM_ap (f : M D) (e : VI.Env) : boolM f e = obind (f e) obool := by
  unfold boolM bnd obind; cases f e with
  | ok d e => cases d <;> rfl
  | _ => rfl
theorem andM_ap (fa fb : M Bool) (e : VI.Env) : VI.andM fa fb e = obind (fa e) fun b e' => if b = true then fb e' else .ok false e' := by
  unfold VI.andM bnd obind; cases fa e with
  | ok d e => cases d <;> rfl
  | _ => rfl
theorem orM_ap (fa fb : M Bool) (e : VI.Env) : VI.orM fa fb e = obind (fa e) fun b e' => if b = true then .ok true e' else fb e' := by
  unfold VI.orM bnd obind; cases fa e with
  | ok d e => cases d <;> rfl
  | _ => rfl
theorem notM_ap (fa : M Bool) (e : VI.Env) : VI.notM fa e = obind (fa e) fun b e' => .ok (!b) e' := rfl
theorem andD_ap (fa fb : M D) (e : VI.Env) : andD fa fb e = obind (fa e) fun d e' => obind (obool d e') fun b e' => if b = true then fb e' else .ok (.bl false) e' := by
  unfold andD bnd obind; cases fa e with
  | ok d e => cases d <;> first | rfl | (rename_i b; cases b <;> rfl)
  | _ => rfl
theorem orD_ap (fa fb : M D) (e : VI.Env) : orD fa fb e = obind (fa e) fun d e' => obind (obool d e') fun b e' => if b = true then .ok (.bl true) e' else fb e' := by
  unfold orD bnd obind; cases fa e with
  | ok d e => cases d <;> first | rfl | (rename_i b; cases b <;> rfl)
  | _ => rfl
theorem notD_ap (fa : M D) (e : VI.Env) : notD fa e = obind (fa e) fun d e' => obind (obool d e') fun b e' => .ok (.bl (!b)) e' := by
  unfold notD bnd obind; cases fa e with
  | ok d e => cases d <;> rfl
  | _ => rfl
theorem iteM_ap (fc : M Bool) (fa fb : M α) (e : VI.Env) : iteM fc fa fb e = obind (fc e) fun b e' => if b = true then fa e' else fb e' := by
  unfold iteM bnd obind; cases fc e with
  | ok d e => cases d <;> rfl
  | _ => rfl
theorem consM_ap (f : M D) (g : M (List D)) (e : VI.Env) : consM f g e = obind (f e) fun d e1 => obind (g e1) fun ds e2 => .ok (d :: ds) e2 := rfl
theorem tupM_ap (g : M (List D)) (e : VI.Env) : tupM g e = obind (g e) fun ds e' => if ds.length ≤ 16777216 then .ok (.tup ds) e' else .err := by
  unfold tupM bnd obind; cases g e with
  | ok d e => dsimp only; split <;> rfl
  | _ => rfl
theorem lstM_ap (g : M (List D)) (e : VI.Env) : lstM g e = obind (g e) fun ds e' => if ds.length ≤ 16777216 then .ok (.lst true ds) e' else .err := by
  unfold lstM bnd obind; cases g e with
  | ok d e => dsimp only; split <;> rfl
  | _ => rfl
theorem argM_ap (f : M D) (g : M (List VI.Arg)) (e : VI.Env) : argM f g e = obind (f e) fun d e1 => obind (g e1) fun ds e2 => .ok (.v d :: ds) e2 := rfl
theorem narM_ap (i : Nat) (g : M (List VI.Arg)) (e : VI.Env) : narM i g e = oslot e.s[i]? fun _ => obind (g e) fun ds e2 => .ok (.n i :: ds) e2 := rfl
def otake (o : Option (List D × VI.Env)) (g : List D → VI.Env → Out α) : Out α := match o with
  | some (ds, e1) => g ds e1
  | none => .err
theorem otake_some {ds : List D} {e1 : VI.Env} {g : List D → VI.Env → Out α} : otake (some (ds, e1)) g = g ds e1 := rfl
def ocres (r : CRes) (b : List D → VI.Env) : Out D := match r with
  | .ok d fin => .ok d (b fin)
  | .exc c fs fin => .exc c fs (b fin)
  | .err => .err
theorem ocres_ok {d : D} {fin : List D} {b : List D → VI.Env} : ocres (.ok d fin) b = .ok d (b fin) := rfl
theorem ocres_exc {c : Str} {fs : List (Str × D)} {fin : List D} {b : List D → VI.Env} : ocres (.exc c fs fin) b = .exc c fs (b fin) := rfl
theorem callM_ap (φ : List D → CRes) (g : M (List VI.Arg)) (e : VI.Env) : callM φ g e = obind (g e) fun as e' => otake (takeA as e') fun ds e1 => ocres (φ ds) fun fin => backA as ds fin e1 := by
  unfold callM
  rw [bnd_ap]
  congr 1; funext as e'
  cases takeA as e' with
  | none => rfl
  | some p => obtain ⟨ds, e1⟩ := p; dsimp only [otake]; cases φ ds <;> rfl
theorem exprM_ap (f : M D) (e : VI.Env) : exprM f e = obind (f e) fun _ e' => .ok .nx e' := rfl
def oput (e : VI.Env) (i : Nat) (d : D) : Out Fl := if e.p[i]? = some true then .err else if i < e.s.length then .ok .nx (e.put i d) else .err
theorem asgM_ap (i : Nat) (f : M D) (e : VI.Env) : asgM i f e = obind (f e) fun d e' => oput e' i d := rfl
theorem retM_ap (f : M D) (e : VI.Env) : retM f e = obind (f e) fun d e' => .ok (.rt d) e' := rfl
def oseq (r : Fl) (e : VI.Env) (g : VI.Env → Out Fl) : Out Fl := match r with
  | .nx => g e
  | r => .ok r e
theorem oseq_nx {e : VI.Env} {g : VI.Env → Out Fl} : oseq .nx e g = g e := rfl
theorem oseq_rt {d : D} {e : VI.Env} {g : VI.Env → Out Fl} : oseq (.rt d) e g = .ok (.rt d) e := rfl
theorem oseq_bk {e : VI.Env} {g : VI.Env → Out Fl} : oseq .bk e g = .ok .bk e := rfl
theorem oseq_ct {e : VI.Env} {g : VI.Env → Out Fl} : oseq .ct e g = .ok .ct e := rfl
theorem seqM_ap (f g : M Fl) (e : VI.Env) : seqM f g e = obind (f e) fun r e' => oseq r e' g := by
  unfold seqM bnd obind; cases f e with
  | ok r e => cases r <;> rfl
  | _ => rfl
theorem raiseM_ap (c : Str) (fa : M D) (e : VI.Env) : raiseM c fa e = obind (fa e) fun _ e' => .exc c [] e' := rfl
theorem seqI_ap (f : M D) (e : VI.Env) : seqI f e = obind (f e) fun d e' => oof (itemsD d) e' := by
  unfold seqI bnd obind; cases f e with
  | ok d e => dsimp only; cases itemsD d <;> rfl
  | _ => rfl
theorem forS_ap (fi : M (List D)) (gt : D → M Unit) (fb : M Fl) (e : VI.Env) : forS fi gt fb e = obind (fi e) fun ds e' => forM gt fb ds e' := rfl
theorem chainM_ap (g g' : D → D → Option D) (fa fb fc : M D) (e : VI.Env) : chainM g g' fa fb fc e = obind (fa e) fun d1 e1 => if d1.own then .err else obind (fb e1) fun d2 e2 => if d2.own then .err else obind (oof (g d1 d2) e2) fun r e2 => obind (obool r e2) fun b e2 => if b = true then obind (fc e2) fun d3 e3 => oof (g' d2 d3) e3 else .ok (.bl false) e2 := by
  show obind (fa e) (fun d1 => if d1.own = true then bad else bnd fb fun d2 => if d2.own = true then bad else match g d1 d2 with
    | some (.bl true) => bnd fc fun d3 => ofO (g' d2 d3)
    | some (.bl false) => pur (.bl false)
    | _ => bad) = _
  congr 1; funext d1 e1
  split
  · rfl
  · show obind (fb e1) (fun d2 => if d2.own = true then bad else match g d1 d2 with
      | some (.bl true) => bnd fc fun d3 => ofO (g' d2 d3)
      | some (.bl false) => pur (.bl false)
      | _ => bad) = _
    congr 1; funext d2 e2
    split
    · rfl
    · cases g d1 d2 with
      | none => rfl
      | some r =>
        cases r with
        | bl b =>
          cases b with
          | true =>
            show obind (fc e2) (fun d3 => ofO (g' d2 d3)) = obind (fc e2) fun d3 e3 => oof (g' d2 d3) e3
            congr 1; funext d3 e3
            cases g' d2 d3 <;> rfl
          | false => rfl
        | _ => rfl
theorem partM_ap (f : M D) (e : VI.Env) : partM f e = obind (f e) fun d e' => match d with | .int i => .ok (some i) e' | _ => .err := by
  unfold partM bnd obind; cases f e with
  | ok d e => cases d <;> rfl
  | _ => rfl
theorem sliceM_ap (k : Bool) (fe : M D) (fl fh : M (Option Int)) (e : VI.Env) : sliceM k fe fl fh e = obind (fe e) fun d e1 => if k || !d.own then obind (fl e1) fun lo e2 => obind (fh e2) fun hi e3 => oof (sliceD d lo hi) e3 else .err := by
  show obind (fe e) (fun d => if (k || !d.own) = true then bnd fl fun lo => bnd fh fun hi => ofO (sliceD d lo hi) else bad) = _
  congr 1; funext d e1
  split
  · show obind (fl e1) (fun lo => bnd fh fun hi => ofO (sliceD d lo hi)) = _
    congr 1; funext lo e2
    show obind (fh e2) (fun hi => ofO (sliceD d lo hi)) = _
    congr 1; funext hi e3
    cases sliceD d lo hi <;> rfl
  · rfl
theorem asgtM_ap (f : M D) (g : D → M Unit) (e : VI.Env) : asgtM f g e = obind (f e) fun d e' => if d.own then .err else (match g d e' with
    | .ok _ e => .ok .nx e
    | _ => .err) := by
  unfold asgtM bnd obind; cases f e with
  | ok d e => dsimp only; split <;> rfl
  | _ => rfl
end
theorem own_non : D.own .non = false := by simp [D.own, D.owns]
theorem own_bl (b : Bool) : D.own (.bl b) = false := by simp [D.own, D.owns]
theorem own_int (b : Int) : D.own (.int b) = false := by simp [D.own, D.owns]
theorem own_str (b : Str) : D.own (.str b) = false := by simp [D.own, D.owns]
theorem own_tup (xs : List D) : D.own (.tup xs) = D.owns xs := by simp [D.own]
theorem own_lst (o : Bool) (xs : List D) : D.own (.lst o xs) = (o || D.owns xs) := by simp [D.own]
theorem own_dct (o : Bool) (xs : List (D × D)) : D.own (.dct o xs) = (o || D.ownk xs) := by simp [D.own]
theorem own_exc (c : Str) (xs : List (Str × D)) : D.own (.exc c xs) = D.ownf xs := by simp [D.own]
theorem owns_nil : D.owns [] = false := by simp [D.own, D.owns]
theorem owns_cons (x : D) (xs : List D) : D.owns (x :: xs) = (x.own || D.owns xs) := by simp [D.owns]
def orun (ds : List D) (o : Out Fl) : CRes := match o with
  | .ok (.rt d) e => (match finL ds e.s with
    | some fin => .ok d fin
    | none => .err)
  | .ok .nx e => (match finL ds e.s with
    | some fin => .ok .non fin
    | none => .err)
  | .exc c fs e => (match finL ds e.s with
    | some fin => .exc c fs fin
    | none => .err)
  | _ => .err
theorem runB_ap (n : Nat) (body : M Fl) (ds : List D) : runB n body ds = orun ds (body (env0 n ds)) := rfl
/-! the same, as rules -/
section
variable {e e1 e2 e3 : VI.Env} {d d1 d2 d3 : D} {i : Nat} {fa fb fc : M D} {g g' : D → D → Option D}
theorem o_var (h : e.s[i]? = some (some d)) : varM i e = .ok d e := by rw [varM_ap, h]; rfl
theorem o_keep (h : e.s[i]? = some (some d)) (ho : d.own = false) : keepM i e = .ok d e := by
  rw [keepM_ap, h]
  show (if d.own = true then _ else _) = _
  rw [if_neg (by rw [ho]; exact Bool.false_ne_true)]
theorem o_pur {α : Type} {a : α} : pur a e = .ok a e := rfl
theorem o_two {k : Bool} (ha : fa e = .ok d1 e1) (hb : fb e1 = .ok d2 e2) (hg : g d1 d2 = some d) (hk : (k || !d1.own) = true := by rfl) : twoM k fa fb g e = .ok d e2 := by
  rw [twoM_ap, ha, obind_ok, if_pos hk, hb, obind_ok, hg]; rfl
theorem o_one {g : D → Option D} (ha : fa e = .ok d1 e1) (hg : g d1 = some d) : oneM fa g e = .ok d e1 := by
  rw [oneM_ap, ha, obind_ok, hg]; rfl
theorem o_bool {b : Bool} (ha : fa e = .ok (.bl b) e1) : boolM fa e = .ok b e1 := by
  rw [boolM_ap, ha]; rfl
theorem o_cons {fl : M (List D)} {ds : List D} (ha : fa e = .ok d e1) (hb : fl e1 = .ok ds e2) : consM fa fl e = .ok (d :: ds) e2 := by
  rw [consM_ap, ha, obind_ok, hb]; rfl
theorem o_part {f : M D} {k : Int} (ha : f e = .ok (.int k) e1) : partM f e = .ok (some k) e1 := by
  rw [partM_ap, ha]; rfl
theorem o_slice {k : Bool} {fl fh : M (Option Int)} {lo hi : Option Int} (ha : fa e = .ok d1 e1) (hl : fl e1 = .ok lo e2) (hh : fh e2 = .ok hi e3) (hg : sliceD d1 lo hi = some d) (hk : (k || !d1.own) = true := by rfl) : sliceM k fa fl fh e = .ok d e3 := by
  rw [sliceM_ap, ha, obind_ok, if_pos hk, hl, obind_ok, hh, obind_ok, hg]; rfl
theorem o_asg {f : M D} (ha : f e = .ok d e1) (hp : e1.p[i]? ≠ some true) (hl : i < e1.s.length) : asgM i f e = .ok .nx (e1.put i d) := by
  rw [asgM_ap, ha, obind_ok]
  unfold oput
  rw [if_neg hp, if_pos hl]
theorem o_as {f : M D} (ha : f e = .ok d e1) (hp : (e1.p[i]?.getD false) = false := by rfl) (hl : Nat.blt i e1.s.length = true := by rfl) : asgM i f e = .ok .nx (e1.put i d) :=
  o_asg ha (fun h => by rw [h] at hp; cases hp) (by simpa [Nat.blt_eq] using hl)
theorem o_seq {f k : M Fl} {r : Out Fl} (ha : f e = .ok .nx e1) (hb : k e1 = r) : seqM f k e = r := by
  rw [seqM_ap, ha, obind_ok, oseq_nx, hb]
theorem o_seq_rt {f k : M Fl} (ha : f e = .ok (.rt d) e1) : seqM f k e = .ok (.rt d) e1 := by
  rw [seqM_ap, ha, obind_ok, oseq_rt]
theorem o_iteT {α : Type} {fc : M Bool} {x y : M α} {r : Out α} (hc : fc e = .ok true e1) (h : x e1 = r) : iteM fc x y e = r := by
  rw [iteM_ap, hc, obind_ok, if_pos rfl, h]
theorem o_iteF {α : Type} {fc : M Bool} {x y : M α} {r : Out α} (hc : fc e = .ok false e1) (h : y e1 = r) : iteM fc x y e = r := by
  rw [iteM_ap, hc, obind_ok, if_neg Bool.false_ne_true, h]
theorem o_expr {f : M D} (h : f e = .ok d e1) : exprM f e = .ok .nx e1 := by rw [exprM_ap, h]; rfl
theorem o_ret {f : M D} (h : f e = .ok d e1) : retM f e = .ok (.rt d) e1 := by rw [retM_ap, h]; rfl
theorem o_tup {fl : M (List D)} {ds : List D} (h : fl e = .ok ds e1) (hl : ds.length ≤ 16777216 := by simp) : tupM fl e = .ok (.tup ds) e1 := by rw [tupM_ap, h, obind_ok, if_pos hl]
theorem o_lst {fl : M (List D)} {ds : List D} (h : fl e = .ok ds e1) (hl : ds.length ≤ 16777216 := by simp) : lstM fl e = .ok (.lst true ds) e1 := by rw [lstM_ap, h, obind_ok, if_pos hl]
theorem o_for {fi : M (List D)} {gt : D → M Unit} {fb : M Fl} {ds : List D} {r : Out Fl} (h : fi e = .ok ds e1) (k : VI.forM gt fb ds e1 = r) : forS fi gt fb e = r := by rw [forS_ap, h, obind_ok, k]
theorem o_seqI {f : M D} {ds : List D} (h : f e = .ok d e1) (k : itemsD d = some ds) : seqI f e = .ok ds e1 := by rw [seqI_ap, h, obind_ok, k]; rfl
theorem o_or1 {a b : M Bool} (h : a e = .ok true e1) : VI.orM a b e = .ok true e1 := by rw [orM_ap, h, obind_ok, if_pos rfl]
theorem o_or2 {a b : M Bool} {r : Out Bool} (h : a e = .ok false e1) (k : b e1 = r) : VI.orM a b e = r := by rw [orM_ap, h, obind_ok, if_neg Bool.false_ne_true, k]
theorem o_and1 {a b : M Bool} {r : Out Bool} (h : a e = .ok true e1) (k : b e1 = r) : VI.andM a b e = r := by rw [andM_ap, h, obind_ok, if_pos rfl, k]
theorem o_and2 {a b : M Bool} (h : a e = .ok false e1) : VI.andM a b e = .ok false e1 := by rw [andM_ap, h, obind_ok, if_neg Bool.false_ne_true]
theorem o_not {a : M Bool} {b : Bool} (h : a e = .ok b e1) : VI.notM a e = .ok (!b) e1 := by rw [notM_ap, h]; rfl
theorem o_move (h : e.s[i]? = some (some d)) (ho : d.own = false) : moveM i e = .ok d e := by
  rw [moveM_ap, h]
  show (if d.own = true then _ else _) = _
  rw [if_neg (by rw [ho]; exact Bool.false_ne_true)]
theorem o_moveO (h : e.s[i]? = some (some d)) (ho : d.own = true) (hp : e.p[i]? ≠ some true) : moveM i e = .ok d (e.drop i) := by
  rw [moveM_ap, h]
  show (if d.own = true then _ else _) = _
  rw [if_pos ho, if_neg hp]
end
end PL
/-! Q1: comprehensions as maps; words, rows, sets, pairs -/
namespace PL
open PySem PySem.Spec L2 VI
theorem compLoop_map {gt : D → M Unit} {ft : M Bool} {fe : M D} {vs : List Nat} {env : VI.Env} (g : D → D) : ∀ (ds acc : List D),
    (∀ d ∈ ds, d.own = false ∧ ∃ e1 e2 e3, gt d env = .ok () e1 ∧ ft e1 = .ok true e2 ∧ fe e2 = .ok (g d) e3 ∧ e3.dropL vs = env) → acc.length + ds.length ≤ 16777216 → compLoop gt ft fe vs ds acc env = .ok (acc ++ ds.map g) env
  | [], acc, _, _ => by simp [compLoop, pur]
  | d :: ds, acc, h, hl => by
    obtain ⟨ho, e1, e2, e3, h1, h2, h3, h4⟩ := h d List.mem_cons_self
    simp only [List.length_cons] at hl
    have ih := compLoop_map g ds (acc ++ [g d]) (fun x hx => h x (List.mem_cons_of_mem _ hx)) (by simp; omega)
    simp only [compLoop, h1, h2, h3, h4, ho, if_pos (show acc.length < 16777216 by omega), Bool.false_eq_true, if_false, ih]
    simp
theorem compM_map {vs : List Nat} {fi : M (List D)} {gt : D → M Unit} {ft : M Bool} {fe : M D} {env e0 e1 e2 : VI.Env} {ds : List D} (g : D → D) (h : fi env = .ok ds e1) (hs : savedOk e1 vs = true) (h0 : e1.dropL vs = e0) (h2 : e0.restL e1 vs = e2)
    (k : ∀ d ∈ ds, d.own = false ∧ ∃ e1 e2 e3, gt d e0 = .ok () e1 ∧ ft e1 = .ok true e2 ∧ fe e2 = .ok (g d) e3 ∧ e3.dropL vs = e0) (hl : ds.length ≤ 16777216) : compM vs fi gt ft fe env = .ok (.lst true (ds.map g)) e2 := by
  have := compLoop_map g ds [] k (by simpa using hl)
  unfold compM bnd
  rw [h]
  simp only [hs, if_true, h0, this, List.nil_append, h2]
theorem blsD_map {α : Type} (f : α → Bool) : ∀ l : List α, blsD (l.map fun a => .bl (f a)) = some (l.map f)
  | [] => rfl
  | a :: l => by simp [blsD, blsD_map f l]
theorem allD_map {α : Type} (f : α → Bool) (l : List α) : allD (.lst true (l.map fun a => .bl (f a))) = some (.bl (l.all f)) := by
  simp [allD, blsD_map]
theorem anyD_map {α : Type} (f : α → Bool) (l : List α) : anyD (.lst true (l.map fun a => .bl (f a))) = some (.bl (l.any f)) := by
  simp [anyD, blsD_map]
theorem strsD_map : ∀ l : List Str, strsD (l.map .str) = some l
  | [] => rfl
  | a :: l => by simp [strsD, strsD_map l]
theorem owns_strs (l : List Str) : D.owns (l.map .str) = false := owns_map _ (fun _ => rfl) l
theorem owns_of {l : List D} (h : ∀ d ∈ l, d.own = false) : D.owns l = false := by
  induction l with
  | nil => rfl
  | cons x l ih => simp [D.owns, h x List.mem_cons_self, ih fun d hd => h d (List.mem_cons_of_mem _ hd)]
theorem own_of {l : List D} (h : D.owns l = false) {d : D} (hd : d ∈ l) : d.own = false := by
  induction l with
  | nil => simp at hd
  | cons x l ih =>
    simp only [D.owns, Bool.or_eq_false_iff] at h
    rcases List.mem_cons.mp hd with rfl | hd
    · exact h.1
    · exact ih h.2 hd
/-- what isinstance knows, with no owner -/
def kn1 : D → Bool
  | .str x => decide (x.length ≤ 1000000)
  | .ins _ _ _ => false
  | .exc _ _ => false
  | d => !d.own
theorem kn1_own {d : D} (h : kn1 d = true) : d.own = false := by
  cases d <;> first | rfl | (simpa [kn1] using h) | cases h
/-! ### words -/
def lettersL : Str := "abcdefghijklmnopqrstuvwxyz"
def barsL : List Str := ["stop", "spin", "out", "own", "beside", "hide", "as"]
def lows (x : Str) : Bool := x.cps.toList.all fun c => decide (c ∈ lettersL.cps.toList)
def isW (x : Str) : Bool := decide (1 ≤ x.length ∧ x.length ≤ 6) && !(inF (.str x) (barsL.map .str)) && lows x
def isWD : D → Bool
  | .str x => isW x
  | _ => false
theorem comp_in (x y : Str) (hx : x.length ≤ 16777216) (b : Bool) : compM [1] (seqI (varM 0)) (gnM 1) (pur true) (twoM true (varM 1) (pur (.str y)) inD) ⟨[some (.str x), none], [b]⟩ = .ok (.lst true (x.cps.toList.map fun c => .bl (decide (c ∈ y.cps.toList)))) ⟨[some (.str x), none], [b]⟩ := by
  have := compM_map (vs := [1]) (fi := seqI (varM 0)) (gt := gnM 1) (ft := pur true) (fe := twoM true (varM 1) (pur (.str y)) inD) (env := ⟨[some (.str x), none], [b]⟩) (e0 := ⟨[some (.str x), none], [b]⟩) (e1 := ⟨[some (.str x), none], [b]⟩) (e2 := ⟨[some (.str x), none], [b]⟩) (ds := x.cps.toList.map fun c => .str ⟨#[c]⟩)
    (fun d => match inSD d (.str y) with | some r => r | none => d) (by simp [runB_ap, orun, env0, finL, obind_ok, obind_exc, oof_some, obool_bl, oslot_some, bnd_ap, pur_ap, varM_ap, keepM_ap, moveM_ap, plainM_ap, twoM_ap, oneM_ap, boolM_ap, andM_ap, orM_ap, notM_ap, andD_ap, orD_ap, notD_ap, iteM_ap, consM_ap, tupM_ap, lstM_ap, argM_ap, narM_ap, otake_some, ocres_ok, ocres_exc, callM_ap, exprM_ap, oput, asgM_ap, retM_ap, oseq_nx, oseq_rt, oseq_bk, oseq_ct, seqM_ap, raiseM_ap, seqI_ap, forS_ap, chainM_ap, partM_ap, sliceM_ap, asgtM_ap, takeA, backA, Env.put, Env.drop, own_non, own_bl, own_int, own_str, own_tup, own_lst, own_dct, own_exc, owns_nil, owns_cons, List.replicate, Bool.or_false, Bool.false_or, Bool.or_true, Bool.true_or, itemsD]) (by simp [savedOk]) (by simp [Env.dropL, Env.drop]) (by simp [Env.restL, Env.drop])
    (fun d hd => by
      obtain ⟨c, hc, rfl⟩ := List.mem_map.mp hd
      exact ⟨rfl, _, _, _, by simp [gnM, Env.put]; rfl, rfl, by simp [runB_ap, orun, env0, finL, obind_ok, obind_exc, oof_some, obool_bl, oslot_some, bnd_ap, pur_ap, varM_ap, keepM_ap, moveM_ap, plainM_ap, twoM_ap, oneM_ap, boolM_ap, andM_ap, orM_ap, notM_ap, andD_ap, orD_ap, notD_ap, iteM_ap, consM_ap, tupM_ap, lstM_ap, argM_ap, narM_ap, otake_some, ocres_ok, ocres_exc, callM_ap, exprM_ap, oput, asgM_ap, retM_ap, oseq_nx, oseq_rt, oseq_bk, oseq_ct, seqM_ap, raiseM_ap, seqI_ap, forS_ap, chainM_ap, partM_ap, sliceM_ap, asgtM_ap, takeA, backA, Env.put, Env.drop, own_non, own_bl, own_int, own_str, own_tup, own_lst, own_dct, own_exc, owns_nil, owns_cons, List.replicate, Bool.or_false, Bool.false_or, Bool.or_true, Bool.true_or, inD, inSD]; rfl, by simp [Env.dropL, Env.drop]⟩) (by simp; simp [Str.length] at hx; omega)
  rw [this]
  simp [inSD]
def isS : D → Bool
  | .str _ => true
  | _ => false
def isT : D → Bool
  | .tup _ => true
  | _ => false
theorem isi_str {d : D} (h : kn1 d = true) : isiD tb_str te_str d = some (.bl (isS d)) := by
  cases d <;> first | rfl | cases h
theorem isi_tup {d : D} (h : kn1 d = true) : isiD tb_tuple te_tuple d = some (.bl (isT d)) := by
  cases d <;> first | rfl | cases h
theorem word_run {d : D} (h : kn1 d = true) : runB 2 B_is_word [d] = .ok (.bl (isWD d)) [d] := by
  have ho := kn1_own h
  have hi := isi_str h
  cases hs : isS d with
  | false =>
    have hw : isWD d = false := by cases d <;> first | rfl | cases hs
    simp [B_is_word, runB_ap, orun, env0, finL, obind_ok, obind_exc, oof_some, obool_bl, oslot_some, bnd_ap, pur_ap, varM_ap, keepM_ap, moveM_ap, plainM_ap, twoM_ap, oneM_ap, boolM_ap, andM_ap, orM_ap, notM_ap, andD_ap, orD_ap, notD_ap, iteM_ap, consM_ap, tupM_ap, lstM_ap, argM_ap, narM_ap, otake_some, ocres_ok, ocres_exc, callM_ap, exprM_ap, oput, asgM_ap, retM_ap, oseq_nx, oseq_rt, oseq_bk, oseq_ct, seqM_ap, raiseM_ap, seqI_ap, forS_ap, chainM_ap, partM_ap, sliceM_ap, asgtM_ap, takeA, backA, Env.put, Env.drop, own_non, own_bl, own_int, own_str, own_tup, own_lst, own_dct, own_exc, owns_nil, owns_cons, List.replicate, Bool.or_false, Bool.false_or, Bool.or_true, Bool.true_or, ho, hi, hs, hw]
  | true =>
    cases d <;> cases hs
    rename_i x
    simp only [kn1, decide_eq_true_eq] at h
    have e3 : x.length ≤ 16777216 := by omega
    have hl : lenD (.str x) = some (.int x.length) := by simp [lenD, e3]
    by_cases h1 : 1 ≤ x.length
    · have e1 : (1 : Int) ≤ (x.length : Int) := by omega
      by_cases h2 : x.length ≤ 6
      · have e2 : (x.length : Int) ≤ 6 := by omega
        have hc := comp_in x "abcdefghijklmnopqrstuvwxyz" e3 false
        have hin : inD (.str x) (.tup [.str "stop", .str "spin", .str "out", .str "own", .str "beside", .str "hide", .str "as"]) = some (.bl (inF (.str x) (barsL.map .str))) := by simp [inD, inFD, flatD, barsL]
        cases hb : inF (.str x) (barsL.map .str) <;>
          simp [B_is_word, runB_ap, orun, env0, finL, obind_ok, obind_exc, oof_some, obool_bl, oslot_some, bnd_ap, pur_ap, varM_ap, keepM_ap, moveM_ap, plainM_ap, twoM_ap, oneM_ap, boolM_ap, andM_ap, orM_ap, notM_ap, andD_ap, orD_ap, notD_ap, iteM_ap, consM_ap, tupM_ap, lstM_ap, argM_ap, narM_ap, otake_some, ocres_ok, ocres_exc, callM_ap, exprM_ap, oput, asgM_ap, retM_ap, oseq_nx, oseq_rt, oseq_bk, oseq_ct, seqM_ap, raiseM_ap, seqI_ap, forS_ap, chainM_ap, partM_ap, sliceM_ap, asgtM_ap, takeA, backA, Env.put, Env.drop, own_non, own_bl, own_int, own_str, own_tup, own_lst, own_dct, own_exc, owns_nil, owns_cons, List.replicate, Bool.or_false, Bool.false_or, Bool.or_true, Bool.true_or, hi, hl, leD, e1, e2, hin, hb, isS, isWD, isW, hc, allD_map, h1, h2, lows, lettersL]
      · have e2 : ¬ (x.length : Int) ≤ 6 := by omega
        simp [B_is_word, runB_ap, orun, env0, finL, obind_ok, obind_exc, oof_some, obool_bl, oslot_some, bnd_ap, pur_ap, varM_ap, keepM_ap, moveM_ap, plainM_ap, twoM_ap, oneM_ap, boolM_ap, andM_ap, orM_ap, notM_ap, andD_ap, orD_ap, notD_ap, iteM_ap, consM_ap, tupM_ap, lstM_ap, argM_ap, narM_ap, otake_some, ocres_ok, ocres_exc, callM_ap, exprM_ap, oput, asgM_ap, retM_ap, oseq_nx, oseq_rt, oseq_bk, oseq_ct, seqM_ap, raiseM_ap, seqI_ap, forS_ap, chainM_ap, partM_ap, sliceM_ap, asgtM_ap, takeA, backA, Env.put, Env.drop, own_non, own_bl, own_int, own_str, own_tup, own_lst, own_dct, own_exc, owns_nil, owns_cons, List.replicate, Bool.or_false, Bool.false_or, Bool.or_true, Bool.true_or, hi, hl, leD, e1, e2, isS, isWD, isW, h2]
    · have e1 : ¬ (1 : Int) ≤ (x.length : Int) := by omega
      simp [B_is_word, runB_ap, orun, env0, finL, obind_ok, obind_exc, oof_some, obool_bl, oslot_some, bnd_ap, pur_ap, varM_ap, keepM_ap, moveM_ap, plainM_ap, twoM_ap, oneM_ap, boolM_ap, andM_ap, orM_ap, notM_ap, andD_ap, orD_ap, notD_ap, iteM_ap, consM_ap, tupM_ap, lstM_ap, argM_ap, narM_ap, otake_some, ocres_ok, ocres_exc, callM_ap, exprM_ap, oput, asgM_ap, retM_ap, oseq_nx, oseq_rt, oseq_bk, oseq_ct, seqM_ap, raiseM_ap, seqI_ap, forS_ap, chainM_ap, partM_ap, sliceM_ap, asgtM_ap, takeA, backA, Env.put, Env.drop, own_non, own_bl, own_int, own_str, own_tup, own_lst, own_dct, own_exc, owns_nil, owns_cons, List.replicate, Bool.or_false, Bool.false_or, Bool.or_true, Bool.true_or, hi, hl, leD, e1, isS, isWD, isW, h1]
end PL
/-! Q2: rows, sets, pairs; forms of hands -/
namespace PL
open PySem PySem.Spec L2 VI
theorem set_same {α : Type} {l : List α} {v : Nat} {a : α} (h : l[v]? = some a) : l.set v a = l := by
  apply List.ext_getElem?
  intro i
  by_cases hi : v = i
  · subst hi
    rw [List.getElem?_set_self (List.getElem?_eq_some_iff.mp h).1, h]
  · rw [List.getElem?_set_ne hi]
theorem drop_put {e : VI.Env} {v : Nat} {d : D} (h : e.s[v]? = some none) : (e.put v d).drop v = e := by
  cases e with
  | mk s p =>
    simp only [Env.put, Env.drop, List.set_set]
    congr 1
    exact set_same h
theorem drop_same {e : VI.Env} {v : Nat} (h : e.s[v]? = some none) : e.drop v = e := by
  cases e with
  | mk s p =>
    simp only [Env.drop]
    congr 1
    exact set_same h
theorem put_get {e : VI.Env} {v : Nat} {d : D} (h : v < e.s.length) : (e.put v d).s[v]? = some (some d) := by
  simp [Env.put, h]
theorem lt_of_get {e : VI.Env} {v : Nat} {o : Option D} (h : e.s[v]? = some o) : v < e.s.length := (List.getElem?_eq_some_iff.mp h).1
/-- a slot that a comprehension takes over: empty, or with a value that nothing owns -/
def Fre (e : VI.Env) (v : Nat) : Prop := e.s[v]? = some none ∨ ∃ d, e.s[v]? = some (some d) ∧ d.own = false
theorem Fre.lt {e : VI.Env} {v : Nat} (h : Fre e v) : v < e.s.length := by
  rcases h with h | ⟨d, h, _⟩ <;> exact lt_of_get h
theorem comp1 {v : Nat} {fi : M (List D)} {fe : M D} {env e : VI.Env} {ds : List D} (g : D → D) (hfi : fi env = .ok ds e) (hv : Fre e v) (hp : e.p[v]? ≠ some true) (hd : ∀ d ∈ ds, d.own = false ∧ fe (e.put v d) = .ok (g d) (e.put v d)) (hl : ds.length ≤ 16777216) :
    compM [v] fi (gnM v) (pur true) fe env = .ok (.lst true (ds.map g)) e := by
  have hlt := hv.lt
  refine compM_map (e0 := e.drop v) (e1 := e) g hfi ?_ (by simp [Env.dropL]) ?_ (fun d hx => ?_) hl
  · rcases hv with h | ⟨d, h, ho⟩
    · simp [savedOk, h]
    · simp [savedOk, h, ho]
  · rcases hv with h | ⟨d, h, ho⟩
    · simp [Env.restL, h, drop_same h, Env.drop]
      rw [set_same h]
    · simp [Env.restL, h, Env.drop, Env.put]
      cases e with
      | mk s p => simp only; rw [set_same h]
  · obtain ⟨h1, h2⟩ := hd d hx
    have e1 : (e.drop v).put v d = e.put v d := by simp [Env.drop, Env.put]
    exact ⟨h1, e.put v d, e.put v d, e.put v d, by simp [gnM, Env.drop, hp, hlt]; simp [Env.put], rfl, h2, by simp [Env.dropL, Env.drop, Env.put]⟩
/-- an own test of each item -/
theorem comp_call {v : Nat} {f : List D → CRes} {fi : M (List D)} {env e : VI.Env} {ds : List D} (g : D → D) (hfi : fi env = .ok ds e) (hv : Fre e v) (hp : e.p[v]? ≠ some true) (hd : ∀ d ∈ ds, d.own = false ∧ f [d] = .ok (g d) [d]) (hl : ds.length ≤ 16777216) :
    compM [v] fi (gnM v) (pur true) (callM f (narM v (pur []))) env = .ok (.lst true (ds.map g)) e := comp1 g hfi hv hp (fun d hx => by
  obtain ⟨h1, h2⟩ := hd d hx
  have hl := hv.lt
  refine ⟨h1, ?_⟩
  simp [callM_ap, narM_ap, put_get hl, oslot_some, obind_ok, pur_ap, takeA, h1, otake_some, h2, ocres_ok, backA]) hl
/-- all tests hold, or it's told at the first that doesn't -/
theorem forM_all {gt : D → M Unit} {fb : M Fl} {t : D → Bool} {r : D} (I : VI.Env → Prop) : ∀ {ds : List D} {e : VI.Env}, I e → (∀ d ∈ ds, ∀ e, I e → d.own = false ∧ ∃ e1 e2, gt d e = .ok () e1 ∧ I e2 ∧ fb e1 = if t d = true then .ok .nx e2 else .ok (.rt r) e2) →
    ∃ e2, I e2 ∧ VI.forM gt fb ds e = if ds.all t = true then .ok .nx e2 else .ok (.rt r) e2
  | [], e, h, _ => ⟨e, h, rfl⟩
  | d :: ds, e, h, k => by
    obtain ⟨ho, e1, e2, h1, h2, h3⟩ := k d List.mem_cons_self e h
    unfold VI.forM
    rw [if_neg (by rw [ho]; exact Bool.false_ne_true)]
    unfold gtb
    rw [h1]
    dsimp only
    rw [bnd_ap, h3]
    cases ht : t d with
    | true =>
      obtain ⟨e3, q1, q2⟩ := forM_all I h2 fun x hx => k x (List.mem_cons_of_mem _ hx)
      refine ⟨e3, q1, ?_⟩
      simp only [if_true, obind_ok, List.all_cons, ht, Bool.true_and]
      exact q2
    | false =>
      refine ⟨e2, h2, ?_⟩
      simp [obind_ok, ht, pur_ap]
theorem row_run {f : List D → CRes} (hf : ∀ d, kn1 d = true → f [d] = .ok (.bl (isWD d)) [d]) {ws : List Str} (h : ws.all isW = true) (hl : ws.length ≤ 1000000) : runB 2 (B_is_row f) [.tup (ws.map .str)] = .ok (.bl true) [.tup (ws.map .str)] := by
  have kw : ∀ w ∈ ws, isW w = true := List.all_eq_true.mp h
  have hc := comp_call (v := 1) (f := f) (fi := seqI (varM 0)) (env := ⟨[some (.tup (ws.map .str)), none], [false]⟩) (e := ⟨[some (.tup (ws.map .str)), none], [false]⟩) (ds := ws.map .str) (fun d => .bl (isWD d))
    (by simp [runB_ap, orun, env0, finL, obind_ok, obind_exc, oof_some, obool_bl, oslot_some, bnd_ap, pur_ap, varM_ap, keepM_ap, moveM_ap, plainM_ap, twoM_ap, oneM_ap, boolM_ap, andM_ap, orM_ap, notM_ap, andD_ap, orD_ap, notD_ap, iteM_ap, consM_ap, tupM_ap, lstM_ap, argM_ap, narM_ap, otake_some, ocres_ok, ocres_exc, callM_ap, exprM_ap, oput, asgM_ap, retM_ap, oseq_nx, oseq_rt, oseq_bk, oseq_ct, seqM_ap, raiseM_ap, seqI_ap, forS_ap, chainM_ap, partM_ap, sliceM_ap, asgtM_ap, takeA, backA, Env.put, Env.drop, own_non, own_bl, own_int, own_str, own_tup, own_lst, own_dct, own_exc, owns_nil, owns_cons, List.replicate, Bool.or_false, Bool.false_or, Bool.or_true, Bool.true_or, itemsD, owns_strs]) (.inl rfl) (by simp) (fun d hd => by
      obtain ⟨w, hw, rfl⟩ := List.mem_map.mp hd
      refine ⟨rfl, hf _ ?_⟩
      have := kw w hw
      simp only [isW, Bool.and_eq_true, decide_eq_true_eq] at this
      simp only [kn1, decide_eq_true_eq]
      omega) (by simp; omega)
  rw [List.map_map, show ((fun d => D.bl (isWD d)) ∘ D.str) = fun w => D.bl (isW w) from rfl] at hc
  have ho : D.own (.tup (ws.map .str)) = false := by simp [D.own, owns_strs]
  simp [B_is_row, runB_ap, orun, env0, finL, obind_ok, oof_some, obool_bl, oslot_some, varM_ap, oneM_ap, andD_ap, retM_ap, ho, isi_tup (d := .tup (ws.map .str)) (by simp [kn1, ho]), isT, hc, allD_map, List.replicate, owns_strs]
  exact kw
def risingB (xs : List Str) : Bool := (xs.zip (xs.drop 1)).all fun p => ltT p.1 p.2
theorem zip_strs : ∀ (xs ys : List Str), zipD (xs.map .str) (ys.map .str) = (xs.zip ys).map fun p => .tup [.str p.1, .str p.2]
  | [], _ => by simp [zipD]
  | _ :: _, [] => by simp [zipD]
  | x :: xs, y :: ys => by simp [zipD, zip_strs xs ys]
theorem cut1 (xs : List D) : cutD xs (some 1) none = xs.drop 1 := by
  unfold cutD HT.sIx
  simp only [show ¬ ((1 : Int) < 0) by decide, if_false]
  cases xs with
  | nil => simp
  | cons x r =>
    have e : min (1 : Int).toNat (x :: r).length = 1 := by simp
    rw [e]
    exact List.take_of_length_le (by simp)
theorem ltD_str (x y : Str) : ltD (.str x) (.str y) = some (.bl (ltT x y)) := rfl
theorem rising_core (o : D) (xs : List Str) (b : Bool) (hfi : ∀ e : VI.Env, e.s[0]? = some (some o) → zipI true (varM 0) (sliceM true (varM 0) (partM (pur (.int 1))) (pur none)) e = .ok ((xs.zip (xs.drop 1)).map fun p => .tup [.str p.1, .str p.2]) e) (hl : xs.length ≤ 16777216) :
    compM [1, 2] (zipI true (varM 0) (sliceM true (varM 0) (partM (pur (.int 1))) (pur none))) (gtM 2 (gconsM (gnM 1) (gconsM (gnM 2) (gnilM)))) (pur true) (twoM true (varM 1) (varM 2) ltD) ⟨[some o, none, none], [b]⟩ = .ok (.lst true ((xs.zip (xs.drop 1)).map fun p => .bl (ltT p.1 p.2))) ⟨[some o, none, none], [b]⟩ := by
  have := compM_map (vs := [1, 2]) (fi := zipI true (varM 0) (sliceM true (varM 0) (partM (pur (.int 1))) (pur none))) (gt := gtM 2 (gconsM (gnM 1) (gconsM (gnM 2) (gnilM)))) (ft := pur true) (fe := twoM true (varM 1) (varM 2) ltD) (env := ⟨[some o, none, none], [b]⟩) (e0 := ⟨[some o, none, none], [b]⟩) (e1 := ⟨[some o, none, none], [b]⟩) (e2 := ⟨[some o, none, none], [b]⟩)
    (ds := (xs.zip (xs.drop 1)).map fun p => .tup [.str p.1, .str p.2]) (fun d => match d with | .tup [.str x, .str y] => .bl (ltT x y) | d => d) (hfi _ rfl) (by simp [savedOk]) (by simp [Env.dropL, Env.drop]) (by simp [Env.restL, Env.drop])
    (fun d hd => by
      obtain ⟨p, hp, rfl⟩ := List.mem_map.mp hd
      exact ⟨rfl, _, _, _, by simp [gtM, gconsM, gnilM, gnM, bnd, Env.put, pur]; rfl, rfl, by simp [runB_ap, orun, env0, finL, obind_ok, obind_exc, oof_some, obool_bl, oslot_some, bnd_ap, pur_ap, varM_ap, keepM_ap, moveM_ap, plainM_ap, twoM_ap, oneM_ap, boolM_ap, andM_ap, orM_ap, notM_ap, andD_ap, orD_ap, notD_ap, iteM_ap, consM_ap, tupM_ap, lstM_ap, argM_ap, narM_ap, otake_some, ocres_ok, ocres_exc, callM_ap, exprM_ap, oput, asgM_ap, retM_ap, oseq_nx, oseq_rt, oseq_bk, oseq_ct, seqM_ap, raiseM_ap, seqI_ap, forS_ap, chainM_ap, partM_ap, sliceM_ap, asgtM_ap, takeA, backA, Env.put, Env.drop, own_non, own_bl, own_int, own_str, own_tup, own_lst, own_dct, own_exc, owns_nil, owns_cons, List.replicate, Bool.or_false, Bool.false_or, Bool.or_true, Bool.true_or, ltD_str]; rfl, by simp [Env.dropL, Env.drop]⟩) (by simp; omega)
  rw [this, List.map_map]
  rfl
theorem rising_t {xs : List Str} (hl : xs.length ≤ 16777216) : runB 3 B_is_rising [.tup (xs.map .str)] = .ok (.bl (risingB xs)) [.tup (xs.map .str)] := by
  have hc := rising_core (.tup (xs.map .str)) xs false (fun e he => by
    have h1 : D.owns (List.map D.str xs).tail = false := by rw [← List.map_tail]; exact owns_strs _
    have h2 := zip_strs xs xs.tail
    rw [List.map_tail] at h2
    simp [zipI, bnd, varM, he, sliceM, partM, pur, ofO, sliceD, owns_strs, cut1, h1, h2]) hl
  simp [B_is_rising, runB_ap, orun, env0, finL, obind_ok, oof_some, oneM_ap, retM_ap, hc, allD_map, List.replicate, D.own, owns_strs, risingB]
theorem rising_l {xs : List Str} (hl : xs.length ≤ 16777216) : runB 3 B_is_rising [.lst true (xs.map .str)] = .ok (.bl (risingB xs)) [.lst true (xs.map .str)] := by
  have hc := rising_core (.lst true (xs.map .str)) xs true (fun e he => by
    have h1 : D.owns (List.map D.str xs).tail = false := by rw [← List.map_tail]; exact owns_strs _
    have h2 := zip_strs xs xs.tail
    rw [List.map_tail] at h2
    simp [zipI, bnd, varM, he, sliceM, partM, pur, ofO, sliceD, owns_strs, cut1, h1, h2]) hl
  simp [B_is_rising, runB_ap, orun, env0, finL, obind_ok, oof_some, oneM_ap, retM_ap, hc, allD_map, List.replicate, D.own, owns_strs, risingB]
/-- a set's words, pairs' words -/
def okSet (ws : List Str) : Bool := ws.all isW && decide (ws.length ≤ 8) && risingB ws
def okPairs (ps : List (Str × Str)) : Bool := ps.all (fun p => isW p.1 && isW p.2) && decide (ps.length ≤ 8) && risingB (ps.map (·.1))
def setD' (ws : List Str) : D := .tup (ws.map .str)
def pairD (p : Str × Str) : D := .tup [.str p.1, .str p.2]
def pairsD (ps : List (Str × Str)) : D := .tup (ps.map pairD)
theorem set_run {f g : List D → CRes} (hf : ∀ ws : List Str, ws.all isW = true → ws.length ≤ 1000000 → f [.tup (ws.map .str)] = .ok (.bl true) [.tup (ws.map .str)]) (hg : ∀ xs : List Str, xs.length ≤ 16777216 → g [.tup (xs.map .str)] = .ok (.bl (risingB xs)) [.tup (xs.map .str)])
    {ws : List Str} (h : okSet ws = true) : runB 1 (B_is_set f g) [setD' ws] = .ok (.bl true) [setD' ws] := by
  simp only [okSet, Bool.and_eq_true, decide_eq_true_eq] at h
  obtain ⟨⟨h1, h2⟩, h3⟩ := h
  have e1 := hf ws h1 (by omega)
  have e2 := hg ws (by omega)
  rw [h3] at e2
  have e3 : ((ws.length : Nat) : Int) ≤ 8 := by omega
  simp [B_is_set, setD', runB_ap, orun, env0, finL, obind_ok, obind_exc, oof_some, obool_bl, oslot_some, bnd_ap, pur_ap, varM_ap, keepM_ap, moveM_ap, plainM_ap, twoM_ap, oneM_ap, boolM_ap, andM_ap, orM_ap, notM_ap, andD_ap, orD_ap, notD_ap, iteM_ap, consM_ap, tupM_ap, lstM_ap, argM_ap, narM_ap, otake_some, ocres_ok, ocres_exc, callM_ap, exprM_ap, oput, asgM_ap, retM_ap, oseq_nx, oseq_rt, oseq_bk, oseq_ct, seqM_ap, raiseM_ap, seqI_ap, forS_ap, chainM_ap, partM_ap, sliceM_ap, asgtM_ap, takeA, backA, Env.put, Env.drop, own_non, own_bl, own_int, own_str, own_tup, own_lst, own_dct, own_exc, owns_nil, owns_cons, List.replicate, Bool.or_false, Bool.false_or, Bool.or_true, Bool.true_or, owns_strs, e1, e2, lenD, leD, e3]
theorem pairs_run {f g : List D → CRes} (hf : ∀ d, kn1 d = true → f [d] = .ok (.bl (isWD d)) [d]) (hg : ∀ xs : List Str, xs.length ≤ 16777216 → g [.lst true (xs.map .str)] = .ok (.bl (risingB xs)) [.lst true (xs.map .str)])
    {ps : List (Str × Str)} (h : okPairs ps = true) : runB 3 (B_is_pairs f g) [pairsD ps] = .ok (.bl true) [pairsD ps] := by
  simp only [okPairs, Bool.and_eq_true, decide_eq_true_eq] at h
  obtain ⟨⟨h1, h2⟩, h3⟩ := h
  have h1 : ∀ p ∈ ps, isW p.1 = true ∧ isW p.2 = true := fun p hp => by
    have := List.all_eq_true.mp h1 p hp
    simpa using this
  have ow : D.owns (ps.map pairD) = false := owns_map _ (fun _ => rfl) ps
  have ho : D.own (pairsD ps) = false := by simp [pairsD, D.own, ow]
  have kw : ∀ w, isW w = true → kn1 (.str w) = true := fun w hw => by
    simp only [isW, Bool.and_eq_true, decide_eq_true_eq] at hw
    simp only [kn1, decide_eq_true_eq]
    omega
  -- the loop
  obtain ⟨e2, ⟨o, oo, rfl⟩, q⟩ := forM_all (gt := gnM 1) (fb := iteM (VI.orM (VI.notM (boolM (oneM (varM 1) (isiD tb_tuple te_tuple)))) (VI.orM (boolM (twoM true (oneM (varM 1) lenD) (pur (.int 2)) neD)) (VI.notM (boolM (oneM (compM [2] (seqI (varM 1)) (gnM 2) (pur true) (callM f (narM 2 (pur [])))) allD))))) (retM (pur (.bl false))) (pur .nx))
    (t := fun _ => true) (r := .bl false) (fun e => ∃ o, (∀ d, o = some d → d.own = false) ∧ e = ⟨[some (pairsD ps), o, none], [false]⟩) (ds := ps.map pairD) (e := ⟨[some (pairsD ps), none, none], [false]⟩) ⟨none, fun d h => (by cases h), rfl⟩
    (fun d hd e he => by
      obtain ⟨o, _, rfl⟩ := he
      obtain ⟨p, hp, rfl⟩ := List.mem_map.mp hd
      obtain ⟨w1, w2⟩ := h1 p hp
      have hc := comp_call (v := 2) (f := f) (fi := seqI (varM 1)) (env := ⟨[some (pairsD ps), some (pairD p), none], [false]⟩) (e := ⟨[some (pairsD ps), some (pairD p), none], [false]⟩) (ds := [.str p.1, .str p.2]) (fun d => .bl (isWD d))
        (by simp [runB_ap, orun, env0, finL, obind_ok, obind_exc, oof_some, obool_bl, oslot_some, bnd_ap, pur_ap, varM_ap, keepM_ap, moveM_ap, plainM_ap, twoM_ap, oneM_ap, boolM_ap, andM_ap, orM_ap, notM_ap, andD_ap, orD_ap, notD_ap, iteM_ap, consM_ap, tupM_ap, lstM_ap, argM_ap, narM_ap, otake_some, ocres_ok, ocres_exc, callM_ap, exprM_ap, oput, asgM_ap, retM_ap, oseq_nx, oseq_rt, oseq_bk, oseq_ct, seqM_ap, raiseM_ap, seqI_ap, forS_ap, chainM_ap, partM_ap, sliceM_ap, asgtM_ap, takeA, backA, Env.put, Env.drop, own_non, own_bl, own_int, own_str, own_tup, own_lst, own_dct, own_exc, owns_nil, owns_cons, List.replicate, Bool.or_false, Bool.false_or, Bool.or_true, Bool.true_or, itemsD, pairD]) (.inl rfl) (by simp) (fun d hd => by
          rcases List.mem_cons.mp hd with rfl | hd
          · exact ⟨rfl, hf _ (kw _ w1)⟩
          · rcases List.mem_cons.mp hd with rfl | hd
            · exact ⟨rfl, hf _ (kw _ w2)⟩
            · simp at hd) (by simp)
      simp only [List.map_cons, List.map_nil, isWD, w1, w2] at hc
      refine ⟨rfl, ⟨[some (pairsD ps), some (pairD p), none], [false]⟩, ⟨[some (pairsD ps), some (pairD p), none], [false]⟩, by simp [gnM, Env.put], ⟨some (pairD p), fun d h => (by cases h; rfl), rfl⟩, ?_⟩
      have hi : isiD tb_tuple te_tuple (pairD p) = some (.bl true) := by rfl
      have hn : lenD (pairD p) = some (.int 2) := by rfl
      have hq : neD (.int 2) (.int 2) = some (.bl false) := by rfl
      simp [iteM_ap, orM_ap, notM_ap, boolM_ap, oneM_ap, varM_ap, oslot_some, obind_ok, oof_some, obool_bl, twoM_ap, pur_ap, retM_ap, hi, hn, hq, hc, allD, blsD, D.own])
  have q' : VI.forM (gnM 1) (iteM (VI.orM (VI.notM (boolM (oneM (varM 1) (isiD tb_tuple te_tuple)))) (VI.orM (boolM (twoM true (oneM (varM 1) lenD) (pur (.int 2)) neD)) (VI.notM (boolM (oneM (compM [2] (seqI (varM 1)) (gnM 2) (pur true) (callM f (narM 2 (pur [])))) allD))))) (retM (pur (.bl false))) (pur .nx)) (ps.map pairD) ⟨[some (pairsD ps), none, none], [false]⟩ = .ok .nx ⟨[some (pairsD ps), o, none], [false]⟩ := by
    rw [q]
    simp
  -- the firsts: slot 1 is taken over by the comprehension
  have hc := comp1 (v := 1) (fi := seqI (varM 0)) (fe := twoM true (varM 1) (pur (.int 0)) ixD) (env := ⟨[some (pairsD ps), o, none], [false]⟩) (e := ⟨[some (pairsD ps), o, none], [false]⟩) (ds := ps.map pairD)
    (fun d => match ixD d (.int 0) with | some r => r | none => d) (by simp [seqI_ap, varM_ap, oslot_some, obind_ok, pairsD, itemsD, ow, oof_some]) (by
      cases o with
      | none => exact .inl rfl
      | some d => exact .inr ⟨d, rfl, oo d rfl⟩) (by simp) (fun d hd => by
      obtain ⟨p, hp, rfl⟩ := List.mem_map.mp hd
      have hx : ixD (pairD p) (.int 0) = some (.str p.1) := by rfl
      exact ⟨rfl, by simp [twoM_ap, varM_ap, pur_ap, Env.put, oslot_some, obind_ok, hx, oof_some]⟩) (by simp; omega)
  rw [List.map_map, show ((fun d : D => match ixD d (.int 0) with | some r => r | none => d) ∘ pairD) = fun p => D.str p.1 from by funext p; rfl] at hc
  have hr := hg (ps.map (·.1)) (by simp; omega)
  rw [h3, List.map_map, show (D.str ∘ fun p : Str × Str => p.1) = fun p => D.str p.1 from rfl] at hr
  have hi : isiD tb_tuple te_tuple (pairsD ps) = some (.bl true) := isi_tup (d := pairsD ps) (by simp [kn1, pairsD, D.own, ow])
  have hl : lenD (pairsD ps) = some (.int ps.length) := by simp [lenD, pairsD]
  have hgt : ¬ (8 : Int) < (ps.length : Int) := by omega
  have hit : itemsD (pairsD ps) = some (ps.map pairD) := by simp [itemsD, pairsD, ow]
  have on : D.owns (ps.map fun p => D.str p.1) = false := owns_map _ (fun _ => rfl) ps
  simp [B_is_pairs, runB_ap, orun, env0, ho, finL, seqM_ap, iteM_ap, orM_ap, notM_ap, boolM_ap, oneM_ap, twoM_ap, varM_ap, oslot_some, obind_ok, oof_some, obool_bl, pur_ap, retM_ap, forS_ap, seqI_ap, oseq_nx, oseq_rt, hi, hl, gtD, hgt, hit, q', callM_ap, argM_ap, hc, takeA, otake_some, hr, ocres_ok, backA, List.replicate]
end PL
/-! Q3: hands -/
namespace PL
open PySem PySem.Spec L2 VI
inductive Hd where
  | stop | spin | name (x : Str) | thn (d : Str) (h : Hd) | two (o : Bool) (a b : Hd) | bes (a : Hd) (S : List Str) (b : Hd) | hid (a : Hd) (S : List Str) | als (a : Hd) (P : List (Str × Str))
def Hd.toD : Hd → D
  | .stop => .tup [.str "stop"]
  | .spin => .tup [.str "spin"]
  | .name x => .tup [.str "name", .str x]
  | .thn d h => .tup [.str "then", .str d, h.toD]
  | .two true a b => .tup [.str "own", a.toD, b.toD]
  | .two false a b => .tup [.str "out", a.toD, b.toD]
  | .bes a S b => .tup [.str "beside", a.toD, setD' S, b.toD]
  | .hid a S => .tup [.str "hide", a.toD, setD' S]
  | .als a P => .tup [.str "as", a.toD, pairsD P]
def Hd.good : Hd → Bool
  | .stop => true
  | .spin => true
  | .name x => isW x
  | .thn d h => isW d && h.good
  | .two _ a b => a.good && b.good
  | .bes a S b => okSet S && a.good && b.good
  | .hid a S => okSet S && a.good
  | .als a P => okPairs P && a.good
def Hd.subs : Hd → List Hd
  | .thn _ h => [h]
  | .two _ a b => [a, b]
  | .bes a _ b => [a, b]
  | .hid a _ => [a]
  | .als a _ => [a]
  | _ => []
def Hd.size : Hd → Nat
  | .thn _ h => 1 + h.size
  | .two _ a b => 1 + (a.size + b.size)
  | .bes a _ b => 1 + (a.size + b.size)
  | .hid a _ => 1 + a.size
  | .als a _ => 1 + a.size
  | _ => 1
def Hd.deep : Hd → Nat
  | .thn _ h => 1 + h.deep
  | .two _ a b => 1 + max a.deep b.deep
  | .bes a _ b => 1 + max a.deep b.deep
  | .hid a _ => 1 + a.deep
  | .als a _ => 1 + a.deep
  | _ => 1
theorem Hd.own : ∀ h : Hd, h.toD.own = false
  | .stop => rfl
  | .spin => rfl
  | .name _ => rfl
  | .thn d h => by simp [toD, D.own, D.owns, Hd.own h]
  | .two true a b => by simp [toD, D.own, D.owns, Hd.own a, Hd.own b]
  | .two false a b => by simp [toD, D.own, D.owns, Hd.own a, Hd.own b]
  | .bes a S b => by simp [toD, D.own, D.owns, Hd.own a, Hd.own b, setD', owns_strs]
  | .hid a S => by simp [toD, D.own, D.owns, Hd.own a, setD', owns_strs]
  | .als a P => by simp [toD, D.own, D.owns, Hd.own a, pairsD, owns_map pairD (fun _ => rfl)]
theorem setD'_own (S : List Str) : (setD' S).own = false := by simp [setD', D.own, owns_strs]
theorem pairsD_own (P : List (Str × Str)) : (pairsD P).own = false := by simp [pairsD, D.own, owns_map pairD (fun _ => rfl)]
theorem isi_tup_t {xs : List D} (h : D.owns xs = false) : isiD tb_tuple te_tuple (.tup xs) = some (.bl true) := isi_tup (d := .tup xs) (by simp [kn1, D.own, h])
theorem isi_str_s (x : Str) : isiD tb_str te_str (.str x) = some (.bl true) := by rfl
theorem kn1_w {x : Str} (h : isW x = true) : kn1 (.str x) = true := by
  simp only [isW, Bool.and_eq_true, decide_eq_true_eq] at h
  simp only [kn1, decide_eq_true_eq]
  omega
theorem eq_nil_f (x : D) (xs : List D) : eqD (.tup (x :: xs)) (.tup []) = some (.bl false) := rfl
theorem atI_n {xs : List D} {k : Nat} (h : k < xs.length) : atI xs (k : Int) = xs[k]? := by
  unfold atI
  rw [ixN_pos (by omega) (by omega)]
  simp
theorem ix0 {x : D} {xs : List D} (h : x.own = false) : ixD (.tup (x :: xs)) (.int 0) = some x := by
  have : atI (x :: xs) 0 = some x := atI_n (k := 0) (by simp)
  simp [ixD, this, h]
theorem ix1 {x y : D} {xs : List D} (h : y.own = false) : ixD (.tup (x :: y :: xs)) (.int 1) = some y := by
  have : atI (x :: y :: xs) 1 = some y := atI_n (k := 1) (by simp)
  simp [ixD, this, h]
theorem ix2 {x y z : D} {xs : List D} (h : z.own = false) : ixD (.tup (x :: y :: z :: xs)) (.int 2) = some z := by
  have : atI (x :: y :: z :: xs) 2 = some z := atI_n (k := 2) (by simp)
  simp [ixD, this, h]
theorem ix3 {x y z u : D} {xs : List D} (h : u.own = false) : ixD (.tup (x :: y :: z :: u :: xs)) (.int 3) = some u := by
  have : atI (x :: y :: z :: u :: xs) 3 = some u := atI_n (k := 3) (by simp)
  simp [ixD, this, h]
theorem eq_str (x y : Str) : eqD (.str x) (.str y) = some (.bl (decide (x = y))) := rfl
theorem ne_str (x y : Str) : neD (.str x) (.str y) = some (.bl (!decide (x = y))) := rfl
theorem ne_int (x y : Int) : neD (.int x) (.int y) = some (.bl (!decide (x = y))) := rfl
theorem in2 (w x y : Str) : inD (.str w) (.tup [.str x, .str y]) = some (.bl (decide (x = w) || decide (y = w))) := by simp [inD, inFD, flatD, inF, eqF]
theorem len_tup (xs : List D) : lenD (.tup xs) = some (.int xs.length) := rfl
theorem n_stop_spin : (("stop" : Str) = "spin") = False := by decide
theorem n_stop_name : (("stop" : Str) = "name") = False := by decide
theorem n_stop_then : (("stop" : Str) = "then") = False := by decide
theorem n_stop_out : (("stop" : Str) = "out") = False := by decide
theorem n_stop_own : (("stop" : Str) = "own") = False := by decide
theorem n_stop_beside : (("stop" : Str) = "beside") = False := by decide
theorem n_stop_hide : (("stop" : Str) = "hide") = False := by decide
theorem n_stop_as : (("stop" : Str) = "as") = False := by decide
theorem n_spin_stop : (("spin" : Str) = "stop") = False := by decide
theorem n_spin_name : (("spin" : Str) = "name") = False := by decide
theorem n_spin_then : (("spin" : Str) = "then") = False := by decide
theorem n_spin_out : (("spin" : Str) = "out") = False := by decide
theorem n_spin_own : (("spin" : Str) = "own") = False := by decide
theorem n_spin_beside : (("spin" : Str) = "beside") = False := by decide
theorem n_spin_hide : (("spin" : Str) = "hide") = False := by decide
theorem n_spin_as : (("spin" : Str) = "as") = False := by decide
theorem n_name_stop : (("name" : Str) = "stop") = False := by decide
theorem n_name_spin : (("name" : Str) = "spin") = False := by decide
theorem n_name_then : (("name" : Str) = "then") = False := by decide
theorem n_name_out : (("name" : Str) = "out") = False := by decide
theorem n_name_own : (("name" : Str) = "own") = False := by decide
theorem n_name_beside : (("name" : Str) = "beside") = False := by decide
theorem n_name_hide : (("name" : Str) = "hide") = False := by decide
theorem n_name_as : (("name" : Str) = "as") = False := by decide
theorem n_then_stop : (("then" : Str) = "stop") = False := by decide
theorem n_then_spin : (("then" : Str) = "spin") = False := by decide
theorem n_then_name : (("then" : Str) = "name") = False := by decide
theorem n_then_out : (("then" : Str) = "out") = False := by decide
theorem n_then_own : (("then" : Str) = "own") = False := by decide
theorem n_then_beside : (("then" : Str) = "beside") = False := by decide
theorem n_then_hide : (("then" : Str) = "hide") = False := by decide
theorem n_then_as : (("then" : Str) = "as") = False := by decide
theorem n_out_stop : (("out" : Str) = "stop") = False := by decide
theorem n_out_spin : (("out" : Str) = "spin") = False := by decide
theorem n_out_name : (("out" : Str) = "name") = False := by decide
theorem n_out_then : (("out" : Str) = "then") = False := by decide
theorem n_out_own : (("out" : Str) = "own") = False := by decide
theorem n_out_beside : (("out" : Str) = "beside") = False := by decide
theorem n_out_hide : (("out" : Str) = "hide") = False := by decide
theorem n_out_as : (("out" : Str) = "as") = False := by decide
theorem n_own_stop : (("own" : Str) = "stop") = False := by decide
theorem n_own_spin : (("own" : Str) = "spin") = False := by decide
theorem n_own_name : (("own" : Str) = "name") = False := by decide
theorem n_own_then : (("own" : Str) = "then") = False := by decide
theorem n_own_out : (("own" : Str) = "out") = False := by decide
theorem n_own_beside : (("own" : Str) = "beside") = False := by decide
theorem n_own_hide : (("own" : Str) = "hide") = False := by decide
theorem n_own_as : (("own" : Str) = "as") = False := by decide
theorem n_beside_stop : (("beside" : Str) = "stop") = False := by decide
theorem n_beside_spin : (("beside" : Str) = "spin") = False := by decide
theorem n_beside_name : (("beside" : Str) = "name") = False := by decide
theorem n_beside_then : (("beside" : Str) = "then") = False := by decide
theorem n_beside_out : (("beside" : Str) = "out") = False := by decide
theorem n_beside_own : (("beside" : Str) = "own") = False := by decide
theorem n_beside_hide : (("beside" : Str) = "hide") = False := by decide
theorem n_beside_as : (("beside" : Str) = "as") = False := by decide
theorem n_hide_stop : (("hide" : Str) = "stop") = False := by decide
theorem n_hide_spin : (("hide" : Str) = "spin") = False := by decide
theorem n_hide_name : (("hide" : Str) = "name") = False := by decide
theorem n_hide_then : (("hide" : Str) = "then") = False := by decide
theorem n_hide_out : (("hide" : Str) = "out") = False := by decide
theorem n_hide_own : (("hide" : Str) = "own") = False := by decide
theorem n_hide_beside : (("hide" : Str) = "beside") = False := by decide
theorem n_hide_as : (("hide" : Str) = "as") = False := by decide
theorem n_as_stop : (("as" : Str) = "stop") = False := by decide
theorem n_as_spin : (("as" : Str) = "spin") = False := by decide
theorem n_as_name : (("as" : Str) = "name") = False := by decide
theorem n_as_then : (("as" : Str) = "then") = False := by decide
theorem n_as_out : (("as" : Str) = "out") = False := by decide
theorem n_as_own : (("as" : Str) = "own") = False := by decide
theorem n_as_beside : (("as" : Str) = "beside") = False := by decide
theorem n_as_hide : (("as" : Str) = "hide") = False := by decide
theorem kf_stop : kgetD kd_LONG_forms (.str "stop") (.int 0) = some (.int 1) := by kernel_rfl
theorem kf_spin : kgetD kd_LONG_forms (.str "spin") (.int 0) = some (.int 1) := by kernel_rfl
theorem kf_name : kgetD kd_LONG_forms (.str "name") (.int 0) = some (.int 2) := by kernel_rfl
theorem kf_then : kgetD kd_LONG_forms (.str "then") (.int 0) = some (.int 3) := by kernel_rfl
theorem kf_out : kgetD kd_LONG_forms (.str "out") (.int 0) = some (.int 3) := by kernel_rfl
theorem kf_own : kgetD kd_LONG_forms (.str "own") (.int 0) = some (.int 3) := by kernel_rfl
theorem kf_beside : kgetD kd_LONG_forms (.str "beside") (.int 0) = some (.int 4) := by kernel_rfl
theorem kf_hide : kgetD kd_LONG_forms (.str "hide") (.int 0) = some (.int 3) := by kernel_rfl
theorem kf_as : kgetD kd_LONG_forms (.str "as") (.int 0) = some (.int 3) := by kernel_rfl
theorem ks_then : kgetD kd_LONG_surroundings (.str "then") (.int 0) = some (.int 2) := by kernel_rfl
theorem ks_out : kgetD kd_LONG_surroundings (.str "out") (.int 0) = some (.int 2) := by kernel_rfl
theorem ks_own : kgetD kd_LONG_surroundings (.str "own") (.int 0) = some (.int 2) := by kernel_rfl
theorem ks_beside : kgetD kd_LONG_surroundings (.str "beside") (.int 0) = some (.int 3) := by kernel_rfl
theorem ks_hide : kgetD kd_LONG_surroundings (.str "hide") (.int 0) = some (.int 2) := by kernel_rfl
theorem ks_as : kgetD kd_LONG_surroundings (.str "as") (.int 0) = some (.int 2) := by kernel_rfl
theorem form_run {fw fs fp : List D → CRes} (hw : ∀ d, kn1 d = true → fw [d] = .ok (.bl (isWD d)) [d]) (hs : ∀ S, okSet S = true → fs [setD' S] = .ok (.bl true) [setD' S]) (hp : ∀ P, okPairs P = true → fp [pairsD P] = .ok (.bl true) [pairsD P]) {h : Hd} (g : h.good = true) :
    runB 1 (B_is_form fw fs fp) [h.toD] = .ok (.bl true) [h.toD] := by
  have o := h.own
  cases h with
  | stop => simp [B_is_form, runB_ap, orun, env0, finL, obind_ok, obind_exc, oof_some, obool_bl, oslot_some, bnd_ap, pur_ap, varM_ap, keepM_ap, moveM_ap, plainM_ap, twoM_ap, oneM_ap, boolM_ap, andM_ap, orM_ap, notM_ap, andD_ap, orD_ap, notD_ap, iteM_ap, consM_ap, tupM_ap, lstM_ap, argM_ap, narM_ap, otake_some, ocres_ok, ocres_exc, callM_ap, exprM_ap, oput, asgM_ap, retM_ap, oseq_nx, oseq_rt, oseq_bk, oseq_ct, seqM_ap, raiseM_ap, seqI_ap, forS_ap, chainM_ap, partM_ap, sliceM_ap, asgtM_ap, takeA, backA, Env.put, Env.drop, own_non, own_bl, own_int, own_str, own_tup, own_lst, own_dct, own_exc, owns_nil, owns_cons, List.replicate, Bool.or_false, Bool.false_or, Bool.or_true, Bool.true_or, Hd.toD, isi_tup_t, eq_nil_f, ix0, isi_str_s, kf_stop, kf_spin, kf_name, kf_then, kf_out, kf_own, kf_beside, kf_hide, kf_as, ne_int, ne_str, len_tup, in2, n_stop_spin, n_stop_name, n_stop_then, n_stop_out, n_stop_own, n_stop_beside, n_stop_hide, n_stop_as, n_spin_stop, n_spin_name, n_spin_then, n_spin_out, n_spin_own, n_spin_beside, n_spin_hide, n_spin_as, n_name_stop, n_name_spin, n_name_then, n_name_out, n_name_own, n_name_beside, n_name_hide, n_name_as, n_then_stop, n_then_spin, n_then_name, n_then_out, n_then_own, n_then_beside, n_then_hide, n_then_as, n_out_stop, n_out_spin, n_out_name, n_out_then, n_out_own, n_out_beside, n_out_hide, n_out_as, n_own_stop, n_own_spin, n_own_name, n_own_then, n_own_out, n_own_beside, n_own_hide, n_own_as, n_beside_stop, n_beside_spin, n_beside_name, n_beside_then, n_beside_out, n_beside_own, n_beside_hide, n_beside_as, n_hide_stop, n_hide_spin, n_hide_name, n_hide_then, n_hide_out, n_hide_own, n_hide_beside, n_hide_as, n_as_stop, n_as_spin, n_as_name, n_as_then, n_as_out, n_as_own, n_as_beside, n_as_hide]
  | spin => simp [B_is_form, runB_ap, orun, env0, finL, obind_ok, obind_exc, oof_some, obool_bl, oslot_some, bnd_ap, pur_ap, varM_ap, keepM_ap, moveM_ap, plainM_ap, twoM_ap, oneM_ap, boolM_ap, andM_ap, orM_ap, notM_ap, andD_ap, orD_ap, notD_ap, iteM_ap, consM_ap, tupM_ap, lstM_ap, argM_ap, narM_ap, otake_some, ocres_ok, ocres_exc, callM_ap, exprM_ap, oput, asgM_ap, retM_ap, oseq_nx, oseq_rt, oseq_bk, oseq_ct, seqM_ap, raiseM_ap, seqI_ap, forS_ap, chainM_ap, partM_ap, sliceM_ap, asgtM_ap, takeA, backA, Env.put, Env.drop, own_non, own_bl, own_int, own_str, own_tup, own_lst, own_dct, own_exc, owns_nil, owns_cons, List.replicate, Bool.or_false, Bool.false_or, Bool.or_true, Bool.true_or, Hd.toD, isi_tup_t, eq_nil_f, ix0, isi_str_s, kf_stop, kf_spin, kf_name, kf_then, kf_out, kf_own, kf_beside, kf_hide, kf_as, ne_int, ne_str, len_tup, in2, n_stop_spin, n_stop_name, n_stop_then, n_stop_out, n_stop_own, n_stop_beside, n_stop_hide, n_stop_as, n_spin_stop, n_spin_name, n_spin_then, n_spin_out, n_spin_own, n_spin_beside, n_spin_hide, n_spin_as, n_name_stop, n_name_spin, n_name_then, n_name_out, n_name_own, n_name_beside, n_name_hide, n_name_as, n_then_stop, n_then_spin, n_then_name, n_then_out, n_then_own, n_then_beside, n_then_hide, n_then_as, n_out_stop, n_out_spin, n_out_name, n_out_then, n_out_own, n_out_beside, n_out_hide, n_out_as, n_own_stop, n_own_spin, n_own_name, n_own_then, n_own_out, n_own_beside, n_own_hide, n_own_as, n_beside_stop, n_beside_spin, n_beside_name, n_beside_then, n_beside_out, n_beside_own, n_beside_hide, n_beside_as, n_hide_stop, n_hide_spin, n_hide_name, n_hide_then, n_hide_out, n_hide_own, n_hide_beside, n_hide_as, n_as_stop, n_as_spin, n_as_name, n_as_then, n_as_out, n_as_own, n_as_beside, n_as_hide]
  | name x =>
    simp only [Hd.good] at g
    simp [B_is_form, runB_ap, orun, env0, finL, obind_ok, obind_exc, oof_some, obool_bl, oslot_some, bnd_ap, pur_ap, varM_ap, keepM_ap, moveM_ap, plainM_ap, twoM_ap, oneM_ap, boolM_ap, andM_ap, orM_ap, notM_ap, andD_ap, orD_ap, notD_ap, iteM_ap, consM_ap, tupM_ap, lstM_ap, argM_ap, narM_ap, otake_some, ocres_ok, ocres_exc, callM_ap, exprM_ap, oput, asgM_ap, retM_ap, oseq_nx, oseq_rt, oseq_bk, oseq_ct, seqM_ap, raiseM_ap, seqI_ap, forS_ap, chainM_ap, partM_ap, sliceM_ap, asgtM_ap, takeA, backA, Env.put, Env.drop, own_non, own_bl, own_int, own_str, own_tup, own_lst, own_dct, own_exc, owns_nil, owns_cons, List.replicate, Bool.or_false, Bool.false_or, Bool.or_true, Bool.true_or, Hd.toD, isi_tup_t, eq_nil_f, ix0, ix1, isi_str_s, kf_stop, kf_spin, kf_name, kf_then, kf_out, kf_own, kf_beside, kf_hide, kf_as, ne_int, ne_str, len_tup, in2, n_stop_spin, n_stop_name, n_stop_then, n_stop_out, n_stop_own, n_stop_beside, n_stop_hide, n_stop_as, n_spin_stop, n_spin_name, n_spin_then, n_spin_out, n_spin_own, n_spin_beside, n_spin_hide, n_spin_as, n_name_stop, n_name_spin, n_name_then, n_name_out, n_name_own, n_name_beside, n_name_hide, n_name_as, n_then_stop, n_then_spin, n_then_name, n_then_out, n_then_own, n_then_beside, n_then_hide, n_then_as, n_out_stop, n_out_spin, n_out_name, n_out_then, n_out_own, n_out_beside, n_out_hide, n_out_as, n_own_stop, n_own_spin, n_own_name, n_own_then, n_own_out, n_own_beside, n_own_hide, n_own_as, n_beside_stop, n_beside_spin, n_beside_name, n_beside_then, n_beside_out, n_beside_own, n_beside_hide, n_beside_as, n_hide_stop, n_hide_spin, n_hide_name, n_hide_then, n_hide_out, n_hide_own, n_hide_beside, n_hide_as, n_as_stop, n_as_spin, n_as_name, n_as_then, n_as_out, n_as_own, n_as_beside, n_as_hide, hw _ (kn1_w g), isWD, g]
  | thn d h =>
    simp only [Hd.good, Bool.and_eq_true] at g
    simp [B_is_form, runB_ap, orun, env0, finL, obind_ok, obind_exc, oof_some, obool_bl, oslot_some, bnd_ap, pur_ap, varM_ap, keepM_ap, moveM_ap, plainM_ap, twoM_ap, oneM_ap, boolM_ap, andM_ap, orM_ap, notM_ap, andD_ap, orD_ap, notD_ap, iteM_ap, consM_ap, tupM_ap, lstM_ap, argM_ap, narM_ap, otake_some, ocres_ok, ocres_exc, callM_ap, exprM_ap, oput, asgM_ap, retM_ap, oseq_nx, oseq_rt, oseq_bk, oseq_ct, seqM_ap, raiseM_ap, seqI_ap, forS_ap, chainM_ap, partM_ap, sliceM_ap, asgtM_ap, takeA, backA, Env.put, Env.drop, own_non, own_bl, own_int, own_str, own_tup, own_lst, own_dct, own_exc, owns_nil, owns_cons, List.replicate, Bool.or_false, Bool.false_or, Bool.or_true, Bool.true_or, Hd.toD, isi_tup_t, eq_nil_f, ix0, ix1, isi_str_s, kf_stop, kf_spin, kf_name, kf_then, kf_out, kf_own, kf_beside, kf_hide, kf_as, ne_int, ne_str, len_tup, in2, n_stop_spin, n_stop_name, n_stop_then, n_stop_out, n_stop_own, n_stop_beside, n_stop_hide, n_stop_as, n_spin_stop, n_spin_name, n_spin_then, n_spin_out, n_spin_own, n_spin_beside, n_spin_hide, n_spin_as, n_name_stop, n_name_spin, n_name_then, n_name_out, n_name_own, n_name_beside, n_name_hide, n_name_as, n_then_stop, n_then_spin, n_then_name, n_then_out, n_then_own, n_then_beside, n_then_hide, n_then_as, n_out_stop, n_out_spin, n_out_name, n_out_then, n_out_own, n_out_beside, n_out_hide, n_out_as, n_own_stop, n_own_spin, n_own_name, n_own_then, n_own_out, n_own_beside, n_own_hide, n_own_as, n_beside_stop, n_beside_spin, n_beside_name, n_beside_then, n_beside_out, n_beside_own, n_beside_hide, n_beside_as, n_hide_stop, n_hide_spin, n_hide_name, n_hide_then, n_hide_out, n_hide_own, n_hide_beside, n_hide_as, n_as_stop, n_as_spin, n_as_name, n_as_then, n_as_out, n_as_own, n_as_beside, n_as_hide, hw _ (kn1_w g.1), isWD, g, h.own]
  | two o' a b =>
    cases o' <;> simp [B_is_form, runB_ap, orun, env0, finL, obind_ok, obind_exc, oof_some, obool_bl, oslot_some, bnd_ap, pur_ap, varM_ap, keepM_ap, moveM_ap, plainM_ap, twoM_ap, oneM_ap, boolM_ap, andM_ap, orM_ap, notM_ap, andD_ap, orD_ap, notD_ap, iteM_ap, consM_ap, tupM_ap, lstM_ap, argM_ap, narM_ap, otake_some, ocres_ok, ocres_exc, callM_ap, exprM_ap, oput, asgM_ap, retM_ap, oseq_nx, oseq_rt, oseq_bk, oseq_ct, seqM_ap, raiseM_ap, seqI_ap, forS_ap, chainM_ap, partM_ap, sliceM_ap, asgtM_ap, takeA, backA, Env.put, Env.drop, own_non, own_bl, own_int, own_str, own_tup, own_lst, own_dct, own_exc, owns_nil, owns_cons, List.replicate, Bool.or_false, Bool.false_or, Bool.or_true, Bool.true_or, Hd.toD, isi_tup_t, eq_nil_f, ix0, ix1, isi_str_s, kf_stop, kf_spin, kf_name, kf_then, kf_out, kf_own, kf_beside, kf_hide, kf_as, ne_int, ne_str, len_tup, in2, n_stop_spin, n_stop_name, n_stop_then, n_stop_out, n_stop_own, n_stop_beside, n_stop_hide, n_stop_as, n_spin_stop, n_spin_name, n_spin_then, n_spin_out, n_spin_own, n_spin_beside, n_spin_hide, n_spin_as, n_name_stop, n_name_spin, n_name_then, n_name_out, n_name_own, n_name_beside, n_name_hide, n_name_as, n_then_stop, n_then_spin, n_then_name, n_then_out, n_then_own, n_then_beside, n_then_hide, n_then_as, n_out_stop, n_out_spin, n_out_name, n_out_then, n_out_own, n_out_beside, n_out_hide, n_out_as, n_own_stop, n_own_spin, n_own_name, n_own_then, n_own_out, n_own_beside, n_own_hide, n_own_as, n_beside_stop, n_beside_spin, n_beside_name, n_beside_then, n_beside_out, n_beside_own, n_beside_hide, n_beside_as, n_hide_stop, n_hide_spin, n_hide_name, n_hide_then, n_hide_out, n_hide_own, n_hide_beside, n_hide_as, n_as_stop, n_as_spin, n_as_name, n_as_then, n_as_out, n_as_own, n_as_beside, n_as_hide, a.own, b.own]
  | bes a S b =>
    simp only [Hd.good, Bool.and_eq_true] at g
    simp [B_is_form, runB_ap, orun, env0, finL, obind_ok, obind_exc, oof_some, obool_bl, oslot_some, bnd_ap, pur_ap, varM_ap, keepM_ap, moveM_ap, plainM_ap, twoM_ap, oneM_ap, boolM_ap, andM_ap, orM_ap, notM_ap, andD_ap, orD_ap, notD_ap, iteM_ap, consM_ap, tupM_ap, lstM_ap, argM_ap, narM_ap, otake_some, ocres_ok, ocres_exc, callM_ap, exprM_ap, oput, asgM_ap, retM_ap, oseq_nx, oseq_rt, oseq_bk, oseq_ct, seqM_ap, raiseM_ap, seqI_ap, forS_ap, chainM_ap, partM_ap, sliceM_ap, asgtM_ap, takeA, backA, Env.put, Env.drop, own_non, own_bl, own_int, own_str, own_tup, own_lst, own_dct, own_exc, owns_nil, owns_cons, List.replicate, Bool.or_false, Bool.false_or, Bool.or_true, Bool.true_or, Hd.toD, isi_tup_t, eq_nil_f, ix0, ix1, ix2, isi_str_s, kf_stop, kf_spin, kf_name, kf_then, kf_out, kf_own, kf_beside, kf_hide, kf_as, ne_int, ne_str, len_tup, in2, n_stop_spin, n_stop_name, n_stop_then, n_stop_out, n_stop_own, n_stop_beside, n_stop_hide, n_stop_as, n_spin_stop, n_spin_name, n_spin_then, n_spin_out, n_spin_own, n_spin_beside, n_spin_hide, n_spin_as, n_name_stop, n_name_spin, n_name_then, n_name_out, n_name_own, n_name_beside, n_name_hide, n_name_as, n_then_stop, n_then_spin, n_then_name, n_then_out, n_then_own, n_then_beside, n_then_hide, n_then_as, n_out_stop, n_out_spin, n_out_name, n_out_then, n_out_own, n_out_beside, n_out_hide, n_out_as, n_own_stop, n_own_spin, n_own_name, n_own_then, n_own_out, n_own_beside, n_own_hide, n_own_as, n_beside_stop, n_beside_spin, n_beside_name, n_beside_then, n_beside_out, n_beside_own, n_beside_hide, n_beside_as, n_hide_stop, n_hide_spin, n_hide_name, n_hide_then, n_hide_out, n_hide_own, n_hide_beside, n_hide_as, n_as_stop, n_as_spin, n_as_name, n_as_then, n_as_out, n_as_own, n_as_beside, n_as_hide, a.own, b.own, setD'_own, hs _ g.1.1]
  | hid a S =>
    simp only [Hd.good, Bool.and_eq_true] at g
    simp [B_is_form, runB_ap, orun, env0, finL, obind_ok, obind_exc, oof_some, obool_bl, oslot_some, bnd_ap, pur_ap, varM_ap, keepM_ap, moveM_ap, plainM_ap, twoM_ap, oneM_ap, boolM_ap, andM_ap, orM_ap, notM_ap, andD_ap, orD_ap, notD_ap, iteM_ap, consM_ap, tupM_ap, lstM_ap, argM_ap, narM_ap, otake_some, ocres_ok, ocres_exc, callM_ap, exprM_ap, oput, asgM_ap, retM_ap, oseq_nx, oseq_rt, oseq_bk, oseq_ct, seqM_ap, raiseM_ap, seqI_ap, forS_ap, chainM_ap, partM_ap, sliceM_ap, asgtM_ap, takeA, backA, Env.put, Env.drop, own_non, own_bl, own_int, own_str, own_tup, own_lst, own_dct, own_exc, owns_nil, owns_cons, List.replicate, Bool.or_false, Bool.false_or, Bool.or_true, Bool.true_or, Hd.toD, isi_tup_t, eq_nil_f, ix0, ix1, ix2, isi_str_s, kf_stop, kf_spin, kf_name, kf_then, kf_out, kf_own, kf_beside, kf_hide, kf_as, ne_int, ne_str, len_tup, in2, n_stop_spin, n_stop_name, n_stop_then, n_stop_out, n_stop_own, n_stop_beside, n_stop_hide, n_stop_as, n_spin_stop, n_spin_name, n_spin_then, n_spin_out, n_spin_own, n_spin_beside, n_spin_hide, n_spin_as, n_name_stop, n_name_spin, n_name_then, n_name_out, n_name_own, n_name_beside, n_name_hide, n_name_as, n_then_stop, n_then_spin, n_then_name, n_then_out, n_then_own, n_then_beside, n_then_hide, n_then_as, n_out_stop, n_out_spin, n_out_name, n_out_then, n_out_own, n_out_beside, n_out_hide, n_out_as, n_own_stop, n_own_spin, n_own_name, n_own_then, n_own_out, n_own_beside, n_own_hide, n_own_as, n_beside_stop, n_beside_spin, n_beside_name, n_beside_then, n_beside_out, n_beside_own, n_beside_hide, n_beside_as, n_hide_stop, n_hide_spin, n_hide_name, n_hide_then, n_hide_out, n_hide_own, n_hide_beside, n_hide_as, n_as_stop, n_as_spin, n_as_name, n_as_then, n_as_out, n_as_own, n_as_beside, n_as_hide, a.own, setD'_own, hs _ g.1]
  | als a P =>
    simp only [Hd.good, Bool.and_eq_true] at g
    simp [B_is_form, runB_ap, orun, env0, finL, obind_ok, obind_exc, oof_some, obool_bl, oslot_some, bnd_ap, pur_ap, varM_ap, keepM_ap, moveM_ap, plainM_ap, twoM_ap, oneM_ap, boolM_ap, andM_ap, orM_ap, notM_ap, andD_ap, orD_ap, notD_ap, iteM_ap, consM_ap, tupM_ap, lstM_ap, argM_ap, narM_ap, otake_some, ocres_ok, ocres_exc, callM_ap, exprM_ap, oput, asgM_ap, retM_ap, oseq_nx, oseq_rt, oseq_bk, oseq_ct, seqM_ap, raiseM_ap, seqI_ap, forS_ap, chainM_ap, partM_ap, sliceM_ap, asgtM_ap, takeA, backA, Env.put, Env.drop, own_non, own_bl, own_int, own_str, own_tup, own_lst, own_dct, own_exc, owns_nil, owns_cons, List.replicate, Bool.or_false, Bool.false_or, Bool.or_true, Bool.true_or, Hd.toD, isi_tup_t, eq_nil_f, ix0, ix1, ix2, isi_str_s, kf_stop, kf_spin, kf_name, kf_then, kf_out, kf_own, kf_beside, kf_hide, kf_as, ne_int, ne_str, len_tup, in2, n_stop_spin, n_stop_name, n_stop_then, n_stop_out, n_stop_own, n_stop_beside, n_stop_hide, n_stop_as, n_spin_stop, n_spin_name, n_spin_then, n_spin_out, n_spin_own, n_spin_beside, n_spin_hide, n_spin_as, n_name_stop, n_name_spin, n_name_then, n_name_out, n_name_own, n_name_beside, n_name_hide, n_name_as, n_then_stop, n_then_spin, n_then_name, n_then_out, n_then_own, n_then_beside, n_then_hide, n_then_as, n_out_stop, n_out_spin, n_out_name, n_out_then, n_out_own, n_out_beside, n_out_hide, n_out_as, n_own_stop, n_own_spin, n_own_name, n_own_then, n_own_out, n_own_beside, n_own_hide, n_own_as, n_beside_stop, n_beside_spin, n_beside_name, n_beside_then, n_beside_out, n_beside_own, n_beside_hide, n_beside_as, n_hide_stop, n_hide_spin, n_hide_name, n_hide_then, n_hide_out, n_hide_own, n_hide_beside, n_hide_as, n_as_stop, n_as_spin, n_as_name, n_as_then, n_as_out, n_as_own, n_as_beside, n_as_hide, a.own, pairsD_own, hp _ g.1]
theorem beneath_run {h : Hd} : runB 1 B_beneath [h.toD] = .ok (.lst true (h.subs.map Hd.toD)) [h.toD] := by
  cases h with
  | two o' a b => cases o' <;> simp [B_beneath, runB_ap, orun, env0, finL, obind_ok, obind_exc, oof_some, obool_bl, oslot_some, bnd_ap, pur_ap, varM_ap, keepM_ap, moveM_ap, plainM_ap, twoM_ap, oneM_ap, boolM_ap, andM_ap, orM_ap, notM_ap, andD_ap, orD_ap, notD_ap, iteM_ap, consM_ap, tupM_ap, lstM_ap, argM_ap, narM_ap, otake_some, ocres_ok, ocres_exc, callM_ap, exprM_ap, oput, asgM_ap, retM_ap, oseq_nx, oseq_rt, oseq_bk, oseq_ct, seqM_ap, raiseM_ap, seqI_ap, forS_ap, chainM_ap, partM_ap, sliceM_ap, asgtM_ap, takeA, backA, Env.put, Env.drop, own_non, own_bl, own_int, own_str, own_tup, own_lst, own_dct, own_exc, owns_nil, owns_cons, List.replicate, Bool.or_false, Bool.false_or, Bool.or_true, Bool.true_or, Hd.toD, Hd.subs, eq_str, ix0, ix1, ix2, in2, n_stop_spin, n_stop_name, n_stop_then, n_stop_out, n_stop_own, n_stop_beside, n_stop_hide, n_stop_as, n_spin_stop, n_spin_name, n_spin_then, n_spin_out, n_spin_own, n_spin_beside, n_spin_hide, n_spin_as, n_name_stop, n_name_spin, n_name_then, n_name_out, n_name_own, n_name_beside, n_name_hide, n_name_as, n_then_stop, n_then_spin, n_then_name, n_then_out, n_then_own, n_then_beside, n_then_hide, n_then_as, n_out_stop, n_out_spin, n_out_name, n_out_then, n_out_own, n_out_beside, n_out_hide, n_out_as, n_own_stop, n_own_spin, n_own_name, n_own_then, n_own_out, n_own_beside, n_own_hide, n_own_as, n_beside_stop, n_beside_spin, n_beside_name, n_beside_then, n_beside_out, n_beside_own, n_beside_hide, n_beside_as, n_hide_stop, n_hide_spin, n_hide_name, n_hide_then, n_hide_out, n_hide_own, n_hide_beside, n_hide_as, n_as_stop, n_as_spin, n_as_name, n_as_then, n_as_out, n_as_own, n_as_beside, n_as_hide, a.own, b.own]
  | bes a S b => simp [B_beneath, runB_ap, orun, env0, finL, obind_ok, obind_exc, oof_some, obool_bl, oslot_some, bnd_ap, pur_ap, varM_ap, keepM_ap, moveM_ap, plainM_ap, twoM_ap, oneM_ap, boolM_ap, andM_ap, orM_ap, notM_ap, andD_ap, orD_ap, notD_ap, iteM_ap, consM_ap, tupM_ap, lstM_ap, argM_ap, narM_ap, otake_some, ocres_ok, ocres_exc, callM_ap, exprM_ap, oput, asgM_ap, retM_ap, oseq_nx, oseq_rt, oseq_bk, oseq_ct, seqM_ap, raiseM_ap, seqI_ap, forS_ap, chainM_ap, partM_ap, sliceM_ap, asgtM_ap, takeA, backA, Env.put, Env.drop, own_non, own_bl, own_int, own_str, own_tup, own_lst, own_dct, own_exc, owns_nil, owns_cons, List.replicate, Bool.or_false, Bool.false_or, Bool.or_true, Bool.true_or, Hd.toD, Hd.subs, eq_str, ix0, ix1, ix2, ix3, in2, n_stop_spin, n_stop_name, n_stop_then, n_stop_out, n_stop_own, n_stop_beside, n_stop_hide, n_stop_as, n_spin_stop, n_spin_name, n_spin_then, n_spin_out, n_spin_own, n_spin_beside, n_spin_hide, n_spin_as, n_name_stop, n_name_spin, n_name_then, n_name_out, n_name_own, n_name_beside, n_name_hide, n_name_as, n_then_stop, n_then_spin, n_then_name, n_then_out, n_then_own, n_then_beside, n_then_hide, n_then_as, n_out_stop, n_out_spin, n_out_name, n_out_then, n_out_own, n_out_beside, n_out_hide, n_out_as, n_own_stop, n_own_spin, n_own_name, n_own_then, n_own_out, n_own_beside, n_own_hide, n_own_as, n_beside_stop, n_beside_spin, n_beside_name, n_beside_then, n_beside_out, n_beside_own, n_beside_hide, n_beside_as, n_hide_stop, n_hide_spin, n_hide_name, n_hide_then, n_hide_out, n_hide_own, n_hide_beside, n_hide_as, n_as_stop, n_as_spin, n_as_name, n_as_then, n_as_out, n_as_own, n_as_beside, n_as_hide, a.own, b.own, setD'_own]
  | thn d h => simp [B_beneath, runB_ap, orun, env0, finL, obind_ok, obind_exc, oof_some, obool_bl, oslot_some, bnd_ap, pur_ap, varM_ap, keepM_ap, moveM_ap, plainM_ap, twoM_ap, oneM_ap, boolM_ap, andM_ap, orM_ap, notM_ap, andD_ap, orD_ap, notD_ap, iteM_ap, consM_ap, tupM_ap, lstM_ap, argM_ap, narM_ap, otake_some, ocres_ok, ocres_exc, callM_ap, exprM_ap, oput, asgM_ap, retM_ap, oseq_nx, oseq_rt, oseq_bk, oseq_ct, seqM_ap, raiseM_ap, seqI_ap, forS_ap, chainM_ap, partM_ap, sliceM_ap, asgtM_ap, takeA, backA, Env.put, Env.drop, own_non, own_bl, own_int, own_str, own_tup, own_lst, own_dct, own_exc, owns_nil, owns_cons, List.replicate, Bool.or_false, Bool.false_or, Bool.or_true, Bool.true_or, Hd.toD, Hd.subs, eq_str, ix0, ix1, ix2, ix3, in2, n_stop_spin, n_stop_name, n_stop_then, n_stop_out, n_stop_own, n_stop_beside, n_stop_hide, n_stop_as, n_spin_stop, n_spin_name, n_spin_then, n_spin_out, n_spin_own, n_spin_beside, n_spin_hide, n_spin_as, n_name_stop, n_name_spin, n_name_then, n_name_out, n_name_own, n_name_beside, n_name_hide, n_name_as, n_then_stop, n_then_spin, n_then_name, n_then_out, n_then_own, n_then_beside, n_then_hide, n_then_as, n_out_stop, n_out_spin, n_out_name, n_out_then, n_out_own, n_out_beside, n_out_hide, n_out_as, n_own_stop, n_own_spin, n_own_name, n_own_then, n_own_out, n_own_beside, n_own_hide, n_own_as, n_beside_stop, n_beside_spin, n_beside_name, n_beside_then, n_beside_out, n_beside_own, n_beside_hide, n_beside_as, n_hide_stop, n_hide_spin, n_hide_name, n_hide_then, n_hide_out, n_hide_own, n_hide_beside, n_hide_as, n_as_stop, n_as_spin, n_as_name, n_as_then, n_as_out, n_as_own, n_as_beside, n_as_hide, h.own]
  | hid a S => simp [B_beneath, runB_ap, orun, env0, finL, obind_ok, obind_exc, oof_some, obool_bl, oslot_some, bnd_ap, pur_ap, varM_ap, keepM_ap, moveM_ap, plainM_ap, twoM_ap, oneM_ap, boolM_ap, andM_ap, orM_ap, notM_ap, andD_ap, orD_ap, notD_ap, iteM_ap, consM_ap, tupM_ap, lstM_ap, argM_ap, narM_ap, otake_some, ocres_ok, ocres_exc, callM_ap, exprM_ap, oput, asgM_ap, retM_ap, oseq_nx, oseq_rt, oseq_bk, oseq_ct, seqM_ap, raiseM_ap, seqI_ap, forS_ap, chainM_ap, partM_ap, sliceM_ap, asgtM_ap, takeA, backA, Env.put, Env.drop, own_non, own_bl, own_int, own_str, own_tup, own_lst, own_dct, own_exc, owns_nil, owns_cons, List.replicate, Bool.or_false, Bool.false_or, Bool.or_true, Bool.true_or, Hd.toD, Hd.subs, eq_str, ix0, ix1, ix2, ix3, in2, n_stop_spin, n_stop_name, n_stop_then, n_stop_out, n_stop_own, n_stop_beside, n_stop_hide, n_stop_as, n_spin_stop, n_spin_name, n_spin_then, n_spin_out, n_spin_own, n_spin_beside, n_spin_hide, n_spin_as, n_name_stop, n_name_spin, n_name_then, n_name_out, n_name_own, n_name_beside, n_name_hide, n_name_as, n_then_stop, n_then_spin, n_then_name, n_then_out, n_then_own, n_then_beside, n_then_hide, n_then_as, n_out_stop, n_out_spin, n_out_name, n_out_then, n_out_own, n_out_beside, n_out_hide, n_out_as, n_own_stop, n_own_spin, n_own_name, n_own_then, n_own_out, n_own_beside, n_own_hide, n_own_as, n_beside_stop, n_beside_spin, n_beside_name, n_beside_then, n_beside_out, n_beside_own, n_beside_hide, n_beside_as, n_hide_stop, n_hide_spin, n_hide_name, n_hide_then, n_hide_out, n_hide_own, n_hide_beside, n_hide_as, n_as_stop, n_as_spin, n_as_name, n_as_then, n_as_out, n_as_own, n_as_beside, n_as_hide, a.own, setD'_own]
  | als a S => simp [B_beneath, runB_ap, orun, env0, finL, obind_ok, obind_exc, oof_some, obool_bl, oslot_some, bnd_ap, pur_ap, varM_ap, keepM_ap, moveM_ap, plainM_ap, twoM_ap, oneM_ap, boolM_ap, andM_ap, orM_ap, notM_ap, andD_ap, orD_ap, notD_ap, iteM_ap, consM_ap, tupM_ap, lstM_ap, argM_ap, narM_ap, otake_some, ocres_ok, ocres_exc, callM_ap, exprM_ap, oput, asgM_ap, retM_ap, oseq_nx, oseq_rt, oseq_bk, oseq_ct, seqM_ap, raiseM_ap, seqI_ap, forS_ap, chainM_ap, partM_ap, sliceM_ap, asgtM_ap, takeA, backA, Env.put, Env.drop, own_non, own_bl, own_int, own_str, own_tup, own_lst, own_dct, own_exc, owns_nil, owns_cons, List.replicate, Bool.or_false, Bool.false_or, Bool.or_true, Bool.true_or, Hd.toD, Hd.subs, eq_str, ix0, ix1, ix2, ix3, in2, n_stop_spin, n_stop_name, n_stop_then, n_stop_out, n_stop_own, n_stop_beside, n_stop_hide, n_stop_as, n_spin_stop, n_spin_name, n_spin_then, n_spin_out, n_spin_own, n_spin_beside, n_spin_hide, n_spin_as, n_name_stop, n_name_spin, n_name_then, n_name_out, n_name_own, n_name_beside, n_name_hide, n_name_as, n_then_stop, n_then_spin, n_then_name, n_then_out, n_then_own, n_then_beside, n_then_hide, n_then_as, n_out_stop, n_out_spin, n_out_name, n_out_then, n_out_own, n_out_beside, n_out_hide, n_out_as, n_own_stop, n_own_spin, n_own_name, n_own_then, n_own_out, n_own_beside, n_own_hide, n_own_as, n_beside_stop, n_beside_spin, n_beside_name, n_beside_then, n_beside_out, n_beside_own, n_beside_hide, n_beside_as, n_hide_stop, n_hide_spin, n_hide_name, n_hide_then, n_hide_out, n_hide_own, n_hide_beside, n_hide_as, n_as_stop, n_as_spin, n_as_name, n_as_then, n_as_out, n_as_own, n_as_beside, n_as_hide, a.own, pairsD_own]
  | _ => simp [B_beneath, runB_ap, orun, env0, finL, obind_ok, obind_exc, oof_some, obool_bl, oslot_some, bnd_ap, pur_ap, varM_ap, keepM_ap, moveM_ap, plainM_ap, twoM_ap, oneM_ap, boolM_ap, andM_ap, orM_ap, notM_ap, andD_ap, orD_ap, notD_ap, iteM_ap, consM_ap, tupM_ap, lstM_ap, argM_ap, narM_ap, otake_some, ocres_ok, ocres_exc, callM_ap, exprM_ap, oput, asgM_ap, retM_ap, oseq_nx, oseq_rt, oseq_bk, oseq_ct, seqM_ap, raiseM_ap, seqI_ap, forS_ap, chainM_ap, partM_ap, sliceM_ap, asgtM_ap, takeA, backA, Env.put, Env.drop, own_non, own_bl, own_int, own_str, own_tup, own_lst, own_dct, own_exc, owns_nil, owns_cons, List.replicate, Bool.or_false, Bool.false_or, Bool.or_true, Bool.true_or, Hd.toD, Hd.subs, eq_str, ix0, ix1, ix2, ix3, in2, n_stop_spin, n_stop_name, n_stop_then, n_stop_out, n_stop_own, n_stop_beside, n_stop_hide, n_stop_as, n_spin_stop, n_spin_name, n_spin_then, n_spin_out, n_spin_own, n_spin_beside, n_spin_hide, n_spin_as, n_name_stop, n_name_spin, n_name_then, n_name_out, n_name_own, n_name_beside, n_name_hide, n_name_as, n_then_stop, n_then_spin, n_then_name, n_then_out, n_then_own, n_then_beside, n_then_hide, n_then_as, n_out_stop, n_out_spin, n_out_name, n_out_then, n_out_own, n_out_beside, n_out_hide, n_out_as, n_own_stop, n_own_spin, n_own_name, n_own_then, n_own_out, n_own_beside, n_own_hide, n_own_as, n_beside_stop, n_beside_spin, n_beside_name, n_beside_then, n_beside_out, n_beside_own, n_beside_hide, n_beside_as, n_hide_stop, n_hide_spin, n_hide_name, n_hide_then, n_hide_out, n_hide_own, n_hide_beside, n_hide_as, n_as_stop, n_as_spin, n_as_name, n_as_then, n_as_out, n_as_own, n_as_beside, n_as_hide]
end PL
/-! Q4: is_hand; steps put round -/
namespace PL
open PySem PySem.Spec L2 VI
theorem root_ap {i : Nat} {e : VI.Env} {d : D} (h : e.s[i]? = some (some d)) : rootM i e = .ok [] e := by simp [rootM, h]
theorem pop_ap {i : Nat} {e : VI.Env} {W : List D} {y : D} (h : e.s[i]? = some (some (.lst true (W ++ [y])))) : mthM i "list" popG (rootM i) (pur []) e = .ok y (e.put i (.lst true W)) := by
  have e2' : (W ++ [y]).eraseIdx W.length = W := by simp [List.eraseIdx_append_of_length_le]
  simp [mthM, bnd_ap, root_ap h, obind_ok, atE, h, D.at, tyD, pur_ap, popG, updE, D.upd, e2']
theorem append_ap {i : Nat} {e e2 : VI.Env} {W : List D} {y : D} {fa : M (List D)} (h : e.s[i]? = some (some (.lst true W))) (ha : fa e = .ok [y] e2) (h2 : e2.s[i]? = some (some (.lst true W))) (hl : W.length < 16777216) :
    mthM i "list" appendG (rootM i) fa e = .ok .non (e2.put i (.lst true (W ++ [y]))) := by
  simp [mthM, bnd_ap, root_ap h, obind_ok, atE, h, D.at, tyD, ha, appendG, hl, updE, D.upd, h2]
theorem extend_ap {i : Nat} {e e2 : VI.Env} {W ys : List D} {fa : M (List D)} (h : e.s[i]? = some (some (.lst true W))) (ha : fa e = .ok [.lst true ys] e2) (h2 : e2.s[i]? = some (some (.lst true W))) (hl : W.length + ys.length ≤ 16777216) :
    mthM i "list" extendG (rootM i) fa e = .ok .non (e2.put i (.lst true (W ++ ys))) := by
  simp [mthM, bnd_ap, root_ap h, obind_ok, atE, h, D.at, tyD, ha, extendG, hl, updE, D.upd, h2]
theorem whileM_run {fc : M Bool} {fb : M Fl} (P : Nat → VI.Env → Prop) (R : Out Fl → Prop)
    (step : ∀ n e, P n e → (∃ e1, fc e = .ok false e1 ∧ R (.ok .nx e1)) ∨ ∃ e1, fc e = .ok true e1 ∧ ((∃ n' e2, n' < n ∧ fb e1 = .ok .nx e2 ∧ P n' e2) ∨ ∃ d e2, fb e1 = .ok (.rt d) e2 ∧ R (.ok (.rt d) e2))) :
    ∀ (k n : Nat) (e : VI.Env), P n e → n < k → R (whileM k fc fb e)
  | 0, n, e, _, h => absurd h (Nat.not_lt_zero _)
  | k + 1, n, e, hp, h => by
    unfold whileM
    rw [bnd_ap]
    rcases step n e hp with ⟨e1, h1, h2⟩ | ⟨e1, h1, ⟨n', e2, hn, h2, h3⟩ | ⟨d, e2, h2, h3⟩⟩
    · rw [h1]
      simpa [obind_ok, pur_ap] using h2
    · rw [h1]
      simp only [obind_ok, if_true]
      rw [bnd_ap, h2]
      exact whileM_run P R step k n' e2 h3 (by omega)
    · rw [h1]
      simp only [obind_ok, if_true]
      rw [bnd_ap, h2]
      exact h3
theorem augM_ap {i : Nat} {g : D → D → Option D} {fe : M D} {e : VI.Env} {d y z : D} (h : e.s[i]? = some (some d)) (ho : d.own = false) (hf : fe e = .ok y e) (hg : g d y = some z) (hp : e.p[i]? ≠ some true) : augM i g fe e = .ok .nx (e.put i z) := by
  have hl := lt_of_get h
  unfold augM
  rw [h]
  simp only [ho, Bool.false_eq_true, if_false]
  rw [bnd_ap, hf]
  simp only [obind_ok, hg, hp, if_false, hl, if_true]
/-! ### hands, counted -/
def itm (q : Hd × Nat) : D := .tup [q.1.toD, .int (q.2 : Int)]
theorem itm_own (q : Hd × Nat) : (itm q).own = false := by simp [itm, own_tup, owns_cons, q.1.own, own_int, owns_nil]
def tot : List (Hd × Nat) → Nat
  | [] => 0
  | q :: r => q.1.size + tot r
theorem tot_app (a b : List (Hd × Nat)) : tot (a ++ b) = tot a + tot b := by
  induction a with
  | nil => simp [tot]
  | cons x a ih => simp [tot, ih]; omega
def okk (W : List (Hd × Nat)) (m : Nat) : Prop := m + tot W ≤ 200 ∧ ∀ q ∈ W, q.2 + q.1.deep ≤ 41
theorem Hd.size_pos : ∀ h : Hd, 1 ≤ h.size := by intro h; cases h <;> simp [size]
theorem Hd.deep_pos : ∀ h : Hd, 1 ≤ h.deep := by intro h; cases h <;> simp [deep]
theorem tot_subs (h : Hd) (k : Nat) : tot (h.subs.map fun s => (s, k)) + 1 = h.size := by cases h <;> simp [Hd.subs, tot, Hd.size] <;> omega
theorem deep_subs (h : Hd) (k : Nat) : ((∀ q ∈ h.subs.map (fun s => (s, k + 1)), q.2 + q.1.deep ≤ 41) ∧ k ≤ 40) ↔ k + h.deep ≤ 41 := by
  cases h <;> simp [Hd.subs, Hd.deep] <;> (try have := Hd.deep_pos) <;> (try omega)
theorem good_subs {h s : Hd} (g : h.good = true) (m : s ∈ h.subs) : s.good = true := by
  cases h <;> simp [Hd.subs] at m <;> simp only [Hd.good, Bool.and_eq_true] at g
  · rw [m]; exact g.2
  · rcases m with rfl | rfl
    · exact g.1
    · exact g.2
  · rcases m with rfl | rfl
    · exact g.1.2
    · exact g.2
  · rw [m]; exact g.2
  · rw [m]; exact g.2
theorem ne_lst_nil : neD (.lst true []) (.lst true []) = some (.bl false) := by kernel_rfl
theorem ne_lst_cons (x : D) (xs : List D) : neD (.lst true (x :: xs)) (.lst true []) = some (.bl true) := by simp [neD, eqB]
theorem ne_lst_snoc (x : D) (xs : List D) : neD (.lst true (xs ++ [x])) (.lst true []) = some (.bl true) := by simp [neD, eqB]
def isH (h : Hd) : Bool := decide (h.size ≤ 200 ∧ h.deep ≤ 40)
theorem hand_run {ff fb : List D → CRes} (hf : ∀ h : Hd, h.good = true → ff [h.toD] = .ok (.bl true) [h.toD]) (hb : ∀ h : Hd, fb [h.toD] = .ok (.lst true (h.subs.map Hd.toD)) [h.toD]) {h : Hd} (g : h.good = true) (hs : h.size < 100000) :
    runB 6 (B_is_hand ff fb) [h.toD] = .ok (.bl (isH h)) [h.toD] := by
  have ho := h.own
  let I : Nat → VI.Env → Prop := fun n e => ∃ (W : List (Hd × Nat)) (m : Nat) (a b : Option D), e = ⟨[some h.toD, some (.lst true (W.map itm)), some (.int (m : Int)), a, b, none], [false]⟩ ∧ tot W = n ∧ (∀ q ∈ W, q.1.good = true) ∧ (okk W m ↔ isH h = true) ∧ m + tot W < 100000 ∧ m ≤ 200
  let R : Out Fl → Prop := fun o => (∃ e, o = .ok .nx e ∧ e.s[0]? = some (some h.toD) ∧ isH h = true) ∨ ∃ e, o = .ok (.rt (.bl false)) e ∧ e.s[0]? = some (some h.toD) ∧ isH h = false
  have key : R (whileM 100000 (boolM (twoM true (varM 1) (lstM (pur [])) neD)) (seqM (asgtM (mthM 1 "list" popG (rootM 1) (pur [])) (gtM 2 (gconsM (gnM 3) (gconsM (gnM 4) (gnilM)))))
    (seqM (augM 2 addI (pur (.int 1)))
    (seqM (iteM (VI.orM (boolM (twoM true (varM 2) (pur (.int 200)) gtD)) (VI.orM (boolM (twoM true (varM 4) (pur (.int 40)) gtD)) (VI.notM (boolM (callM ff (narM 3 (pur []))))))) (retM (pur (.bl false))) (pur .nx))
    (exprM (mthM 1 "list" extendG (rootM 1) (consM (compM [5] (seqI (callM fb (narM 3 (pur [])))) (gnM 5) (pur true) (tupM (consM (keepM 5) (consM (twoM true (varM 4) (pur (.int 1)) addD) (pur []))))) (pur [])))))))
    ⟨[some h.toD, some (.lst true [itm (h, 1)]), some (.int 0), none, none, none], [false]⟩) := by
    refine whileM_run I R (fun n e hI => ?_) 100000 h.size _ ⟨[(h, 1)], 0, none, none, rfl, by simp [tot], by simpa using g, ?_, by simp [tot]; exact hs, by omega⟩ hs
    · obtain ⟨W, m, a, b, rfl, hn, hg, hk, hlt, hm⟩ := hI
      rcases List.eq_nil_or_concat W with rfl | ⟨W0, q, rfl⟩
      · refine .inl ⟨⟨[some h.toD, some (.lst true []), some (.int (m : Int)), a, b, none], [false]⟩, by simp [runB_ap, orun, env0, finL, obind_ok, obind_exc, oof_some, obool_bl, oslot_some, bnd_ap, pur_ap, varM_ap, keepM_ap, moveM_ap, plainM_ap, twoM_ap, oneM_ap, boolM_ap, andM_ap, orM_ap, notM_ap, andD_ap, orD_ap, notD_ap, iteM_ap, consM_ap, tupM_ap, lstM_ap, argM_ap, narM_ap, otake_some, ocres_ok, ocres_exc, callM_ap, exprM_ap, oput, asgM_ap, retM_ap, oseq_nx, oseq_rt, oseq_bk, oseq_ct, seqM_ap, raiseM_ap, seqI_ap, forS_ap, chainM_ap, partM_ap, sliceM_ap, asgtM_ap, takeA, backA, Env.put, Env.drop, own_non, own_bl, own_int, own_str, own_tup, own_lst, own_dct, own_exc, owns_nil, owns_cons, List.replicate, Bool.or_false, Bool.false_or, Bool.or_true, Bool.true_or, ne_lst_nil], ?_⟩
        cases hv : isH h with
        | true => exact .inl ⟨_, rfl, rfl, hv⟩
        | false =>
          exfalso
          have : ¬ okk [] m := fun z => by rw [hk.mp z] at hv; cases hv
          exact this ⟨by simp [tot]; exact hm, by simp⟩
      · rw [List.concat_eq_append] at *
        have hl : (W0.map itm).length ≤ 100000 := by
          have : ∀ l : List (Hd × Nat), l.length ≤ tot l := fun l => by
            induction l with
            | nil => simp [tot]
            | cons x l ih => have := x.1.size_pos; simp [tot]; omega
          have := this W0
          rw [tot_app] at hlt
          simp
          omega
        have gq := hg q (by simp)
        have hsz : q.1.subs.length ≤ 2 := by cases q.1 <;> simp [Hd.subs]
        have ot := q.1.own
        have e0 : ∀ (a b : Option D), asgtM (mthM 1 "list" popG (rootM 1) (pur [])) (gtM 2 (gconsM (gnM 3) (gconsM (gnM 4) (gnilM)))) ⟨[some h.toD, some (.lst true ((W0 ++ [q]).map itm)), some (.int (m : Int)), a, b, none], [false]⟩ = .ok .nx ⟨[some h.toD, some (.lst true (W0.map itm)), some (.int (m : Int)), some q.1.toD, some (.int (q.2 : Int)), none], [false]⟩ := fun a b => by
          have hp := pop_ap (i := 1) (e := ⟨[some h.toD, some (.lst true ((W0 ++ [q]).map itm)), some (.int (m : Int)), a, b, none], [false]⟩) (W := W0.map itm) (y := itm q) (by simp)
          rw [asgtM_ap, hp]
          simp [obind_ok, itm_own, Env.put]
          simp [itm, gtM, gconsM, gnilM, gnM, bnd_ap, obind_ok, pur_ap, Env.put]
        have e1 := augM_ap (i := 2) (g := addI) (fe := pur (.int 1)) (e := ⟨[some h.toD, some (.lst true (W0.map itm)), some (.int (m : Int)), some q.1.toD, some (.int (q.2 : Int)), none], [false]⟩) (d := .int (m : Int)) (y := .int 1) (z := .int ((m + 1 : Nat) : Int)) rfl rfl rfl rfl (by simp)
        have e2 := hf q.1 gq
        refine .inr ⟨⟨[some h.toD, some (.lst true ((W0 ++ [q]).map itm)), some (.int (m : Int)), a, b, none], [false]⟩, by simp [runB_ap, orun, env0, finL, obind_ok, obind_exc, oof_some, obool_bl, oslot_some, bnd_ap, pur_ap, varM_ap, keepM_ap, moveM_ap, plainM_ap, twoM_ap, oneM_ap, boolM_ap, andM_ap, orM_ap, notM_ap, andD_ap, orD_ap, notD_ap, iteM_ap, consM_ap, tupM_ap, lstM_ap, argM_ap, narM_ap, otake_some, ocres_ok, ocres_exc, callM_ap, exprM_ap, oput, asgM_ap, retM_ap, oseq_nx, oseq_rt, oseq_bk, oseq_ct, seqM_ap, raiseM_ap, seqI_ap, forS_ap, chainM_ap, partM_ap, sliceM_ap, asgtM_ap, takeA, backA, Env.put, Env.drop, own_non, own_bl, own_int, own_str, own_tup, own_lst, own_dct, own_exc, owns_nil, owns_cons, List.replicate, Bool.or_false, Bool.false_or, Bool.or_true, Bool.true_or, ne_lst_snoc], ?_⟩
        have t0 : tot (W0 ++ [q]) = tot W0 + q.1.size := by rw [tot_app]; simp [tot]
        by_cases c1 : (200 : Int) < ((m + 1 : Nat) : Int)
        · refine .inr ⟨.bl false, ⟨[some h.toD, some (.lst true (W0.map itm)), some (.int ((m + 1 : Nat) : Int)), some q.1.toD, some (.int (q.2 : Int)), none], [false]⟩, ?_, .inr ⟨_, rfl, rfl, ?_⟩⟩
          · rw [seqM_ap, e0 a b, obind_ok, oseq_nx, seqM_ap, e1]
            have c1' : (200 : Int) < (m : Int) + 1 := by omega
            simp only [Env.put]
            simp [runB_ap, orun, env0, finL, obind_ok, obind_exc, oof_some, obool_bl, oslot_some, bnd_ap, pur_ap, varM_ap, keepM_ap, moveM_ap, plainM_ap, twoM_ap, oneM_ap, boolM_ap, andM_ap, orM_ap, notM_ap, andD_ap, orD_ap, notD_ap, iteM_ap, consM_ap, tupM_ap, lstM_ap, argM_ap, narM_ap, otake_some, ocres_ok, ocres_exc, callM_ap, exprM_ap, oput, asgM_ap, retM_ap, oseq_nx, oseq_rt, oseq_bk, oseq_ct, seqM_ap, raiseM_ap, seqI_ap, forS_ap, chainM_ap, partM_ap, sliceM_ap, asgtM_ap, takeA, backA, Env.put, Env.drop, own_non, own_bl, own_int, own_str, own_tup, own_lst, own_dct, own_exc, owns_nil, owns_cons, List.replicate, Bool.or_false, Bool.false_or, Bool.or_true, Bool.true_or, gtD, c1']
          · cases hv : isH h with
            | false => rfl
            | true =>
              exfalso
              have := (hk.mpr hv).1
              have := q.1.size_pos
              omega
        · by_cases c2 : (40 : Int) < (q.2 : Int)
          · refine .inr ⟨.bl false, ⟨[some h.toD, some (.lst true (W0.map itm)), some (.int ((m + 1 : Nat) : Int)), some q.1.toD, some (.int (q.2 : Int)), none], [false]⟩, ?_, .inr ⟨_, rfl, rfl, ?_⟩⟩
            · rw [seqM_ap, e0 a b, obind_ok, oseq_nx, seqM_ap, e1]
              have c1' : ¬ (200 : Int) < (m : Int) + 1 := by omega
              simp only [Env.put]
              simp [runB_ap, orun, env0, finL, obind_ok, obind_exc, oof_some, obool_bl, oslot_some, bnd_ap, pur_ap, varM_ap, keepM_ap, moveM_ap, plainM_ap, twoM_ap, oneM_ap, boolM_ap, andM_ap, orM_ap, notM_ap, andD_ap, orD_ap, notD_ap, iteM_ap, consM_ap, tupM_ap, lstM_ap, argM_ap, narM_ap, otake_some, ocres_ok, ocres_exc, callM_ap, exprM_ap, oput, asgM_ap, retM_ap, oseq_nx, oseq_rt, oseq_bk, oseq_ct, seqM_ap, raiseM_ap, seqI_ap, forS_ap, chainM_ap, partM_ap, sliceM_ap, asgtM_ap, takeA, backA, Env.put, Env.drop, own_non, own_bl, own_int, own_str, own_tup, own_lst, own_dct, own_exc, owns_nil, owns_cons, List.replicate, Bool.or_false, Bool.false_or, Bool.or_true, Bool.true_or, gtD, c1', c2]
            · cases hv : isH h with
              | false => rfl
              | true =>
                exfalso
                have := (hk.mpr hv).2 q (by simp)
                have := q.1.deep_pos
                omega
          · let W1 := W0 ++ q.1.subs.map fun s => (s, q.2 + 1)
            have t1 : tot W1 + 1 = tot W0 + q.1.size := by
              have := tot_subs q.1 (q.2 + 1)
              show tot (W0 ++ _) + 1 = _
              rw [tot_app]
              omega
            refine .inl ⟨tot W1, ⟨[some h.toD, some (.lst true (W1.map itm)), some (.int ((m + 1 : Nat) : Int)), some q.1.toD, some (.int (q.2 : Int)), none], [false]⟩, by omega, ?_, W1, m + 1, some q.1.toD, some (.int (q.2 : Int)), rfl, rfl, ?_, ?_, by omega, by omega⟩
            · rw [seqM_ap, e0 a b, obind_ok, oseq_nx, seqM_ap, e1]
              have hc := comp1 (v := 5) (fi := seqI (callM fb (narM 3 (pur [])))) (fe := tupM (consM (keepM 5) (consM (twoM true (varM 4) (pur (.int 1)) addD) (pur [])))) (env := ⟨[some h.toD, some (.lst true (W0.map itm)), some (.int ((m + 1 : Nat) : Int)), some q.1.toD, some (.int (q.2 : Int)), none], [false]⟩) (e := ⟨[some h.toD, some (.lst true (W0.map itm)), some (.int ((m + 1 : Nat) : Int)), some q.1.toD, some (.int (q.2 : Int)), none], [false]⟩) (ds := q.1.subs.map Hd.toD)
                (fun d => .tup [d, .int ((q.2 + 1 : Nat) : Int)]) (by simp [runB_ap, orun, env0, finL, obind_ok, obind_exc, oof_some, obool_bl, oslot_some, bnd_ap, pur_ap, varM_ap, keepM_ap, moveM_ap, plainM_ap, twoM_ap, oneM_ap, boolM_ap, andM_ap, orM_ap, notM_ap, andD_ap, orD_ap, notD_ap, iteM_ap, consM_ap, tupM_ap, lstM_ap, argM_ap, narM_ap, otake_some, ocres_ok, ocres_exc, callM_ap, exprM_ap, oput, asgM_ap, retM_ap, oseq_nx, oseq_rt, oseq_bk, oseq_ct, seqM_ap, raiseM_ap, seqI_ap, forS_ap, chainM_ap, partM_ap, sliceM_ap, asgtM_ap, takeA, backA, Env.put, Env.drop, own_non, own_bl, own_int, own_str, own_tup, own_lst, own_dct, own_exc, owns_nil, owns_cons, List.replicate, Bool.or_false, Bool.false_or, Bool.or_true, Bool.true_or, ot, hb, itemsD, owns_map Hd.toD Hd.own]) (.inl rfl) (by simp) (fun d hd => by
                  obtain ⟨s, hs, rfl⟩ := List.mem_map.mp hd
                  exact ⟨s.own, by simp [runB_ap, orun, env0, finL, obind_ok, obind_exc, oof_some, obool_bl, oslot_some, bnd_ap, pur_ap, varM_ap, keepM_ap, moveM_ap, plainM_ap, twoM_ap, oneM_ap, boolM_ap, andM_ap, orM_ap, notM_ap, andD_ap, orD_ap, notD_ap, iteM_ap, consM_ap, tupM_ap, lstM_ap, argM_ap, narM_ap, otake_some, ocres_ok, ocres_exc, callM_ap, exprM_ap, oput, asgM_ap, retM_ap, oseq_nx, oseq_rt, oseq_bk, oseq_ct, seqM_ap, raiseM_ap, seqI_ap, forS_ap, chainM_ap, partM_ap, sliceM_ap, asgtM_ap, takeA, backA, Env.put, Env.drop, own_non, own_bl, own_int, own_str, own_tup, own_lst, own_dct, own_exc, owns_nil, owns_cons, List.replicate, Bool.or_false, Bool.false_or, Bool.or_true, Bool.true_or, addD, s.own]⟩) (by simp; omega)
              rw [List.map_map] at hc
              have he := extend_ap (i := 1) (e := ⟨[some h.toD, some (.lst true (W0.map itm)), some (.int ((m + 1 : Nat) : Int)), some q.1.toD, some (.int (q.2 : Int)), none], [false]⟩) (e2 := ⟨[some h.toD, some (.lst true (W0.map itm)), some (.int ((m + 1 : Nat) : Int)), some q.1.toD, some (.int (q.2 : Int)), none], [false]⟩) (W := W0.map itm) (ys := q.1.subs.map ((fun d => D.tup [d, .int ((q.2 + 1 : Nat) : Int)]) ∘ Hd.toD)) (fa := consM (compM [5] (seqI (callM fb (narM 3 (pur [])))) (gnM 5) (pur true) (tupM (consM (keepM 5) (consM (twoM true (varM 4) (pur (.int 1)) addD) (pur []))))) (pur []))
                rfl (by rw [consM_ap, hc]; simp [obind_ok, pur_ap]) rfl (by simp at hl ⊢; omega)
              simp only [Env.put, List.set_cons_zero, List.set_cons_succ] at he ⊢
              rw [obind_ok, oseq_nx, seqM_ap]
              have hi : iteM (VI.orM (boolM (twoM true (varM 2) (pur (.int 200)) gtD)) (VI.orM (boolM (twoM true (varM 4) (pur (.int 40)) gtD)) (VI.notM (boolM (callM ff (narM 3 (pur []))))))) (retM (pur (.bl false))) (pur .nx) ⟨[some h.toD, some (.lst true (W0.map itm)), some (.int ((m + 1 : Nat) : Int)), some q.1.toD, some (.int (q.2 : Int)), none], [false]⟩ = .ok .nx ⟨[some h.toD, some (.lst true (W0.map itm)), some (.int ((m + 1 : Nat) : Int)), some q.1.toD, some (.int (q.2 : Int)), none], [false]⟩ := by
                have c1' : ¬ (200 : Int) < (m : Int) + 1 := by omega
                simp [runB_ap, orun, env0, finL, obind_ok, obind_exc, oof_some, obool_bl, oslot_some, bnd_ap, pur_ap, varM_ap, keepM_ap, moveM_ap, plainM_ap, twoM_ap, oneM_ap, boolM_ap, andM_ap, orM_ap, notM_ap, andD_ap, orD_ap, notD_ap, iteM_ap, consM_ap, tupM_ap, lstM_ap, argM_ap, narM_ap, otake_some, ocres_ok, ocres_exc, callM_ap, exprM_ap, oput, asgM_ap, retM_ap, oseq_nx, oseq_rt, oseq_bk, oseq_ct, seqM_ap, raiseM_ap, seqI_ap, forS_ap, chainM_ap, partM_ap, sliceM_ap, asgtM_ap, takeA, backA, Env.put, Env.drop, own_non, own_bl, own_int, own_str, own_tup, own_lst, own_dct, own_exc, owns_nil, owns_cons, List.replicate, Bool.or_false, Bool.false_or, Bool.or_true, Bool.true_or, gtD, c1', c2, ot, e2]
              rw [hi, obind_ok, oseq_nx, exprM_ap, he, obind_ok]
              congr 3
              simp [W1, List.map_append, List.map_map]
              exact fun s _ => rfl
            · intro x hx
              rcases List.mem_append.mp hx with hx | hx
              · exact hg x (by simp [hx])
              · obtain ⟨s, hs, rfl⟩ := List.mem_map.mp hx
                exact good_subs gq hs
            · rw [← hk]
              unfold okk
              rw [t0]
              have ds := deep_subs q.1 q.2
              constructor
              · intro ⟨x1, x2⟩
                refine ⟨by omega, fun x hx => ?_⟩
                rcases List.mem_append.mp hx with hx | hx
                · exact x2 x (List.mem_append_left _ hx)
                · simp at hx
                  subst hx
                  exact ds.mp ⟨fun y hy => x2 y (List.mem_append_right _ hy), by omega⟩
              · intro ⟨x1, x2⟩
                have hq := ds.mpr (x2 q (by simp))
                refine ⟨by omega, fun x hx => ?_⟩
                rcases List.mem_append.mp hx with hx | hx
                · exact x2 x (List.mem_append_left _ hx)
                · exact hq.1 x hx
    · simp [okk, tot, isH]
      omega
  have e00 : env0 6 [h.toD] = ⟨[some h.toD, none, none, none, none, none], [false]⟩ := by simp [env0, ho, List.replicate]
  have s1 : asgM 1 (lstM (consM (tupM (consM (keepM 0) (consM (pur (.int 1)) (pur [])))) (pur []))) ⟨[some h.toD, none, none, none, none, none], [false]⟩ = .ok .nx ⟨[some h.toD, some (.lst true [itm (h, 1)]), none, none, none, none], [false]⟩ := by
    simp [runB_ap, orun, env0, finL, obind_ok, obind_exc, oof_some, obool_bl, oslot_some, bnd_ap, pur_ap, varM_ap, keepM_ap, moveM_ap, plainM_ap, twoM_ap, oneM_ap, boolM_ap, andM_ap, orM_ap, notM_ap, andD_ap, orD_ap, notD_ap, iteM_ap, consM_ap, tupM_ap, lstM_ap, argM_ap, narM_ap, otake_some, ocres_ok, ocres_exc, callM_ap, exprM_ap, oput, asgM_ap, retM_ap, oseq_nx, oseq_rt, oseq_bk, oseq_ct, seqM_ap, raiseM_ap, seqI_ap, forS_ap, chainM_ap, partM_ap, sliceM_ap, asgtM_ap, takeA, backA, Env.put, Env.drop, own_non, own_bl, own_int, own_str, own_tup, own_lst, own_dct, own_exc, owns_nil, owns_cons, List.replicate, Bool.or_false, Bool.false_or, Bool.or_true, Bool.true_or, ho, itm]
  have s2 : asgM 2 (pur (.int 0)) ⟨[some h.toD, some (.lst true [itm (h, 1)]), none, none, none, none], [false]⟩ = .ok .nx ⟨[some h.toD, some (.lst true [itm (h, 1)]), some (.int 0), none, none, none], [false]⟩ := by
    simp [runB_ap, orun, env0, finL, obind_ok, obind_exc, oof_some, obool_bl, oslot_some, bnd_ap, pur_ap, varM_ap, keepM_ap, moveM_ap, plainM_ap, twoM_ap, oneM_ap, boolM_ap, andM_ap, orM_ap, notM_ap, andD_ap, orD_ap, notD_ap, iteM_ap, consM_ap, tupM_ap, lstM_ap, argM_ap, narM_ap, otake_some, ocres_ok, ocres_exc, callM_ap, exprM_ap, oput, asgM_ap, retM_ap, oseq_nx, oseq_rt, oseq_bk, oseq_ct, seqM_ap, raiseM_ap, seqI_ap, forS_ap, chainM_ap, partM_ap, sliceM_ap, asgtM_ap, takeA, backA, Env.put, Env.drop, own_non, own_bl, own_int, own_str, own_tup, own_lst, own_dct, own_exc, owns_nil, owns_cons, List.replicate, Bool.or_false, Bool.false_or, Bool.or_true, Bool.true_or]
  rw [runB_ap, e00]
  unfold B_is_hand
  rw [seqM_ap, s1, obind_ok, oseq_nx, seqM_ap, s2, obind_ok, oseq_nx, seqM_ap]
  rcases key with ⟨e, h1, h2, h3⟩ | ⟨e, h1, h2, h3⟩
  · rw [h1]
    cases hes : e.s with
    | nil => rw [hes] at h2; simp at h2
    | cons x r => simp [runB_ap, orun, env0, finL, obind_ok, obind_exc, oof_some, obool_bl, oslot_some, bnd_ap, pur_ap, varM_ap, keepM_ap, moveM_ap, plainM_ap, twoM_ap, oneM_ap, boolM_ap, andM_ap, orM_ap, notM_ap, andD_ap, orD_ap, notD_ap, iteM_ap, consM_ap, tupM_ap, lstM_ap, argM_ap, narM_ap, otake_some, ocres_ok, ocres_exc, callM_ap, exprM_ap, oput, asgM_ap, retM_ap, oseq_nx, oseq_rt, oseq_bk, oseq_ct, seqM_ap, raiseM_ap, seqI_ap, forS_ap, chainM_ap, partM_ap, sliceM_ap, asgtM_ap, takeA, backA, Env.put, Env.drop, own_non, own_bl, own_int, own_str, own_tup, own_lst, own_dct, own_exc, owns_nil, owns_cons, List.replicate, Bool.or_false, Bool.false_or, Bool.or_true, Bool.true_or, ho, h3, hes]
  · rw [h1]
    cases hes : e.s with
    | nil => rw [hes] at h2; simp at h2
    | cons x r => simp [runB_ap, orun, env0, finL, obind_ok, obind_exc, oof_some, obool_bl, oslot_some, bnd_ap, pur_ap, varM_ap, keepM_ap, moveM_ap, plainM_ap, twoM_ap, oneM_ap, boolM_ap, andM_ap, orM_ap, notM_ap, andD_ap, orD_ap, notD_ap, iteM_ap, consM_ap, tupM_ap, lstM_ap, argM_ap, narM_ap, otake_some, ocres_ok, ocres_exc, callM_ap, exprM_ap, oput, asgM_ap, retM_ap, oseq_nx, oseq_rt, oseq_bk, oseq_ct, seqM_ap, raiseM_ap, seqI_ap, forS_ap, chainM_ap, partM_ap, sliceM_ap, asgtM_ap, takeA, backA, Env.put, Env.drop, own_non, own_bl, own_int, own_str, own_tup, own_lst, own_dct, own_exc, owns_nil, owns_cons, List.replicate, Bool.or_false, Bool.false_or, Bool.or_true, Bool.true_or, ho, h3, hes]
end PL
/-! Q5: steps put round -/
namespace PL
open PySem PySem.Spec L2 VI
inductive St where
  | thn (d : Str) | two (o : Bool) (h : Hd) | bes (S : List Str) (h : Hd) | hid (S : List Str) | als (P : List (Str × Str))
def St.toD : St → D
  | .thn d => .tup [.str "then", .str d]
  | .two true h => .tup [.str "own", h.toD]
  | .two false h => .tup [.str "out", h.toD]
  | .bes S h => .tup [.str "beside", setD' S, h.toD]
  | .hid S => .tup [.str "hide", setD' S]
  | .als P => .tup [.str "as", pairsD P]
def St.good : St → Bool
  | .thn d => isW d
  | .two _ h => h.good && isH h
  | .bes S h => okSet S && (h.good && isH h)
  | .hid S => okSet S
  | .als P => okPairs P
def St.on (a : Hd) : St → Hd
  | .thn d => .thn d a
  | .two o h => .two o a h
  | .bes S h => .bes a S h
  | .hid S => .hid a S
  | .als P => .als a P
theorem St.own : ∀ s : St, s.toD.own = false
  | .thn _ => rfl
  | .two true h => by simp [toD, own_tup, owns_cons, h.own, own_str, owns_nil]
  | .two false h => by simp [toD, own_tup, owns_cons, h.own, own_str, owns_nil]
  | .bes S h => by simp [toD, own_tup, owns_cons, h.own, own_str, owns_nil, setD'_own]
  | .hid S => by simp [toD, own_tup, owns_cons, own_str, owns_nil, setD'_own]
  | .als P => by simp [toD, own_tup, owns_cons, own_str, owns_nil, pairsD_own]
theorem isH_small {h : Hd} (g : isH h = true) : h.size < 100000 := by
  simp [isH] at g
  omega
theorem step_run {fw fh fp fs : List D → CRes} (hw : ∀ d, kn1 d = true → fw [d] = .ok (.bl (isWD d)) [d]) (hh : ∀ h : Hd, h.good = true → h.size < 100000 → fh [h.toD] = .ok (.bl (isH h)) [h.toD]) (hs : ∀ S, okSet S = true → fs [setD' S] = .ok (.bl true) [setD' S]) (hp : ∀ P, okPairs P = true → fp [pairsD P] = .ok (.bl true) [pairsD P])
    {s : St} (g : s.good = true) : runB 1 (B_is_step fw fh fp fs) [s.toD] = .ok (.bl true) [s.toD] := by
  cases s with
  | thn d =>
    simp only [St.good] at g
    simp [B_is_step, runB_ap, orun, env0, finL, obind_ok, obind_exc, oof_some, obool_bl, oslot_some, bnd_ap, pur_ap, varM_ap, keepM_ap, moveM_ap, plainM_ap, twoM_ap, oneM_ap, boolM_ap, andM_ap, orM_ap, notM_ap, andD_ap, orD_ap, notD_ap, iteM_ap, consM_ap, tupM_ap, lstM_ap, argM_ap, narM_ap, otake_some, ocres_ok, ocres_exc, callM_ap, exprM_ap, oput, asgM_ap, retM_ap, oseq_nx, oseq_rt, oseq_bk, oseq_ct, seqM_ap, raiseM_ap, seqI_ap, forS_ap, chainM_ap, partM_ap, sliceM_ap, asgtM_ap, takeA, backA, Env.put, Env.drop, own_non, own_bl, own_int, own_str, own_tup, own_lst, own_dct, own_exc, owns_nil, owns_cons, List.replicate, Bool.or_false, Bool.false_or, Bool.or_true, Bool.true_or, St.toD, isi_tup_t, eq_nil_f, ix0, ix1, isi_str_s, ks_then, ks_out, ks_own, ks_beside, ks_hide, ks_as, ne_int, ne_str, eq_str, len_tup, in2, n_stop_spin, n_stop_name, n_stop_then, n_stop_out, n_stop_own, n_stop_beside, n_stop_hide, n_stop_as, n_spin_stop, n_spin_name, n_spin_then, n_spin_out, n_spin_own, n_spin_beside, n_spin_hide, n_spin_as, n_name_stop, n_name_spin, n_name_then, n_name_out, n_name_own, n_name_beside, n_name_hide, n_name_as, n_then_stop, n_then_spin, n_then_name, n_then_out, n_then_own, n_then_beside, n_then_hide, n_then_as, n_out_stop, n_out_spin, n_out_name, n_out_then, n_out_own, n_out_beside, n_out_hide, n_out_as, n_own_stop, n_own_spin, n_own_name, n_own_then, n_own_out, n_own_beside, n_own_hide, n_own_as, n_beside_stop, n_beside_spin, n_beside_name, n_beside_then, n_beside_out, n_beside_own, n_beside_hide, n_beside_as, n_hide_stop, n_hide_spin, n_hide_name, n_hide_then, n_hide_out, n_hide_own, n_hide_beside, n_hide_as, n_as_stop, n_as_spin, n_as_name, n_as_then, n_as_out, n_as_own, n_as_beside, n_as_hide, hw _ (kn1_w g), isWD, g]
  | two o h =>
    simp only [St.good, Bool.and_eq_true] at g
    cases o <;> simp [B_is_step, runB_ap, orun, env0, finL, obind_ok, obind_exc, oof_some, obool_bl, oslot_some, bnd_ap, pur_ap, varM_ap, keepM_ap, moveM_ap, plainM_ap, twoM_ap, oneM_ap, boolM_ap, andM_ap, orM_ap, notM_ap, andD_ap, orD_ap, notD_ap, iteM_ap, consM_ap, tupM_ap, lstM_ap, argM_ap, narM_ap, otake_some, ocres_ok, ocres_exc, callM_ap, exprM_ap, oput, asgM_ap, retM_ap, oseq_nx, oseq_rt, oseq_bk, oseq_ct, seqM_ap, raiseM_ap, seqI_ap, forS_ap, chainM_ap, partM_ap, sliceM_ap, asgtM_ap, takeA, backA, Env.put, Env.drop, own_non, own_bl, own_int, own_str, own_tup, own_lst, own_dct, own_exc, owns_nil, owns_cons, List.replicate, Bool.or_false, Bool.false_or, Bool.or_true, Bool.true_or, St.toD, isi_tup_t, eq_nil_f, ix0, ix1, isi_str_s, ks_then, ks_out, ks_own, ks_beside, ks_hide, ks_as, ne_int, ne_str, eq_str, len_tup, in2, n_stop_spin, n_stop_name, n_stop_then, n_stop_out, n_stop_own, n_stop_beside, n_stop_hide, n_stop_as, n_spin_stop, n_spin_name, n_spin_then, n_spin_out, n_spin_own, n_spin_beside, n_spin_hide, n_spin_as, n_name_stop, n_name_spin, n_name_then, n_name_out, n_name_own, n_name_beside, n_name_hide, n_name_as, n_then_stop, n_then_spin, n_then_name, n_then_out, n_then_own, n_then_beside, n_then_hide, n_then_as, n_out_stop, n_out_spin, n_out_name, n_out_then, n_out_own, n_out_beside, n_out_hide, n_out_as, n_own_stop, n_own_spin, n_own_name, n_own_then, n_own_out, n_own_beside, n_own_hide, n_own_as, n_beside_stop, n_beside_spin, n_beside_name, n_beside_then, n_beside_out, n_beside_own, n_beside_hide, n_beside_as, n_hide_stop, n_hide_spin, n_hide_name, n_hide_then, n_hide_out, n_hide_own, n_hide_beside, n_hide_as, n_as_stop, n_as_spin, n_as_name, n_as_then, n_as_out, n_as_own, n_as_beside, n_as_hide, hh _ g.1 (isH_small g.2), g.2, h.own]
  | bes S h =>
    simp only [St.good, Bool.and_eq_true] at g
    simp [B_is_step, runB_ap, orun, env0, finL, obind_ok, obind_exc, oof_some, obool_bl, oslot_some, bnd_ap, pur_ap, varM_ap, keepM_ap, moveM_ap, plainM_ap, twoM_ap, oneM_ap, boolM_ap, andM_ap, orM_ap, notM_ap, andD_ap, orD_ap, notD_ap, iteM_ap, consM_ap, tupM_ap, lstM_ap, argM_ap, narM_ap, otake_some, ocres_ok, ocres_exc, callM_ap, exprM_ap, oput, asgM_ap, retM_ap, oseq_nx, oseq_rt, oseq_bk, oseq_ct, seqM_ap, raiseM_ap, seqI_ap, forS_ap, chainM_ap, partM_ap, sliceM_ap, asgtM_ap, takeA, backA, Env.put, Env.drop, own_non, own_bl, own_int, own_str, own_tup, own_lst, own_dct, own_exc, owns_nil, owns_cons, List.replicate, Bool.or_false, Bool.false_or, Bool.or_true, Bool.true_or, St.toD, isi_tup_t, eq_nil_f, ix0, ix1, ix2, isi_str_s, ks_then, ks_out, ks_own, ks_beside, ks_hide, ks_as, ne_int, ne_str, eq_str, len_tup, in2, n_stop_spin, n_stop_name, n_stop_then, n_stop_out, n_stop_own, n_stop_beside, n_stop_hide, n_stop_as, n_spin_stop, n_spin_name, n_spin_then, n_spin_out, n_spin_own, n_spin_beside, n_spin_hide, n_spin_as, n_name_stop, n_name_spin, n_name_then, n_name_out, n_name_own, n_name_beside, n_name_hide, n_name_as, n_then_stop, n_then_spin, n_then_name, n_then_out, n_then_own, n_then_beside, n_then_hide, n_then_as, n_out_stop, n_out_spin, n_out_name, n_out_then, n_out_own, n_out_beside, n_out_hide, n_out_as, n_own_stop, n_own_spin, n_own_name, n_own_then, n_own_out, n_own_beside, n_own_hide, n_own_as, n_beside_stop, n_beside_spin, n_beside_name, n_beside_then, n_beside_out, n_beside_own, n_beside_hide, n_beside_as, n_hide_stop, n_hide_spin, n_hide_name, n_hide_then, n_hide_out, n_hide_own, n_hide_beside, n_hide_as, n_as_stop, n_as_spin, n_as_name, n_as_then, n_as_out, n_as_own, n_as_beside, n_as_hide, hh _ g.2.1 (isH_small g.2.2), g.2.2, h.own, hs _ g.1, setD'_own]
  | hid S =>
    simp only [St.good, Bool.and_eq_true] at g
    simp [B_is_step, runB_ap, orun, env0, finL, obind_ok, obind_exc, oof_some, obool_bl, oslot_some, bnd_ap, pur_ap, varM_ap, keepM_ap, moveM_ap, plainM_ap, twoM_ap, oneM_ap, boolM_ap, andM_ap, orM_ap, notM_ap, andD_ap, orD_ap, notD_ap, iteM_ap, consM_ap, tupM_ap, lstM_ap, argM_ap, narM_ap, otake_some, ocres_ok, ocres_exc, callM_ap, exprM_ap, oput, asgM_ap, retM_ap, oseq_nx, oseq_rt, oseq_bk, oseq_ct, seqM_ap, raiseM_ap, seqI_ap, forS_ap, chainM_ap, partM_ap, sliceM_ap, asgtM_ap, takeA, backA, Env.put, Env.drop, own_non, own_bl, own_int, own_str, own_tup, own_lst, own_dct, own_exc, owns_nil, owns_cons, List.replicate, Bool.or_false, Bool.false_or, Bool.or_true, Bool.true_or, St.toD, isi_tup_t, eq_nil_f, ix0, ix1, ix2, isi_str_s, ks_then, ks_out, ks_own, ks_beside, ks_hide, ks_as, ne_int, ne_str, eq_str, len_tup, in2, n_stop_spin, n_stop_name, n_stop_then, n_stop_out, n_stop_own, n_stop_beside, n_stop_hide, n_stop_as, n_spin_stop, n_spin_name, n_spin_then, n_spin_out, n_spin_own, n_spin_beside, n_spin_hide, n_spin_as, n_name_stop, n_name_spin, n_name_then, n_name_out, n_name_own, n_name_beside, n_name_hide, n_name_as, n_then_stop, n_then_spin, n_then_name, n_then_out, n_then_own, n_then_beside, n_then_hide, n_then_as, n_out_stop, n_out_spin, n_out_name, n_out_then, n_out_own, n_out_beside, n_out_hide, n_out_as, n_own_stop, n_own_spin, n_own_name, n_own_then, n_own_out, n_own_beside, n_own_hide, n_own_as, n_beside_stop, n_beside_spin, n_beside_name, n_beside_then, n_beside_out, n_beside_own, n_beside_hide, n_beside_as, n_hide_stop, n_hide_spin, n_hide_name, n_hide_then, n_hide_out, n_hide_own, n_hide_beside, n_hide_as, n_as_stop, n_as_spin, n_as_name, n_as_then, n_as_out, n_as_own, n_as_beside, n_as_hide, hs _ g, setD'_own]
  | als S =>
    simp only [St.good, Bool.and_eq_true] at g
    simp [B_is_step, runB_ap, orun, env0, finL, obind_ok, obind_exc, oof_some, obool_bl, oslot_some, bnd_ap, pur_ap, varM_ap, keepM_ap, moveM_ap, plainM_ap, twoM_ap, oneM_ap, boolM_ap, andM_ap, orM_ap, notM_ap, andD_ap, orD_ap, notD_ap, iteM_ap, consM_ap, tupM_ap, lstM_ap, argM_ap, narM_ap, otake_some, ocres_ok, ocres_exc, callM_ap, exprM_ap, oput, asgM_ap, retM_ap, oseq_nx, oseq_rt, oseq_bk, oseq_ct, seqM_ap, raiseM_ap, seqI_ap, forS_ap, chainM_ap, partM_ap, sliceM_ap, asgtM_ap, takeA, backA, Env.put, Env.drop, own_non, own_bl, own_int, own_str, own_tup, own_lst, own_dct, own_exc, owns_nil, owns_cons, List.replicate, Bool.or_false, Bool.false_or, Bool.or_true, Bool.true_or, St.toD, isi_tup_t, eq_nil_f, ix0, ix1, ix2, isi_str_s, ks_then, ks_out, ks_own, ks_beside, ks_hide, ks_as, ne_int, ne_str, eq_str, len_tup, in2, n_stop_spin, n_stop_name, n_stop_then, n_stop_out, n_stop_own, n_stop_beside, n_stop_hide, n_stop_as, n_spin_stop, n_spin_name, n_spin_then, n_spin_out, n_spin_own, n_spin_beside, n_spin_hide, n_spin_as, n_name_stop, n_name_spin, n_name_then, n_name_out, n_name_own, n_name_beside, n_name_hide, n_name_as, n_then_stop, n_then_spin, n_then_name, n_then_out, n_then_own, n_then_beside, n_then_hide, n_then_as, n_out_stop, n_out_spin, n_out_name, n_out_then, n_out_own, n_out_beside, n_out_hide, n_out_as, n_own_stop, n_own_spin, n_own_name, n_own_then, n_own_out, n_own_beside, n_own_hide, n_own_as, n_beside_stop, n_beside_spin, n_beside_name, n_beside_then, n_beside_out, n_beside_own, n_beside_hide, n_beside_as, n_hide_stop, n_hide_spin, n_hide_name, n_hide_then, n_hide_out, n_hide_own, n_hide_beside, n_hide_as, n_as_stop, n_as_spin, n_as_name, n_as_then, n_as_out, n_as_own, n_as_beside, n_as_hide, hp _ g, pairsD_own]
def stepsD (ss : List St) : D := .tup (ss.map St.toD)
theorem steps_owns (ss : List St) : D.owns (ss.map St.toD) = false := owns_map St.toD St.own ss
theorem stepsD_own (ss : List St) : (stepsD ss).own = false := by simp [stepsD, own_tup, steps_owns]
theorem surr_run {f : List D → CRes} (hf : ∀ s : St, s.good = true → f [s.toD] = .ok (.bl true) [s.toD]) {ss : List St} (hg : ∀ s ∈ ss, s.good = true) (hl : ss.length ≤ 10) : runB 2 (B_need_surroundings f) [stepsD ss] = .ok .non [stepsD ss] := by
  have ho := stepsD_own ss
  have hc := comp_call (v := 1) (f := f) (fi := seqI (varM 0)) (env := ⟨[some (stepsD ss), none], [false]⟩) (e := ⟨[some (stepsD ss), none], [false]⟩) (ds := ss.map St.toD) (fun d => .bl true)
    (by simp [runB_ap, orun, env0, finL, obind_ok, obind_exc, oof_some, obool_bl, oslot_some, bnd_ap, pur_ap, varM_ap, keepM_ap, moveM_ap, plainM_ap, twoM_ap, oneM_ap, boolM_ap, andM_ap, orM_ap, notM_ap, andD_ap, orD_ap, notD_ap, iteM_ap, consM_ap, tupM_ap, lstM_ap, argM_ap, narM_ap, otake_some, ocres_ok, ocres_exc, callM_ap, exprM_ap, oput, asgM_ap, retM_ap, oseq_nx, oseq_rt, oseq_bk, oseq_ct, seqM_ap, raiseM_ap, seqI_ap, forS_ap, chainM_ap, partM_ap, sliceM_ap, asgtM_ap, takeA, backA, Env.put, Env.drop, own_non, own_bl, own_int, own_str, own_tup, own_lst, own_dct, own_exc, owns_nil, owns_cons, List.replicate, Bool.or_false, Bool.false_or, Bool.or_true, Bool.true_or, itemsD, stepsD, steps_owns]) (.inl rfl) (by simp) (fun d hd => by
      obtain ⟨s, hs, rfl⟩ := List.mem_map.mp hd
      exact ⟨s.own, hf s (hg s hs)⟩) (by simp; omega)
  rw [List.map_map, show ((fun d : D => D.bl true) ∘ St.toD) = fun s : St => D.bl ((fun _ => true) s) from rfl] at hc
  have hi : isiD tb_tuple te_tuple (stepsD ss) = some (.bl true) := isi_tup_t (steps_owns ss)
  have hn : lenD (stepsD ss) = some (.int ss.length) := by simp [stepsD, lenD]
  have h10 : ¬ (10 : Int) < (ss.length : Int) := by omega
  have ha := allD_map (fun _ : St => true) ss
  simp [B_need_surroundings, runB_ap, orun, env0, finL, obind_ok, oof_some, obool_bl, oslot_some, varM_ap, oneM_ap, twoM_ap, pur_ap, iteM_ap, orM_ap, notM_ap, boolM_ap, retM_ap, ho, hi, hn, gtD, h10, hc, ha, List.replicate]
theorem cut1' (xs : List D) (n : Nat) (h : n ≤ xs.length) : cutD xs (some (n : Int)) none = xs.drop n := by
  unfold cutD HT.sIx
  simp only [show ¬ ((n : Int) < 0) by omega, if_false]
  rw [show min (n : Int).toNat xs.length = n by simp; omega]
  exact List.take_of_length_le (by simp)
theorem one_run {h : Hd} {s : St} : runB 2 B_put_one [h.toD, s.toD] = .ok (s.on h).toD [h.toD, s.toD] := by
  have o1 := h.own
  cases s with
  | thn d => simp [B_put_one, runB_ap, orun, env0, finL, obind_ok, obind_exc, oof_some, obool_bl, oslot_some, bnd_ap, pur_ap, varM_ap, keepM_ap, moveM_ap, plainM_ap, twoM_ap, oneM_ap, boolM_ap, andM_ap, orM_ap, notM_ap, andD_ap, orD_ap, notD_ap, iteM_ap, consM_ap, tupM_ap, lstM_ap, argM_ap, narM_ap, otake_some, ocres_ok, ocres_exc, callM_ap, exprM_ap, oput, asgM_ap, retM_ap, oseq_nx, oseq_rt, oseq_bk, oseq_ct, seqM_ap, raiseM_ap, seqI_ap, forS_ap, chainM_ap, partM_ap, sliceM_ap, asgtM_ap, takeA, backA, Env.put, Env.drop, own_non, own_bl, own_int, own_str, own_tup, own_lst, own_dct, own_exc, owns_nil, owns_cons, List.replicate, Bool.or_false, Bool.false_or, Bool.or_true, Bool.true_or, St.toD, St.on, Hd.toD, eq_str, ix0, ix1, o1]
  | two o b =>
    cases o <;> simp [B_put_one, runB_ap, orun, env0, finL, obind_ok, obind_exc, oof_some, obool_bl, oslot_some, bnd_ap, pur_ap, varM_ap, keepM_ap, moveM_ap, plainM_ap, twoM_ap, oneM_ap, boolM_ap, andM_ap, orM_ap, notM_ap, andD_ap, orD_ap, notD_ap, iteM_ap, consM_ap, tupM_ap, lstM_ap, argM_ap, narM_ap, otake_some, ocres_ok, ocres_exc, callM_ap, exprM_ap, oput, asgM_ap, retM_ap, oseq_nx, oseq_rt, oseq_bk, oseq_ct, seqM_ap, raiseM_ap, seqI_ap, forS_ap, chainM_ap, partM_ap, sliceM_ap, asgtM_ap, takeA, backA, Env.put, Env.drop, own_non, own_bl, own_int, own_str, own_tup, own_lst, own_dct, own_exc, owns_nil, owns_cons, List.replicate, Bool.or_false, Bool.false_or, Bool.or_true, Bool.true_or, St.toD, St.on, Hd.toD, eq_str, ix0, ix1, o1, n_stop_spin, n_stop_name, n_stop_then, n_stop_out, n_stop_own, n_stop_beside, n_stop_hide, n_stop_as, n_spin_stop, n_spin_name, n_spin_then, n_spin_out, n_spin_own, n_spin_beside, n_spin_hide, n_spin_as, n_name_stop, n_name_spin, n_name_then, n_name_out, n_name_own, n_name_beside, n_name_hide, n_name_as, n_then_stop, n_then_spin, n_then_name, n_then_out, n_then_own, n_then_beside, n_then_hide, n_then_as, n_out_stop, n_out_spin, n_out_name, n_out_then, n_out_own, n_out_beside, n_out_hide, n_out_as, n_own_stop, n_own_spin, n_own_name, n_own_then, n_own_out, n_own_beside, n_own_hide, n_own_as, n_beside_stop, n_beside_spin, n_beside_name, n_beside_then, n_beside_out, n_beside_own, n_beside_hide, n_beside_as, n_hide_stop, n_hide_spin, n_hide_name, n_hide_then, n_hide_out, n_hide_own, n_hide_beside, n_hide_as, n_as_stop, n_as_spin, n_as_name, n_as_then, n_as_out, n_as_own, n_as_beside, n_as_hide, b.own, sliceD, cut1, addD]
  | bes S b => simp [B_put_one, runB_ap, orun, env0, finL, obind_ok, obind_exc, oof_some, obool_bl, oslot_some, bnd_ap, pur_ap, varM_ap, keepM_ap, moveM_ap, plainM_ap, twoM_ap, oneM_ap, boolM_ap, andM_ap, orM_ap, notM_ap, andD_ap, orD_ap, notD_ap, iteM_ap, consM_ap, tupM_ap, lstM_ap, argM_ap, narM_ap, otake_some, ocres_ok, ocres_exc, callM_ap, exprM_ap, oput, asgM_ap, retM_ap, oseq_nx, oseq_rt, oseq_bk, oseq_ct, seqM_ap, raiseM_ap, seqI_ap, forS_ap, chainM_ap, partM_ap, sliceM_ap, asgtM_ap, takeA, backA, Env.put, Env.drop, own_non, own_bl, own_int, own_str, own_tup, own_lst, own_dct, own_exc, owns_nil, owns_cons, List.replicate, Bool.or_false, Bool.false_or, Bool.or_true, Bool.true_or, St.toD, St.on, Hd.toD, eq_str, ix0, ix1, o1, n_stop_spin, n_stop_name, n_stop_then, n_stop_out, n_stop_own, n_stop_beside, n_stop_hide, n_stop_as, n_spin_stop, n_spin_name, n_spin_then, n_spin_out, n_spin_own, n_spin_beside, n_spin_hide, n_spin_as, n_name_stop, n_name_spin, n_name_then, n_name_out, n_name_own, n_name_beside, n_name_hide, n_name_as, n_then_stop, n_then_spin, n_then_name, n_then_out, n_then_own, n_then_beside, n_then_hide, n_then_as, n_out_stop, n_out_spin, n_out_name, n_out_then, n_out_own, n_out_beside, n_out_hide, n_out_as, n_own_stop, n_own_spin, n_own_name, n_own_then, n_own_out, n_own_beside, n_own_hide, n_own_as, n_beside_stop, n_beside_spin, n_beside_name, n_beside_then, n_beside_out, n_beside_own, n_beside_hide, n_beside_as, n_hide_stop, n_hide_spin, n_hide_name, n_hide_then, n_hide_out, n_hide_own, n_hide_beside, n_hide_as, n_as_stop, n_as_spin, n_as_name, n_as_then, n_as_out, n_as_own, n_as_beside, n_as_hide, b.own, setD'_own, sliceD, cut1, addD]
  | hid S => simp [B_put_one, runB_ap, orun, env0, finL, obind_ok, obind_exc, oof_some, obool_bl, oslot_some, bnd_ap, pur_ap, varM_ap, keepM_ap, moveM_ap, plainM_ap, twoM_ap, oneM_ap, boolM_ap, andM_ap, orM_ap, notM_ap, andD_ap, orD_ap, notD_ap, iteM_ap, consM_ap, tupM_ap, lstM_ap, argM_ap, narM_ap, otake_some, ocres_ok, ocres_exc, callM_ap, exprM_ap, oput, asgM_ap, retM_ap, oseq_nx, oseq_rt, oseq_bk, oseq_ct, seqM_ap, raiseM_ap, seqI_ap, forS_ap, chainM_ap, partM_ap, sliceM_ap, asgtM_ap, takeA, backA, Env.put, Env.drop, own_non, own_bl, own_int, own_str, own_tup, own_lst, own_dct, own_exc, owns_nil, owns_cons, List.replicate, Bool.or_false, Bool.false_or, Bool.or_true, Bool.true_or, St.toD, St.on, Hd.toD, eq_str, ix0, ix1, o1, n_stop_spin, n_stop_name, n_stop_then, n_stop_out, n_stop_own, n_stop_beside, n_stop_hide, n_stop_as, n_spin_stop, n_spin_name, n_spin_then, n_spin_out, n_spin_own, n_spin_beside, n_spin_hide, n_spin_as, n_name_stop, n_name_spin, n_name_then, n_name_out, n_name_own, n_name_beside, n_name_hide, n_name_as, n_then_stop, n_then_spin, n_then_name, n_then_out, n_then_own, n_then_beside, n_then_hide, n_then_as, n_out_stop, n_out_spin, n_out_name, n_out_then, n_out_own, n_out_beside, n_out_hide, n_out_as, n_own_stop, n_own_spin, n_own_name, n_own_then, n_own_out, n_own_beside, n_own_hide, n_own_as, n_beside_stop, n_beside_spin, n_beside_name, n_beside_then, n_beside_out, n_beside_own, n_beside_hide, n_beside_as, n_hide_stop, n_hide_spin, n_hide_name, n_hide_then, n_hide_out, n_hide_own, n_hide_beside, n_hide_as, n_as_stop, n_as_spin, n_as_name, n_as_then, n_as_out, n_as_own, n_as_beside, n_as_hide, setD'_own, sliceD, cut1, addD]
  | als S => simp [B_put_one, runB_ap, orun, env0, finL, obind_ok, obind_exc, oof_some, obool_bl, oslot_some, bnd_ap, pur_ap, varM_ap, keepM_ap, moveM_ap, plainM_ap, twoM_ap, oneM_ap, boolM_ap, andM_ap, orM_ap, notM_ap, andD_ap, orD_ap, notD_ap, iteM_ap, consM_ap, tupM_ap, lstM_ap, argM_ap, narM_ap, otake_some, ocres_ok, ocres_exc, callM_ap, exprM_ap, oput, asgM_ap, retM_ap, oseq_nx, oseq_rt, oseq_bk, oseq_ct, seqM_ap, raiseM_ap, seqI_ap, forS_ap, chainM_ap, partM_ap, sliceM_ap, asgtM_ap, takeA, backA, Env.put, Env.drop, own_non, own_bl, own_int, own_str, own_tup, own_lst, own_dct, own_exc, owns_nil, owns_cons, List.replicate, Bool.or_false, Bool.false_or, Bool.or_true, Bool.true_or, St.toD, St.on, Hd.toD, eq_str, ix0, ix1, o1, n_stop_spin, n_stop_name, n_stop_then, n_stop_out, n_stop_own, n_stop_beside, n_stop_hide, n_stop_as, n_spin_stop, n_spin_name, n_spin_then, n_spin_out, n_spin_own, n_spin_beside, n_spin_hide, n_spin_as, n_name_stop, n_name_spin, n_name_then, n_name_out, n_name_own, n_name_beside, n_name_hide, n_name_as, n_then_stop, n_then_spin, n_then_name, n_then_out, n_then_own, n_then_beside, n_then_hide, n_then_as, n_out_stop, n_out_spin, n_out_name, n_out_then, n_out_own, n_out_beside, n_out_hide, n_out_as, n_own_stop, n_own_spin, n_own_name, n_own_then, n_own_out, n_own_beside, n_own_hide, n_own_as, n_beside_stop, n_beside_spin, n_beside_name, n_beside_then, n_beside_out, n_beside_own, n_beside_hide, n_beside_as, n_hide_stop, n_hide_spin, n_hide_name, n_hide_then, n_hide_out, n_hide_own, n_hide_beside, n_hide_as, n_as_stop, n_as_spin, n_as_name, n_as_then, n_as_out, n_as_own, n_as_beside, n_as_hide, pairsD_own, sliceD, cut1, addD]
def putAll (h : Hd) (ss : List St) : Hd := ss.foldl St.on h
theorem put_good {h : Hd} {ss : List St} (g : h.good = true) (gs : ∀ s ∈ ss, s.good = true) : (putAll h ss).good = true := by
  induction ss generalizing h with
  | nil => exact g
  | cons s ss ih =>
    refine ih (h := s.on h) ?_ fun x hx => gs x (List.mem_cons_of_mem _ hx)
    have := gs s List.mem_cons_self
    cases s <;> simp_all [St.on, Hd.good, St.good]
theorem need_run {f : List D → CRes} {b : Bool} {d : D} (ho : d.own = false) (hf : f [d] = .ok (.bl b) [d]) : runB 1 (B_need_hand f) [d] = if b = true then .ok .non [d] else .exc "BadHand" [] [d] := by
  cases b <;> simp [B_need_hand, runB_ap, orun, env0, finL, obind_ok, obind_exc, oof_some, obool_bl, oslot_some, bnd_ap, pur_ap, varM_ap, keepM_ap, moveM_ap, plainM_ap, twoM_ap, oneM_ap, boolM_ap, andM_ap, orM_ap, notM_ap, andD_ap, orD_ap, notD_ap, iteM_ap, consM_ap, tupM_ap, lstM_ap, argM_ap, narM_ap, otake_some, ocres_ok, ocres_exc, callM_ap, exprM_ap, oput, asgM_ap, retM_ap, oseq_nx, oseq_rt, oseq_bk, oseq_ct, seqM_ap, raiseM_ap, seqI_ap, forS_ap, chainM_ap, partM_ap, sliceM_ap, asgtM_ap, takeA, backA, Env.put, Env.drop, own_non, own_bl, own_int, own_str, own_tup, own_lst, own_dct, own_exc, owns_nil, owns_cons, List.replicate, Bool.or_false, Bool.false_or, Bool.or_true, Bool.true_or, ho, hf]
/-- a loop that goes on from item to item -/
theorem forM_fold {gt : D → M Unit} {fb : M Fl} {α : Type} (E : α → Option D → VI.Env) (v : D → α → α) : ∀ (ds : List D) (a : α) (o : Option D), (∀ d ∈ ds, d.own = false ∧ ∀ a o, ∃ e1, gt d (E a o) = .ok () e1 ∧ fb e1 = .ok .nx (E (v d a) (some d))) →
    ∃ o', VI.forM gt fb ds (E a o) = .ok .nx (E (ds.foldl (fun a d => v d a) a) o')
  | [], a, o, _ => ⟨o, rfl⟩
  | d :: ds, a, o, h => by
    obtain ⟨ho, k⟩ := h d List.mem_cons_self
    obtain ⟨e1, h1, h2⟩ := k a o
    obtain ⟨o', ih⟩ := forM_fold E v ds (v d a) (some d) fun x hx => h x (List.mem_cons_of_mem _ hx)
    refine ⟨o', ?_⟩
    unfold VI.forM
    rw [if_neg (by rw [ho]; exact Bool.false_ne_true)]
    unfold gtb
    rw [h1]
    dsimp only
    rw [bnd_ap, h2, obind_ok]
    exact ih
theorem forM_steps {gt : D → M Unit} {fb : M Fl} (E : Hd → Option D → VI.Env) : ∀ (ss : List St) (a : Hd) (o : Option D), (∀ s ∈ ss, ∀ a o, ∃ e1, gt s.toD (E a o) = .ok () e1 ∧ fb e1 = .ok .nx (E (s.on a) (some s.toD))) →
    ∃ o', VI.forM gt fb (ss.map St.toD) (E a o) = .ok .nx (E (putAll a ss) o')
  | [], a, o, _ => ⟨o, rfl⟩
  | s :: ss, a, o, h => by
    obtain ⟨e1, h1, h2⟩ := h s List.mem_cons_self a o
    obtain ⟨o', ih⟩ := forM_steps E ss (s.on a) (some s.toD) fun x hx => h x (List.mem_cons_of_mem _ hx)
    refine ⟨o', ?_⟩
    rw [List.map_cons]
    unfold VI.forM
    rw [if_neg (by rw [s.own]; exact Bool.false_ne_true)]
    unfold gtb
    rw [h1]
    dsimp only
    rw [bnd_ap, h2, obind_ok]
    exact ih
theorem round_run {fn fs fo : List D → CRes} (hn : ∀ h : Hd, h.good = true → h.size < 100000 → fn [h.toD] = if isH h = true then .ok .non [h.toD] else .exc "BadHand" [] [h.toD]) (ho : ∀ (h : Hd) (s : St), fo [h.toD, s.toD] = .ok (s.on h).toD [h.toD, s.toD])
    {h : Hd} {ss : List St} (hs : fs [stepsD ss] = .ok .non [stepsD ss]) (g : h.good = true) (gs : ∀ s ∈ ss, s.good = true) (hz : (putAll h ss).size < 100000) (hi : isH h = true) :
    runB 3 (B_put_round fn fs fo) [h.toD, stepsD ss] = if isH (putAll h ss) = true then .ok (putAll h ss).toD [h.toD, stepsD ss] else .exc "BadHand" [] [h.toD, stepsD ss] := by
  have o1 := h.own
  have o2 := stepsD_own ss
  have h1 := hn h g (isH_small hi)
  rw [if_pos hi] at h1
  have h2 := hn _ (put_good g gs) hz
  have op := (putAll h ss).own
  obtain ⟨o, hl⟩ := forM_steps (gt := gnM 2) (fb := asgM 0 (callM fo (narM 0 (narM 2 (pur []))))) (fun a o => ⟨[some a.toD, some (stepsD ss), o], [false, false]⟩) ss h none (fun s hs a o => ⟨⟨[some a.toD, some (stepsD ss), some s.toD], [false, false]⟩, by simp [gnM, Env.put], by
    have oa := a.own
    have os := s.own
    simp [runB_ap, orun, env0, finL, obind_ok, obind_exc, oof_some, obool_bl, oslot_some, bnd_ap, pur_ap, varM_ap, keepM_ap, moveM_ap, plainM_ap, twoM_ap, oneM_ap, boolM_ap, andM_ap, orM_ap, notM_ap, andD_ap, orD_ap, notD_ap, iteM_ap, consM_ap, tupM_ap, lstM_ap, argM_ap, narM_ap, otake_some, ocres_ok, ocres_exc, callM_ap, exprM_ap, oput, asgM_ap, retM_ap, oseq_nx, oseq_rt, oseq_bk, oseq_ct, seqM_ap, raiseM_ap, seqI_ap, forS_ap, chainM_ap, partM_ap, sliceM_ap, asgtM_ap, takeA, backA, Env.put, Env.drop, own_non, own_bl, own_int, own_str, own_tup, own_lst, own_dct, own_exc, owns_nil, owns_cons, List.replicate, Bool.or_false, Bool.false_or, Bool.or_true, Bool.true_or, oa, os, ho]⟩)
  have it : itemsD (stepsD ss) = some (ss.map St.toD) := by simp [itemsD, stepsD, steps_owns]
  have e0 : env0 3 [h.toD, stepsD ss] = ⟨[some h.toD, some (stepsD ss), none], [false, false]⟩ := by simp [env0, o1, o2, List.replicate]
  rw [runB_ap, e0]
  by_cases hv : isH (putAll h ss) = true
  · rw [if_pos hv] at h2 ⊢
    simp [B_put_round, runB_ap, orun, env0, finL, obind_ok, obind_exc, oof_some, obool_bl, oslot_some, bnd_ap, pur_ap, varM_ap, keepM_ap, moveM_ap, plainM_ap, twoM_ap, oneM_ap, boolM_ap, andM_ap, orM_ap, notM_ap, andD_ap, orD_ap, notD_ap, iteM_ap, consM_ap, tupM_ap, lstM_ap, argM_ap, narM_ap, otake_some, ocres_ok, ocres_exc, callM_ap, exprM_ap, oput, asgM_ap, retM_ap, oseq_nx, oseq_rt, oseq_bk, oseq_ct, seqM_ap, raiseM_ap, seqI_ap, forS_ap, chainM_ap, partM_ap, sliceM_ap, asgtM_ap, takeA, backA, Env.put, Env.drop, own_non, own_bl, own_int, own_str, own_tup, own_lst, own_dct, own_exc, owns_nil, owns_cons, List.replicate, Bool.or_false, Bool.false_or, Bool.or_true, Bool.true_or, o1, o2, h1, hs, it, hl, h2, op]
  · rw [if_neg hv] at h2 ⊢
    simp [B_put_round, runB_ap, orun, env0, finL, obind_ok, obind_exc, oof_some, obool_bl, oslot_some, bnd_ap, pur_ap, varM_ap, keepM_ap, moveM_ap, plainM_ap, twoM_ap, oneM_ap, boolM_ap, andM_ap, orM_ap, notM_ap, andD_ap, orD_ap, notD_ap, iteM_ap, consM_ap, tupM_ap, lstM_ap, argM_ap, narM_ap, otake_some, ocres_ok, ocres_exc, callM_ap, exprM_ap, oput, asgM_ap, retM_ap, oseq_nx, oseq_rt, oseq_bk, oseq_ct, seqM_ap, raiseM_ap, seqI_ap, forS_ap, chainM_ap, partM_ap, sliceM_ap, asgtM_ap, takeA, backA, Env.put, Env.drop, own_non, own_bl, own_int, own_str, own_tup, own_lst, own_dct, own_exc, owns_nil, owns_cons, List.replicate, Bool.or_false, Bool.false_or, Bool.or_true, Bool.true_or, o1, o2, h1, hs, it, hl, h2, op]
end PL
/-! Q6: draws -/
namespace PL
open PySem PySem.Spec L2 VI
theorem mulD_r {i j : Int} (h1 : -18446744073709551616 < j) (h2 : j < 18446744073709551616) : mulD (.int i) (.int j) = some (.int (i * j)) := by simp [mulD, mulI_r h1 h2]
theorem mulD_l {i j : Int} (h1 : -18446744073709551616 < i) (h2 : i < 18446744073709551616) : mulD (.int i) (.int j) = some (.int (i * j)) := by simp [mulD, mulI_l h1 h2]
theorem addD_i (i j : Int) : addD (.int i) (.int j) = some (.int (i + j)) := rfl
theorem subD_i (i j : Int) : subD (.int i) (.int j) = some (.int (i - j)) := rfl
theorem gtD_i (i j : Int) : gtD (.int i) (.int j) = some (.bl (decide (j < i))) := rfl
theorem geD_i (i j : Int) : geD (.int i) (.int j) = some (.bl (decide (j ≤ i))) := rfl
theorem ltD_i (i j : Int) : ltD (.int i) (.int j) = some (.bl (decide (i < j))) := rfl
theorem leD_i (i j : Int) : leD (.int i) (.int j) = some (.bl (decide (i ≤ j))) := rfl
theorem eqD_i (i j : Int) : eqD (.int i) (.int j) = some (.bl (decide (i = j))) := rfl
def mixF (c k : Int) : Int := (c * (1 + 2 * k) * 48271 % 2147483647 + 7919 * k * k + 104729 * k) * 69621 % 2147483629 / 7
def MixOk (f : List D → CRes) : Prop := ∀ c k : Int, 0 ≤ k → k < 1152921504606846976 → f [.int c, .int k] = .ok (.int (mixF c k)) [.int c, .int k]
theorem mixed_run : MixOk (runB 3 B__law_mixed) := fun c k h1 h2 => by
  have e1 : -18446744073709551616 < 1 + 2 * k := by omega
  have e2 : 1 + 2 * k < 18446744073709551616 := by omega
  have e3 : -18446744073709551616 < k := by omega
  have e4 : k < 18446744073709551616 := by omega
  simp [B__law_mixed, runB_ap, orun, env0, finL, obind_ok, obind_exc, oof_some, obool_bl, oslot_some, bnd_ap, pur_ap, varM_ap, keepM_ap, moveM_ap, plainM_ap, twoM_ap, oneM_ap, boolM_ap, andM_ap, orM_ap, notM_ap, andD_ap, orD_ap, notD_ap, iteM_ap, consM_ap, tupM_ap, lstM_ap, argM_ap, narM_ap, otake_some, ocres_ok, ocres_exc, callM_ap, exprM_ap, oput, asgM_ap, retM_ap, oseq_nx, oseq_rt, oseq_bk, oseq_ct, seqM_ap, raiseM_ap, seqI_ap, forS_ap, chainM_ap, partM_ap, sliceM_ap, asgtM_ap, takeA, backA, Env.put, Env.drop, own_non, own_bl, own_int, own_str, own_tup, own_lst, own_dct, own_exc, owns_nil, owns_cons, List.replicate, Bool.or_false, Bool.false_or, Bool.or_true, Bool.true_or, mixF, e1, e2, e3, e4, addD_i, mulD_r, mulD_l, modD_p, fdivD_p]
theorem owns_int (l : List Int) : D.owns (l.map D.int) = false := owns_map _ (fun _ => rfl) l
/-- the draws' state -/
def M4 (cells left : List Int) (k room : Int) : D := .dct true [(.str "cells", .lst true (cells.map .int)), (.str "left", .lst true (left.map .int)), (.str "at", .int k), (.str "room", .int room)]
def Ms (n : Nat) (d : D) : Prop := ∃ (cells left : List Int) (k room : Int), cells.length = 64 ∧ 0 ≤ k ∧ k + n ≤ 576460752303423488 ∧ d = M4 cells left k room
theorem Ms.mono {n m : Nat} {d : D} (h : Ms n d) (q : m ≤ n) : Ms m d := by
  obtain ⟨c, l, k, r, h1, h2, h3, h4⟩ := h
  exact ⟨c, l, k, r, h1, h2, by omega, h4⟩
theorem Ms.own {n : Nat} {d : D} (h : Ms n d) : d.own = true := by
  obtain ⟨c, l, k, r, h1, h2, h3, rfl⟩ := h
  simp [M4, own_dct]
theorem key1 : (("cells" : Str) = "at") = False := by decide
theorem key2 : (("left" : Str) = "at") = False := by decide
theorem key3 : (("cells" : Str) = "left") = False := by decide
theorem key4 : (("left" : Str) = "cells") = False := by decide
theorem key5 : (("at" : Str) = "cells") = False := by decide
theorem key6 : (("at" : Str) = "left") = False := by decide
theorem key7 : (("room" : Str) = "at") = False := by decide
theorem key8 : (("room" : Str) = "left") = False := by decide
theorem key9 : (("room" : Str) = "cells") = False := by decide
theorem key10 : (("at" : Str) = "room") = False := by decide
theorem key11 : (("left" : Str) = "room") = False := by decide
theorem key12 : (("cells" : Str) = "room") = False := by decide
def DrawOk (f : List D → CRes) : Prop := ∀ (n : Nat) (d : D) (many : Int), Ms (n + 1) d → 0 < many → many < 1073741824 → ∃ r d', f [d, .int many] = .ok (.int r) [d', .int many] ∧ 0 ≤ r ∧ r < many ∧ Ms n d'
theorem draw_run {f : List D → CRes} (hf : MixOk f) : DrawOk (runB 5 (B__law_draw f)) := by
  intro n d many hM h3 h4
  obtain ⟨cells, left, k, room, hc, h1, h2, rfl⟩ := hM
  have i1 : ixN 64 (k % 64) = some (k % 64).toNat := ixN_pos (by omega) (by omega)
  have i2 : (k % 64).toNat < cells.length := by omega
  obtain ⟨z, hz⟩ : ∃ z, cells[(k % 64).toNat]? = some z := ⟨_, List.getElem?_eq_getElem i2⟩
  have m1 := hf (z + 31 * (k / 64)) k h1 (by omega)
  have m2 := hf (mixF (z + 31 * (k / 64)) k) (k + 7) (by omega) (by omega)
  have e1 : -18446744073709551616 < k / 64 := by omega
  have e2 : k / 64 < 18446744073709551616 := by omega
  by_cases hl : left = []
  · subst hl
    have ed : neD (.lst true []) (.lst true []) = some (.bl false) := ne_lst_nil
    refine ⟨mixF (mixF (z + 31 * (k / 64)) k) (k + 7) % many, M4 cells [] (k + 1) room, ?_, Int.emod_nonneg _ (by omega), Int.emod_lt_of_pos _ h3, cells, [], k + 1, room, hc, by omega, by omega, rfl⟩
    simp [B__law_draw, M4, key1, key2, key3, key4, key5, key6, key7, key8, key9, key10, key11, key12, ed, hc, i1, hz, m1, m2, h3, e1, e2, owns_int, runB_ap, orun, env0, finL, obind_ok, obind_exc, oof_some, obool_bl, oslot_some, bnd_ap, pur_ap, varM_ap, keepM_ap, moveM_ap, plainM_ap, twoM_ap, oneM_ap, boolM_ap, andM_ap, orM_ap, notM_ap, andD_ap, orD_ap, notD_ap, iteM_ap, consM_ap, tupM_ap, lstM_ap, argM_ap, narM_ap, otake_some, ocres_ok, ocres_exc, callM_ap, exprM_ap, oput, asgM_ap, retM_ap, oseq_nx, oseq_rt, oseq_bk, oseq_ct, seqM_ap, raiseM_ap, seqI_ap, forS_ap, chainM_ap, partM_ap, sliceM_ap, asgtM_ap, takeA, backA, Env.put, Env.drop, own_non, own_bl, own_int, own_str, own_tup, own_lst, own_dct, own_exc, owns_nil, owns_cons, List.replicate, Bool.or_false, Bool.false_or, Bool.or_true, Bool.true_or, getM, pixM, rootM, atE, updE, D.at, D.at1, D.upd, D.upd1, dAt, dSet, stepOf, keyD, storeM, setD, D.ownk, addD_i, mulD_r, mulD_l, modD_p, fdivD_p, lenD]
  · have ll : 0 < left.length := List.length_pos_iff.mpr hl
    have l0 : (0 : Int) < (left.length : Int) := by omega
    have ed : neD (.lst true (left.map D.int)) (.lst true []) = some (.bl true) := by simp [neD, eqB, hl]
    have j1 : ixN left.length (k % (left.length : Int)) = some (k % (left.length : Int)).toNat := ixN_pos (Int.emod_nonneg _ (by omega)) (Int.emod_lt_of_pos _ l0)
    have j2 : (k % (left.length : Int)).toNat < left.length := by
      have := Int.emod_lt_of_pos k l0
      have := Int.emod_nonneg k (show (left.length : Int) ≠ 0 by omega)
      omega
    obtain ⟨y, hy⟩ : ∃ y, left[(k % (left.length : Int)).toNat]? = some y := ⟨_, List.getElem?_eq_getElem j2⟩
    by_cases hp : 0 < y
    · refine ⟨y % many, M4 cells (left.set (k % (left.length : Int)).toNat (y / many)) (k + 1) room, ?_, Int.emod_nonneg _ (by omega), Int.emod_lt_of_pos _ h3, cells, _, k + 1, room, hc, by omega, by omega, rfl⟩
      simp [B__law_draw, M4, key1, key2, key3, key4, key5, key6, key7, key8, key9, key10, key11, key12, ed, hc, j1, hy, hp, h3, h4, l0, hl, ll, owns_int, runB_ap, orun, env0, finL, obind_ok, obind_exc, oof_some, obool_bl, oslot_some, bnd_ap, pur_ap, varM_ap, keepM_ap, moveM_ap, plainM_ap, twoM_ap, oneM_ap, boolM_ap, andM_ap, orM_ap, notM_ap, andD_ap, orD_ap, notD_ap, iteM_ap, consM_ap, tupM_ap, lstM_ap, argM_ap, narM_ap, otake_some, ocres_ok, ocres_exc, callM_ap, exprM_ap, oput, asgM_ap, retM_ap, oseq_nx, oseq_rt, oseq_bk, oseq_ct, seqM_ap, raiseM_ap, seqI_ap, forS_ap, chainM_ap, partM_ap, sliceM_ap, asgtM_ap, takeA, backA, Env.put, Env.drop, own_non, own_bl, own_int, own_str, own_tup, own_lst, own_dct, own_exc, owns_nil, owns_cons, List.replicate, Bool.or_false, Bool.false_or, Bool.or_true, Bool.true_or, getM, pixM, rootM, atE, updE, D.at, D.at1, D.upd, D.upd1, dAt, dSet, stepOf, keyD, storeM, setD, D.ownk, addD_i, gtD_i, mulD_r, mulD_l, modD_p, fdivD_p, lenD]
    · refine ⟨mixF (mixF (z + 31 * (k / 64)) k) (k + 7) % many, M4 cells left (k + 1) room, ?_, Int.emod_nonneg _ (by omega), Int.emod_lt_of_pos _ h3, cells, left, k + 1, room, hc, by omega, by omega, rfl⟩
      simp [B__law_draw, M4, key1, key2, key3, key4, key5, key6, key7, key8, key9, key10, key11, key12, ed, hc, i1, hz, j1, hy, hp, m1, m2, h3, l0, hl, ll, e1, e2, owns_int, runB_ap, orun, env0, finL, obind_ok, obind_exc, oof_some, obool_bl, oslot_some, bnd_ap, pur_ap, varM_ap, keepM_ap, moveM_ap, plainM_ap, twoM_ap, oneM_ap, boolM_ap, andM_ap, orM_ap, notM_ap, andD_ap, orD_ap, notD_ap, iteM_ap, consM_ap, tupM_ap, lstM_ap, argM_ap, narM_ap, otake_some, ocres_ok, ocres_exc, callM_ap, exprM_ap, oput, asgM_ap, retM_ap, oseq_nx, oseq_rt, oseq_bk, oseq_ct, seqM_ap, raiseM_ap, seqI_ap, forS_ap, chainM_ap, partM_ap, sliceM_ap, asgtM_ap, takeA, backA, Env.put, Env.drop, own_non, own_bl, own_int, own_str, own_tup, own_lst, own_dct, own_exc, owns_nil, owns_cons, List.replicate, Bool.or_false, Bool.false_or, Bool.or_true, Bool.true_or, getM, pixM, rootM, atE, updE, D.at, D.at1, D.upd, D.upd1, dAt, dSet, stepOf, keyD, storeM, setD, D.ownk, addD_i, gtD_i, mulD_r, mulD_l, modD_p, fdivD_p, lenD]
theorem folded_run (ns : List Int) : ∃ cells : List Int, cells.length = 64 ∧ runB 4 B__law_folded [scriptD ns] = .ok (.lst true (cells.map .int)) [scriptD ns] := by
  -- the first list
  have c1 := comp1 (v := 2) (fi := range1I (pur (.int 64))) (fe := twoM true (pur (.int 17)) (varM 2) addD) (env := ⟨[some (scriptD ns), none, none, none], [false]⟩) (e := ⟨[some (scriptD ns), none, none, none], [false]⟩) (ds := rangeD 0 64) (fun d => match addD (.int 17) d with | some r => r | none => d)
    (by simp [range1I, bnd, pur, small62]) (.inl rfl) (by simp) (fun d hd => by
      obtain ⟨j, hj⟩ := List.mem_iff_getElem?.mp hd
      obtain ⟨rfl, _⟩ := rangeD_get hj
      exact ⟨rfl, by simp [runB_ap, orun, env0, finL, obind_ok, obind_exc, oof_some, obool_bl, oslot_some, bnd_ap, pur_ap, varM_ap, keepM_ap, moveM_ap, plainM_ap, twoM_ap, oneM_ap, boolM_ap, andM_ap, orM_ap, notM_ap, andD_ap, orD_ap, notD_ap, iteM_ap, consM_ap, tupM_ap, lstM_ap, argM_ap, narM_ap, otake_some, ocres_ok, ocres_exc, callM_ap, exprM_ap, oput, asgM_ap, retM_ap, oseq_nx, oseq_rt, oseq_bk, oseq_ct, seqM_ap, raiseM_ap, seqI_ap, forS_ap, chainM_ap, partM_ap, sliceM_ap, asgtM_ap, takeA, backA, Env.put, Env.drop, own_non, own_bl, own_int, own_str, own_tup, own_lst, own_dct, own_exc, owns_nil, owns_cons, List.replicate, Bool.or_false, Bool.false_or, Bool.or_true, Bool.true_or, addD_i]⟩) (by rw [rangeD_len]; decide)
  have c2 : ∃ c0 : List Int, c0.length = 64 ∧ (rangeD 0 64).map (fun d => match addD (.int 17) d with | some r => r | none => d) = c0.map .int := by
    refine ⟨(List.range 64).map fun (k : Nat) => (17 + (0 + (k : Int)) : Int), by simp, ?_⟩
    unfold rangeD
    rw [List.map_map, List.map_map]
    rfl
  obtain ⟨c0, hc0, e0⟩ := c2
  rw [e0] at c1
  let P : Nat → VI.Env → Prop := fun _ e => ∃ (c : List Int) (a b : Option D), c.length = 64 ∧ e = ⟨[some (scriptD ns), some (.lst true (c.map .int)), a, b], [false]⟩
  obtain ⟨e2, s2, c2, a2, b2, hc2, rfl⟩ := forM_run (gt := gtM 2 (gconsM (gnM 2) (gconsM (gnM 3) (gnilM)))) (fb := storeM 1 (twoM true (twoM true (twoM true (twoM true (varM 1) (twoM true (varM 2) (pur (.int 64)) modD) ixD) (pur (.int 48271)) mulD) (varM 3) addD) (pur (.int 2147483647)) modD) (rootM 1) (twoM true (varM 2) (pur (.int 64)) modD)) P (enumD 0 (ns.map .int)) 0 ⟨[some (scriptD ns), some (.lst true (c0.map .int)), none, none], [false]⟩ ⟨c0, none, none, hc0, rfl⟩
    (fun j d e hd hp => by
      obtain ⟨c, a, b, hc, rfl⟩ := hp
      rw [enumD_get, List.getElem?_map] at hd
      cases hz : ns[j]? with
      | none => rw [hz] at hd; cases hd
      | some z =>
        rw [hz] at hd
        cases hd
        have i1 : ixN 64 (((0 + j : Nat) : Int) % 64) = some (((0 + j : Nat) : Int) % 64).toNat := ixN_pos (by omega) (by omega)
        have i2 : (((0 + j : Nat) : Int) % 64).toNat < c.length := by omega
        obtain ⟨y, hy⟩ : ∃ y, c[(((0 + j : Nat) : Int) % 64).toNat]? = some y := ⟨_, List.getElem?_eq_getElem i2⟩
        have hx : ixD (.lst true (c.map .int)) (.int (((0 + j : Nat) : Int) % 64)) = some (.int y) := by simp only [ixD, atI, List.length_map, hc, i1, Option.bind_some, List.getElem?_map, hy, Option.map_some]; rfl
        refine ⟨rfl, ⟨[some (scriptD ns), some (.lst true (c.map .int)), some (.int ((0 + j : Nat) : Int)), some (.int z)], [false]⟩, ⟨[some (scriptD ns), some (.lst true ((c.set (((0 + j : Nat) : Int) % 64).toNat ((y * 48271 + z) % 2147483647)).map .int)), some (.int ((0 + j : Nat) : Int)), some (.int z)], [false]⟩, ?_, ?_, ?_⟩
        · simp [gtM, gconsM, gnilM, gnM, bnd, pur, Env.put]
        · simp only [Nat.zero_add] at i1 hx
          simp [runB_ap, orun, env0, finL, obind_ok, obind_exc, oof_some, obool_bl, oslot_some, bnd_ap, pur_ap, varM_ap, keepM_ap, moveM_ap, plainM_ap, twoM_ap, oneM_ap, boolM_ap, andM_ap, orM_ap, notM_ap, andD_ap, orD_ap, notD_ap, iteM_ap, consM_ap, tupM_ap, lstM_ap, argM_ap, narM_ap, otake_some, ocres_ok, ocres_exc, callM_ap, exprM_ap, oput, asgM_ap, retM_ap, oseq_nx, oseq_rt, oseq_bk, oseq_ct, seqM_ap, raiseM_ap, seqI_ap, forS_ap, chainM_ap, partM_ap, sliceM_ap, asgtM_ap, takeA, backA, Env.put, Env.drop, own_non, own_bl, own_int, own_str, own_tup, own_lst, own_dct, own_exc, owns_nil, owns_cons, List.replicate, Bool.or_false, Bool.false_or, Bool.or_true, Bool.true_or, getM, pixM, rootM, atE, updE, D.at, D.at1, D.upd, D.upd1, dAt, dSet, stepOf, keyD, storeM, setD, D.ownk, addD_i, mulD_r, mulD_l, modD_p, fdivD_p, owns_int, hx, hc, i1]
        · exact ⟨_, _, _, by simpa using hc, rfl⟩)
  obtain ⟨e3, s3, c3, a3, b3, hc3, rfl⟩ := forM_run (gt := gnM 2) (fb := storeM 1 (twoM true (twoM true (twoM true (varM 1) (varM 2) ixD) (twoM true (twoM true (varM 1) (twoM true (varM 2) (pur (.int 1)) subD) ixD) (pur (.int 16807)) mulD) addD) (pur (.int 2147483647)) modD) (rootM 1) (varM 2)) P (rangeD 1 64) 0 ⟨[some (scriptD ns), some (.lst true (c2.map .int)), a2, b2], [false]⟩ ⟨c2, a2, b2, hc2, rfl⟩
    (fun j d e hd hp => by
      obtain ⟨c, a, b, hc, rfl⟩ := hp
      obtain ⟨rfl, hj⟩ := rangeD_get hd
      have i1 : ixN 64 (1 + (j : Int)) = some (1 + (j : Int)).toNat := ixN_pos (by omega) (by omega)
      have i2 : ixN 64 (1 + (j : Int) - 1) = some (1 + (j : Int) - 1).toNat := ixN_pos (by omega) (by omega)
      obtain ⟨y, hy⟩ : ∃ y, c[(1 + (j : Int)).toNat]? = some y := ⟨_, List.getElem?_eq_getElem (by omega)⟩
      obtain ⟨y2, hy2⟩ : ∃ y, c[(1 + (j : Int) - 1).toNat]? = some y := ⟨_, List.getElem?_eq_getElem (by omega)⟩
      have hx : ixD (.lst true (c.map .int)) (.int (1 + (j : Int))) = some (.int y) := by simp only [ixD, atI, List.length_map, hc, i1, Option.bind_some, List.getElem?_map, hy, Option.map_some]; rfl
      have hx2 : ixD (.lst true (c.map .int)) (.int (1 + (j : Int) - 1)) = some (.int y2) := by simp only [ixD, atI, List.length_map, hc, i2, Option.bind_some, List.getElem?_map, hy2, Option.map_some]; rfl
      have hs : subD (.int (1 + (j : Int))) (.int 1) = some (.int (1 + (j : Int) - 1)) := rfl
      refine ⟨rfl, ⟨[some (scriptD ns), some (.lst true (c.map .int)), some (.int (1 + (j : Int))), b], [false]⟩, ⟨[some (scriptD ns), some (.lst true ((c.set (1 + (j : Int)).toNat ((y + y2 * 16807) % 2147483647)).map .int)), some (.int (1 + (j : Int))), b], [false]⟩, ?_, ?_, ?_⟩
      · simp [gnM, Env.put]
      · generalize hg : (1 + (j : Int)) = q at *
        generalize hg2 : q - 1 = q2 at *
        simp [runB_ap, orun, env0, finL, obind_ok, obind_exc, oof_some, obool_bl, oslot_some, bnd_ap, pur_ap, varM_ap, keepM_ap, moveM_ap, plainM_ap, twoM_ap, oneM_ap, boolM_ap, andM_ap, orM_ap, notM_ap, andD_ap, orD_ap, notD_ap, iteM_ap, consM_ap, tupM_ap, lstM_ap, argM_ap, narM_ap, otake_some, ocres_ok, ocres_exc, callM_ap, exprM_ap, oput, asgM_ap, retM_ap, oseq_nx, oseq_rt, oseq_bk, oseq_ct, seqM_ap, raiseM_ap, seqI_ap, forS_ap, chainM_ap, partM_ap, sliceM_ap, asgtM_ap, takeA, backA, Env.put, Env.drop, own_non, own_bl, own_int, own_str, own_tup, own_lst, own_dct, own_exc, owns_nil, owns_cons, List.replicate, Bool.or_false, Bool.false_or, Bool.or_true, Bool.true_or, getM, pixM, rootM, atE, updE, D.at, D.at1, D.upd, D.upd1, dAt, dSet, stepOf, keyD, storeM, setD, D.ownk, addD_i, mulD_r, mulD_l, modD_p, fdivD_p, owns_int, hs, hx, hx2, hc, i1]
      · exact ⟨_, _, _, by simpa using hc, rfl⟩)
  refine ⟨c3, hc3, ?_⟩
  have e00 : env0 4 [scriptD ns] = ⟨[some (scriptD ns), none, none, none], [false]⟩ := by simp [env0, script_own, List.replicate]
  have en : enumI (varM 0) ⟨[some (scriptD ns), some (.lst true (c0.map .int)), none, none], [false]⟩ = .ok (enumD 0 (ns.map .int)) ⟨[some (scriptD ns), some (.lst true (c0.map .int)), none, none], [false]⟩ := by
    simp [enumI, bnd_ap, varM_ap, oslot_some, obind_ok, scriptD, owns_int, pur_ap]
  have rn : range2I (pur (.int 1)) (pur (.int 64)) ⟨[some (scriptD ns), some (.lst true (c2.map .int)), a2, b2], [false]⟩ = .ok (rangeD 1 64) ⟨[some (scriptD ns), some (.lst true (c2.map .int)), a2, b2], [false]⟩ := by
    simp [range2I, bnd, pur, small62]
  rw [runB_ap, e00]
  simp [B__law_folded, seqM_ap, asgM_ap, c1, obind_ok, oput, Env.put, oseq_nx, forS_ap, en, s2, rn, s3, retM_ap, moveM_ap, oslot_some, own_lst, Env.drop, orun, finL, script_own]
theorem begun_run {f : List D → CRes} (hf : ∀ ns : List Int, ∃ cells : List Int, cells.length = 64 ∧ f [scriptD ns] = .ok (.lst true (cells.map .int)) [scriptD ns]) (ns : List Int) (hns : ns.length ≤ 63) : ∃ d, runB 3 (B__law_begun f) [scriptD ns] = .ok d [scriptD ns] ∧ Ms 1000000000 d := by
  obtain ⟨cells, hc, hf⟩ := hf ns
  have c1 := comp1 (v := 2) (fi := seqI (varM 0)) (fe := iteM (boolM (twoM true (varM 2) (twoM true (pur (.int 10)) (pur (.int 18)) powD) geD)) (keepM 2) (pur (.int 0))) (env := ⟨[some (scriptD ns), some (M4 cells [] 0 12), none], [false]⟩) (e := ⟨[some (scriptD ns), some (M4 cells [] 0 12), none], [false]⟩) (ds := ns.map .int) (fun d => match d with | .int z => .int (if 1000000000000000000 ≤ z then z else 0) | d => d)
    (by simp [runB_ap, orun, env0, finL, obind_ok, obind_exc, oof_some, obool_bl, oslot_some, bnd_ap, pur_ap, varM_ap, keepM_ap, moveM_ap, plainM_ap, twoM_ap, oneM_ap, boolM_ap, andM_ap, orM_ap, notM_ap, andD_ap, orD_ap, notD_ap, iteM_ap, consM_ap, tupM_ap, lstM_ap, argM_ap, narM_ap, otake_some, ocres_ok, ocres_exc, callM_ap, exprM_ap, oput, asgM_ap, retM_ap, oseq_nx, oseq_rt, oseq_bk, oseq_ct, seqM_ap, raiseM_ap, seqI_ap, forS_ap, chainM_ap, partM_ap, sliceM_ap, asgtM_ap, takeA, backA, Env.put, Env.drop, own_non, own_bl, own_int, own_str, own_tup, own_lst, own_dct, own_exc, owns_nil, owns_cons, List.replicate, Bool.or_false, Bool.false_or, Bool.or_true, Bool.true_or, scriptD, itemsD, owns_int]) (.inl rfl) (by simp) (fun d hd => by
      obtain ⟨z, hz, rfl⟩ := List.mem_map.mp hd
      have hp : powD (.int 10) (.int 18) = some (.int 1000000000000000000) := by kernel_rfl
      by_cases hq : (1000000000000000000 : Int) ≤ z
      · exact ⟨rfl, by simp [runB_ap, orun, env0, finL, obind_ok, obind_exc, oof_some, obool_bl, oslot_some, bnd_ap, pur_ap, varM_ap, keepM_ap, moveM_ap, plainM_ap, twoM_ap, oneM_ap, boolM_ap, andM_ap, orM_ap, notM_ap, andD_ap, orD_ap, notD_ap, iteM_ap, consM_ap, tupM_ap, lstM_ap, argM_ap, narM_ap, otake_some, ocres_ok, ocres_exc, callM_ap, exprM_ap, oput, asgM_ap, retM_ap, oseq_nx, oseq_rt, oseq_bk, oseq_ct, seqM_ap, raiseM_ap, seqI_ap, forS_ap, chainM_ap, partM_ap, sliceM_ap, asgtM_ap, takeA, backA, Env.put, Env.drop, own_non, own_bl, own_int, own_str, own_tup, own_lst, own_dct, own_exc, owns_nil, owns_cons, List.replicate, Bool.or_false, Bool.false_or, Bool.or_true, Bool.true_or, hp, geD_i, hq]⟩
      · exact ⟨rfl, by simp [runB_ap, orun, env0, finL, obind_ok, obind_exc, oof_some, obool_bl, oslot_some, bnd_ap, pur_ap, varM_ap, keepM_ap, moveM_ap, plainM_ap, twoM_ap, oneM_ap, boolM_ap, andM_ap, orM_ap, notM_ap, andD_ap, orD_ap, notD_ap, iteM_ap, consM_ap, tupM_ap, lstM_ap, argM_ap, narM_ap, otake_some, ocres_ok, ocres_exc, callM_ap, exprM_ap, oput, asgM_ap, retM_ap, oseq_nx, oseq_rt, oseq_bk, oseq_ct, seqM_ap, raiseM_ap, seqI_ap, forS_ap, chainM_ap, partM_ap, sliceM_ap, asgtM_ap, takeA, backA, Env.put, Env.drop, own_non, own_bl, own_int, own_str, own_tup, own_lst, own_dct, own_exc, owns_nil, owns_cons, List.replicate, Bool.or_false, Bool.false_or, Bool.or_true, Bool.true_or, hp, geD_i, hq]⟩) (by simp; omega)
  rw [List.map_map, show ((fun d : D => match d with | .int z => D.int (if 1000000000000000000 ≤ z then z else 0) | d => d) ∘ D.int) = D.int ∘ (fun z : Int => if 1000000000000000000 ≤ z then z else 0) from rfl, ← List.map_map] at c1
  refine ⟨M4 cells (ns.map fun z : Int => if 1000000000000000000 ≤ z then z else 0) 0 12, ?_, cells, _, 0, 12, hc, by omega, by decide, rfl⟩
  have e00 : env0 3 [scriptD ns] = ⟨[some (scriptD ns), none, none], [false]⟩ := by simp [env0, script_own, List.replicate]
  have s1 : asgM 1 (dispM ["cells", "left", "at", "room"] (consM (callM f (narM 0 (pur []))) (consM (lstM (pur [])) (consM (pur (.int 0)) (consM (pur (.int 12)) (pur [])))))) ⟨[some (scriptD ns), none, none], [false]⟩ = .ok .nx ⟨[some (scriptD ns), some (M4 cells [] 0 12), none], [false]⟩ := by
    simp [asgM_ap, dispM, runB_ap, orun, env0, finL, obind_ok, obind_exc, oof_some, obool_bl, oslot_some, bnd_ap, pur_ap, varM_ap, keepM_ap, moveM_ap, plainM_ap, twoM_ap, oneM_ap, boolM_ap, andM_ap, orM_ap, notM_ap, andD_ap, orD_ap, notD_ap, iteM_ap, consM_ap, tupM_ap, lstM_ap, argM_ap, narM_ap, otake_some, ocres_ok, ocres_exc, callM_ap, exprM_ap, oput, asgM_ap, retM_ap, oseq_nx, oseq_rt, oseq_bk, oseq_ct, seqM_ap, raiseM_ap, seqI_ap, forS_ap, chainM_ap, partM_ap, sliceM_ap, asgtM_ap, takeA, backA, Env.put, Env.drop, own_non, own_bl, own_int, own_str, own_tup, own_lst, own_dct, own_exc, owns_nil, owns_cons, List.replicate, Bool.or_false, Bool.false_or, Bool.or_true, Bool.true_or, script_own, hf, M4]
  have mo : (M4 cells [] 0 12).own = true := by simp [M4, own_dct]
  have s2 : storeM 1 (compM [2] (seqI (varM 0)) (gnM 2) (pur true) (iteM (boolM (twoM true (varM 2) (twoM true (pur (.int 10)) (pur (.int 18)) powD) geD)) (keepM 2) (pur (.int 0)))) (rootM 1) (pur (.str "left")) ⟨[some (scriptD ns), some (M4 cells [] 0 12), none], [false]⟩ = .ok .nx ⟨[some (scriptD ns), some (M4 cells (ns.map fun z : Int => if 1000000000000000000 ≤ z then z else 0) 0 12), none], [false]⟩ := by
    simp only [storeM, bnd_ap, c1, obind_ok]
    simp [rootM, bnd_ap, obind_ok, pur_ap, atE, D.at, M4, setD, keyD, dAt, dSet, key1, key2, key3, key4, key5, key6, key7, key8, key9, key10, key11, key12, updE, D.upd, Env.put]
  rw [runB_ap, e00]
  unfold B__law_begun
  rw [seqM_ap, s1, obind_ok, oseq_nx, seqM_ap, s2, obind_ok, oseq_nx]
  simp [runB_ap, orun, env0, finL, obind_ok, obind_exc, oof_some, obool_bl, oslot_some, bnd_ap, pur_ap, varM_ap, keepM_ap, moveM_ap, plainM_ap, twoM_ap, oneM_ap, boolM_ap, andM_ap, orM_ap, notM_ap, andD_ap, orD_ap, notD_ap, iteM_ap, consM_ap, tupM_ap, lstM_ap, argM_ap, narM_ap, otake_some, ocres_ok, ocres_exc, callM_ap, exprM_ap, oput, asgM_ap, retM_ap, oseq_nx, oseq_rt, oseq_bk, oseq_ct, seqM_ap, raiseM_ap, seqI_ap, forS_ap, chainM_ap, partM_ap, sliceM_ap, asgtM_ap, takeA, backA, Env.put, Env.drop, own_non, own_bl, own_int, own_str, own_tup, own_lst, own_dct, own_exc, owns_nil, owns_cons, List.replicate, Bool.or_false, Bool.false_or, Bool.or_true, Bool.true_or, script_own]
  simp [M4, runB_ap, orun, env0, finL, obind_ok, obind_exc, oof_some, obool_bl, oslot_some, bnd_ap, pur_ap, varM_ap, keepM_ap, moveM_ap, plainM_ap, twoM_ap, oneM_ap, boolM_ap, andM_ap, orM_ap, notM_ap, andD_ap, orD_ap, notD_ap, iteM_ap, consM_ap, tupM_ap, lstM_ap, argM_ap, narM_ap, otake_some, ocres_ok, ocres_exc, callM_ap, exprM_ap, oput, asgM_ap, retM_ap, oseq_nx, oseq_rt, oseq_bk, oseq_ct, seqM_ap, raiseM_ap, seqI_ap, forS_ap, chainM_ap, partM_ap, sliceM_ap, asgtM_ap, takeA, backA, Env.put, Env.drop, own_non, own_bl, own_int, own_str, own_tup, own_lst, own_dct, own_exc, owns_nil, owns_cons, List.replicate, Bool.or_false, Bool.false_or, Bool.or_true, Bool.true_or, script_own]
end PL
/-! Q7: the drawn words -/
namespace PL
open PySem PySem.Spec L2 VI
def mkS (l : List Nat) : Str := ⟨l.toArray⟩
theorem mkS_len (l : List Nat) : (mkS l).length = l.length := by simp [mkS, Str.length]
theorem mkS_inj {a b : List Nat} (h : mkS a = mkS b) : a = b := by
  have := congrArg (fun s : Str => s.cps.toList) h
  simpa [mkS] using this
theorem mkS_app (a b : List Nat) : mkS a ++ mkS b = mkS (a ++ b) := by
  show Str.append _ _ = _
  simp [mkS, Str.append]
theorem add_mkS {a b : List Nat} (h : a.length + b.length ≤ 16777216) : addD (.str (mkS a)) (.str (mkS b)) = some (.str (mkS (a ++ b))) := by
  simp [addD, mkS_len, h, mkS_app]
theorem cut_to {l : List Nat} {i : Nat} (h : i ≤ l.length) : sliceD (.str (mkS l)) none (some (i : Int)) = if l.length ≤ 16777216 then some (.str (mkS (l.take i))) else none := by
  simp only [sliceD, mkS_len]
  congr 3
  unfold cutS HT.sIx
  simp only [mkS_len, show ¬ ((i : Int) < 0) by omega, if_false]
  rw [show min (i : Int).toNat l.length = i by simp; omega]
  simp [mkS]
theorem cut_of {l : List Nat} {a b : Nat} (h : b ≤ l.length) (q : a ≤ b) : sliceD (.str (mkS l)) (some (a : Int)) (some (b : Int)) = if l.length ≤ 16777216 then some (.str (mkS ((l.drop a).take (b - a)))) else none := by
  simp only [sliceD, mkS_len]
  congr 3
  unfold cutS HT.sIx
  simp only [mkS_len, show ¬ ((b : Int) < 0) by omega, show ¬ ((a : Int) < 0) by omega, if_false]
  rw [show min (b : Int).toNat l.length = b by simp; omega, show min (a : Int).toNat l.length = a by simp; omega]
  simp [mkS]
theorem letters_len : lettersL.length = 26 := by decide +kernel
theorem letters_at : ∀ i : Nat, i < 26 → lettersL.cps.toList[i]? = some (97 + i) := by decide +kernel
theorem letter_ix {i : Nat} (h : i < 26) : ixD (.str lettersL) (.int (i : Int)) = some (.str (mkS [97 + i])) := by
  have hl : lettersL.cps.toList.length = 26 := by decide +kernel
  have e : atI lettersL.cps.toList (i : Int) = some (97 + i) := by
    unfold atI
    rw [ixN_pos (by omega) (by omega)]
    simpa using letters_at i h
  simp only [ixD, letters_len, e]
  rfl
/-! ### pure words -/
def base (s : Nat) : List Nat := (List.range 8).map fun j => 97 + (s + 5 * j) % 26
def wordL (s way z a : Nat) (m : Nat) (p : Nat) : List Nat := if way = 3 then m :: (base s).take p else (base s).take a ++ [m] ++ ((base s).drop (a + 1)).take (z - (a + 1))
def mark (s t k : Nat) : Nat := 97 + (s + t * k) % 26
def wordK (s way z a t k : Nat) : List Nat := wordL s way z a (mark s t k) (k * t % 6)
def barsC : List (List Nat) := [[115, 116, 111, 112], [115, 112, 105, 110], [111, 117, 116], [111, 119, 110], [98, 101, 115, 105, 100, 101], [104, 105, 100, 101], [97, 115]]
theorem barsC_eq : barsL.map (fun x => x.cps.toList) = barsC := by decide +kernel
def repL (w : List Nat) : List Nat := if barsC.contains w then [122, 122] ++ w.take 1 ++ [122] else w
theorem base_len (s : Nat) : (base s).length = 8 := by simp [base]
theorem base_low {s c : Nat} (h : c ∈ base s) : 97 ≤ c ∧ c ≤ 122 := by
  simp only [base, List.mem_map] at h
  obtain ⟨j, _, rfl⟩ := h
  omega
theorem wordL_low {s way z a m p c : Nat} (hm : 97 ≤ m ∧ m ≤ 122) (h : c ∈ wordL s way z a m p) : 97 ≤ c ∧ c ≤ 122 := by
  unfold wordL at h
  split at h
  · rcases List.mem_cons.mp h with rfl | h
    · exact hm
    · exact base_low (List.mem_of_mem_take h)
  · rcases List.mem_append.mp h with h | h
    · rcases List.mem_append.mp h with h | h
      · exact base_low (List.mem_of_mem_take h)
      · simp at h; omega
    · exact base_low (List.mem_of_mem_drop (List.mem_of_mem_take h))
theorem wordL_len {s way z a m p : Nat} (hz : 1 ≤ z) (hz6 : z ≤ 6) (ha : a < z) (hp : p < 6) : 1 ≤ (wordL s way z a m p).length ∧ (wordL s way z a m p).length ≤ 6 ∧ (way = 3 → (wordL s way z a m p).length = p + 1) ∧ (¬ way = 3 → (wordL s way z a m p).length = z) := by
  unfold wordL
  split
  · rename_i h
    simp [base_len, h]
    omega
  · rename_i h
    simp [base_len, h]
    omega
def chk3 : Bool := (List.range 26).all fun s => (List.range 26).all fun m => (List.range 6).all fun p => !barsC.contains (wordL s 3 1 0 (97 + m) p) || (wordL s 3 1 0 (97 + m) p == [97, 115])
theorem chk3_ok : chk3 = true := by decide +kernel
def chk0 : Bool := (List.range 26).all fun s => (List.range 26).all fun m => (List.range 7).all fun z => (List.range z).all fun a => !barsC.contains (wordL s 0 z a (97 + m) 0) || (wordL s 0 z a (97 + m) 0 == [97, 115])
theorem chk0_ok : chk0 = true := by decide +kernel
theorem wordL_bar {s way z a m p : Nat} (hs : s < 26) (hm : m < 26) (hz6 : z ≤ 6) (ha : a < z) (hp : p < 6) (h : barsC.contains (wordL s way z a (97 + m) p) = true) : wordL s way z a (97 + m) p = [97, 115] := by
  by_cases hw : way = 3
  · subst hw
    have e : wordL s 3 z a (97 + m) p = wordL s 3 1 0 (97 + m) p := by simp [wordL]
    rw [e] at h ⊢
    have := chk3_ok
    unfold chk3 at this
    rw [List.all_eq_true] at this
    have := this s (by simpa using hs)
    rw [List.all_eq_true] at this
    have := this m (by simpa using hm)
    rw [List.all_eq_true] at this
    have := this p (by simpa using hp)
    rw [h] at this
    simpa using this
  · have e : wordL s way z a (97 + m) p = wordL s 0 z a (97 + m) 0 := by simp [wordL, hw]
    rw [e] at h ⊢
    have := chk0_ok
    unfold chk0 at this
    rw [List.all_eq_true] at this
    have := this s (by simpa using hs)
    rw [List.all_eq_true] at this
    have := this m (by simpa using hm)
    rw [List.all_eq_true] at this
    have := this z (by simp; omega)
    rw [List.all_eq_true] at this
    have := this a (by simpa using ha)
    rw [h] at this
    simpa using this
theorem wordL_mark {s way z a m m' p p' : Nat} (ha : a < z) (hz6 : z ≤ 6) (h : wordL s way z a m p = wordL s way z a m' p') : m = m' := by
  unfold wordL at h
  split at h
  · exact (List.cons.inj h).1
  · simp only [List.append_assoc] at h
    have := List.append_cancel_left h
    exact (List.cons.inj this).1
def strides : List Nat := [1, 3, 7, 11, 17, 25]
theorem mark_inj {s t k k' : Nat} (ht : t ∈ strides) (hk : k < 12) (hk' : k' < 12) (h : mark s t k = mark s t k') : k = k' := by
  unfold mark at h
  simp only [strides, List.mem_cons, List.not_mem_nil, or_false] at ht
  rcases ht with rfl | rfl | rfl | rfl | rfl | rfl <;> omega
theorem base_head (s : Nat) : (base s)[0]? = some (97 + s % 26) := by simp [base]
theorem repK_inj {s way z a t k k' : Nat} (hs : s < 26) (hz : 1 ≤ z) (hz6 : z ≤ 6) (ha : a < z) (ht : t ∈ strides) (hk : k < 12) (hk' : k' < 12) (h : repL (wordK s way z a t k) = repL (wordK s way z a t k')) : k = k' := by
  have key : ∀ i, barsC.contains (wordK s way z a t i) = true → wordK s way z a t i = [97, 115] := fun i q => by
    unfold wordK mark at q ⊢
    exact wordL_bar hs (Nat.mod_lt _ (by omega)) hz6 ha (Nat.mod_lt _ (by omega)) q
  have lens : ∀ i, (way = 3 → (wordK s way z a t i).length = i * t % 6 + 1) ∧ (¬ way = 3 → (wordK s way z a t i).length = z) := fun i => (wordL_len hz hz6 ha (Nat.mod_lt _ (by omega))).2.2
  have no : ∀ i j, wordK s way z a t i = [97, 115] → wordK s way z a t j = [122, 122, 97, 122] → False := fun i j h1 h2 => by
    by_cases hw : way = 3
    · subst hw
      have a1 : ((wordK s 3 z a t i)[1]?) = some 115 := by rw [h1]; rfl
      have a2 : ((wordK s 3 z a t j)[1]?) = some 122 := by rw [h2]; rfl
      have l1 := (lens i).1 rfl
      have l2 := (lens j).1 rfl
      rw [h1] at l1
      rw [h2] at l2
      simp at l1 l2
      unfold wordK wordL at a1 a2
      simp only [if_true, List.getElem?_cons_succ] at a1 a2
      rw [List.getElem?_take, if_pos (by omega), base_head] at a1 a2
      simp at a1 a2
      omega
    · have l1 := (lens i).2 hw
      have l2 := (lens j).2 hw
      rw [h1] at l1
      rw [h2] at l2
      simp at l1 l2
      omega
  have rz : ∀ i, barsC.contains (wordK s way z a t i) = true → repL (wordK s way z a t i) = [122, 122, 97, 122] := fun i q => by
    unfold repL
    rw [if_pos q, key i q]
    rfl
  cases h1 : barsC.contains (wordK s way z a t k) with
  | true =>
    cases h2 : barsC.contains (wordK s way z a t k') with
    | true =>
      have := (key k h1).trans (key k' h2).symm
      exact mark_inj ht hk hk' (wordL_mark ha hz6 this)
    | false =>
      rw [rz k h1] at h
      unfold repL at h
      rw [if_neg (by rw [h2]; exact Bool.false_ne_true)] at h
      exact (no k k' (key k h1) h.symm).elim
  | false =>
    cases h2 : barsC.contains (wordK s way z a t k') with
    | true =>
      rw [rz k' h2] at h
      unfold repL at h
      rw [if_neg (by rw [h1]; exact Bool.false_ne_true)] at h
      exact (no k' k (key k' h2) h).elim
    | false =>
      unfold repL at h
      rw [if_neg (by rw [h1]; exact Bool.false_ne_true), if_neg (by rw [h2]; exact Bool.false_ne_true)] at h
      exact mark_inj ht hk hk' (wordL_mark ha hz6 h)
theorem low_in : ∀ c : Nat, c < 123 → 97 ≤ c → c ∈ lettersL.cps.toList := by decide +kernel
theorem bars_in (l : List Nat) : inF (.str (mkS l)) (barsL.map .str) = barsC.contains l := by
  have h1 : inF (.str (mkS l)) (barsL.map .str) = barsL.any fun y => decide (y = mkS l) := by
    unfold inF
    rw [List.any_map]
    rfl
  rw [h1, ← barsC_eq]
  have : ∀ L : List Str, (L.any fun y => decide (y = mkS l)) = (L.map fun x => x.cps.toList).contains l := fun L => by
    induction L with
    | nil => rfl
    | cons x L ih =>
      rw [List.any_cons, List.map_cons, List.contains_cons, ih]
      congr 1
      by_cases h : x = mkS l
      · subst h; simp [mkS]
      · have : ¬ l = x.cps.toList := fun z => h (by subst z; simp [mkS])
        simp [h, this]
  exact this barsL
theorem isW_mkS {l : List Nat} (h1 : 1 ≤ l.length) (h6 : l.length ≤ 6) (hc : ∀ c ∈ l, 97 ≤ c ∧ c ≤ 122) (hb : barsC.contains l = false) : isW (mkS l) = true := by
  unfold isW
  rw [bars_in, hb, mkS_len]
  simp only [h1, h6, and_self, decide_true, Bool.not_false, Bool.and_true, Bool.true_and]
  unfold lows
  rw [List.all_eq_true]
  intro c hx
  have := hc c (by simpa [mkS] using hx)
  simpa using low_in c (by omega) this.1
theorem zzaz_ok : isW (mkS [122, 122, 97, 122]) = true := by decide +kernel
theorem repK_isW {s way z a t k : Nat} (hs : s < 26) (hz : 1 ≤ z) (hz6 : z ≤ 6) (ha : a < z) : isW (mkS (repL (wordK s way z a t k))) = true := by
  have hp : k * t % 6 < 6 := Nat.mod_lt _ (by omega)
  have hm : (s + t * k) % 26 < 26 := Nat.mod_lt _ (by omega)
  cases hb : barsC.contains (wordK s way z a t k) with
  | true =>
    have e : wordK s way z a t k = [97, 115] := wordL_bar hs hm hz6 ha hp hb
    unfold repL
    rw [if_pos hb, e]
    exact zzaz_ok
  | false =>
    unfold repL
    rw [if_neg (by rw [hb]; exact Bool.false_ne_true)]
    obtain ⟨l1, l2, _⟩ := wordL_len (s := s) (way := way) (m := mark s t k) hz hz6 ha hp
    exact isW_mkS l1 l2 (fun c hc => wordL_low (by unfold mark; omega) hc) hb
def wordsF (s way z a t n : Nat) : List Str := (List.range n).map fun k => mkS (repL (wordK s way z a t k))
theorem wordsF_ok {s way z a t n : Nat} (hs : s < 26) (hz : 1 ≤ z) (hz6 : z ≤ 6) (ha : a < z) (ht : t ∈ strides) (hn : n ≤ 12) : (wordsF s way z a t n).length = n ∧ (∀ w ∈ wordsF s way z a t n, isW w = true) ∧ (wordsF s way z a t n).Nodup := by
  refine ⟨by simp [wordsF], fun w hw => ?_, ?_⟩
  · obtain ⟨k, _, rfl⟩ := List.mem_map.mp hw
    exact repK_isW hs hz hz6 ha
  · unfold wordsF
    unfold List.Nodup
    rw [List.pairwise_map, List.pairwise_iff_getElem]
    intro i j hi hj hij e
    simp only [List.length_range] at hi hj
    simp only [List.getElem_range] at e
    have := repK_inj hs hz hz6 ha ht (by omega) (by omega) (mkS_inj e)
    omega
end PL
/-! Q8: the drawn words, run -/
namespace PL
open PySem PySem.Spec L2 VI
theorem put_drop {e : VI.Env} {i : Nat} {d : D} : (e.drop i).put i d = e.put i d := by simp [Env.put, Env.drop]
theorem draw_call {f : List D → CRes} {n i : Nat} {d : D} {e : VI.Env} {m : Int} {fe : M D} (hf : DrawOk f) (hM : Ms (n + 1) d) (h : e.s[i]? = some (some d)) (he : fe e = .ok (.int m) e) (h1 : 0 < m) (h2 : m < 1073741824) :
    ∃ r d', callM f (narM i (argM fe (pur []))) e = .ok (.int (r : Nat)) (e.put i d') ∧ (r : Int) < m ∧ Ms n d' := by
  obtain ⟨r, d', q1, q2, q3, q4⟩ := hf n d m hM h1 h2
  obtain ⟨r, rfl⟩ := Int.eq_ofNat_of_zero_le q2
  refine ⟨r, d', ?_, q3, q4⟩
  simp [callM_ap, narM_ap, argM_ap, h, oslot_some, he, obind_ok, pur_ap, takeA, hM.own, otake_some, q1, ocres_ok, backA, put_drop]
theorem draw_call2 {f : List D → CRes} {n i j : Nat} {d : D} {e : VI.Env} {m : Int} (hf : DrawOk f) (hM : Ms (n + 1) d) (h : e.s[i]? = some (some d)) (hj : e.s[j]? = some (some (.int m))) (ne : i ≠ j) (h1 : 0 < m) (h2 : m < 1073741824) :
    ∃ r d', callM f (narM i (narM j (pur []))) e = .ok (.int (r : Nat)) (e.put i d') ∧ (r : Int) < m ∧ Ms n d' := by
  obtain ⟨r, d', q1, q2, q3, q4⟩ := hf n d m hM h1 h2
  obtain ⟨r, rfl⟩ := Int.eq_ofNat_of_zero_le q2
  refine ⟨r, d', ?_, q3, q4⟩
  have hj' : (e.drop i).s[j]? = some (some (.int m)) := by simp [Env.drop, List.getElem?_set_ne ne, hj]
  simp [callM_ap, narM_ap, h, hj, hj', oslot_some, obind_ok, pur_ap, takeA, hM.own, own_int, otake_some, q1, ocres_ok, backA, put_drop]
abbrev E15 (d N l z a t b f k bars s w m wd j : Option D) : VI.Env := ⟨[d, N, l, z, a, t, b, f, k, bars, s, w, m, wd, j], [true, false]⟩
theorem join_mk' : ∀ l : List Nat, Str.join "" (l.map fun c => mkS [c]) = mkS l
  | [] => by decide
  | [c] => rfl
  | c :: c2 :: r => by
    have ih := join_mk' (c2 :: r)
    have e0 : ("" : Str) = mkS [] := by decide
    simp only [List.map_cons] at ih ⊢
    rw [Str.join, ih, e0, mkS_app, mkS_app]
    · rfl
    · simp
theorem join_mk (l : List Nat) : Txt.join "" (l.map fun c => mkS [c]) = mkS l := by rw [TL.join_eq]; exact join_mk' l
theorem joinM_ap (fo fe : M D) (e : VI.Env) : joinM fo fe e = obind (fo e) fun d e1 => match d with | .str a => obind (fe e1) fun d2 e2 => oof (joinD a d2) e2 | _ => .err := by
  show obind (fo e) _ = _
  congr 1; funext d e1
  cases d with
  | str a =>
    show obind (fe e1) (fun d2 => ofO (joinD a d2)) = obind (fe e1) fun d2 e2 => oof (joinD a d2) e2
    congr 1; funext d2 e2
    cases joinD a d2 <;> rfl
  | _ => rfl
theorem o_join {fo fe : M D} {e e1 e2 : VI.Env} {a : Str} {d2 d : D} (ho : fo e = .ok (.str a) e1) (he : fe e1 = .ok d2 e2) (h : joinD a d2 = some d) : joinM fo fe e = .ok d e2 := by
  rw [joinM_ap, ho, obind_ok]
  dsimp only
  rw [he, obind_ok, h]
  rfl
theorem joinD_mk {l : List Nat} (h : l.length ≤ 1000) : joinD "" (.lst true (l.map fun c => .str (mkS [c]))) = some (.str (mkS l)) := by
  have e : strsD (l.map fun c => D.str (mkS [c])) = some (l.map fun c => mkS [c]) := by
    have := strsD_map (l.map fun c => mkS [c])
    rwa [List.map_map] at this
  have e2 : ∀ l : List Nat, ((l.map fun c => mkS [c]).map (·.length)).sum = l.length := fun l => by
    induction l with
    | nil => rfl
    | cons c l ih => simp only [List.map_cons, List.sum_cons, ih, mkS_len]; simp; omega
  simp only [joinD, e, Option.bind_some, e2]
  rw [if_pos, join_mk]
  rw [show (Str.ofString "").length = 0 by decide]
  omega
theorem stride_ix {r : Nat} (h : r < 6) : ∃ t ∈ strides, ixD (.lst true [.int 1, .int 3, .int 7, .int 11, .int 17, .int 25]) (.int (r : Int)) = some (.int (t : Nat)) := by
  have : r = 0 ∨ r = 1 ∨ r = 2 ∨ r = 3 ∨ r = 4 ∨ r = 5 := by omega
  rcases this with rfl | rfl | rfl | rfl | rfl | rfl
  · exact ⟨1, by decide, by rfl⟩
  · exact ⟨3, by decide, by rfl⟩
  · exact ⟨7, by decide, by rfl⟩
  · exact ⟨11, by decide, by rfl⟩
  · exact ⟨17, by decide, by rfl⟩
  · exact ⟨25, by decide, by rfl⟩
theorem stride_small {t : Nat} (h : t ∈ strides) : 0 < t ∧ t < 26 := by
  simp only [strides, List.mem_cons, List.not_mem_nil, or_false] at h
  omega
theorem nin_bars (l : List Nat) : ninD (.str (mkS l)) (.lst true [.str "stop", .str "spin", .str "out", .str "own", .str "beside", .str "hide", .str "as"]) = some (.bl (!barsC.contains l)) := by
  have h := bars_in l
  have e : inD (.str (mkS l)) (.lst true [.str "stop", .str "spin", .str "out", .str "own", .str "beside", .str "hide", .str "as"]) = some (.bl (inF (.str (mkS l)) (barsL.map .str))) := by simp [inD, inFD, flatD, barsL]
  unfold ninD
  rw [e, h]
  rfl
theorem words_base {d5 : D} {N s w z a t : Nat} : compM [14] (range1I (pur (.int 8))) (gnM 14) (pur true) (twoM true (varM 2) (twoM true (twoM true (varM 10) (twoM true (pur (.int 5)) (varM 14) mulD) addD) (pur (.int 26)) modD) ixD) (E15 (some d5) (some (.int (N : Nat))) (some (.str lettersL)) (some (.int (1 + z : Nat))) (some (.int (a : Nat))) (some (.int (t : Nat))) none none none none (some (.int (s : Nat))) (some (.int (w : Nat))) none none none) = .ok (.lst true ((base s).map fun c => D.str (mkS [c]))) (E15 (some d5) (some (.int (N : Nat))) (some (.str lettersL)) (some (.int (1 + z : Nat))) (some (.int (a : Nat))) (some (.int (t : Nat))) none none none none (some (.int (s : Nat))) (some (.int (w : Nat))) none none none) := by
  have c1 := comp1 (v := 14) (fi := range1I (pur (.int 8))) (fe := twoM true (varM 2) (twoM true (twoM true (varM 10) (twoM true (pur (.int 5)) (varM 14) mulD) addD) (pur (.int 26)) modD) ixD) (env := E15 (some d5) (some (.int (N : Nat))) (some (.str lettersL)) (some (.int (1 + z : Nat))) (some (.int (a : Nat))) (some (.int (t : Nat))) none none none none (some (.int (s : Nat))) (some (.int (w : Nat))) none none none) (e := E15 (some d5) (some (.int (N : Nat))) (some (.str lettersL)) (some (.int (1 + z : Nat))) (some (.int (a : Nat))) (some (.int (t : Nat))) none none none none (some (.int (s : Nat))) (some (.int (w : Nat))) none none none) (ds := rangeD 0 8) (fun d => match d with | .int j => .str (mkS [97 + (s + 5 * j.toNat) % 26]) | d => d)
    (by simp [range1I, bnd, pur, small62]) (.inl rfl) (by simp) (fun d hd => by
      obtain ⟨j, hj⟩ := List.mem_iff_getElem?.mp hd
      obtain ⟨rfl, hj8⟩ := rangeD_get hj
      refine ⟨rfl, ?_⟩
      have em : ((s : Int) + 5 * (0 + (j : Int))) % 26 = (((s + 5 * j) % 26 : Nat) : Int) := by omega
      have hx := letter_ix (i := (s + 5 * j) % 26) (Nat.mod_lt _ (by omega))
      simp [runB_ap, orun, env0, finL, obind_ok, obind_exc, oof_some, obool_bl, oslot_some, bnd_ap, pur_ap, varM_ap, keepM_ap, moveM_ap, plainM_ap, twoM_ap, oneM_ap, boolM_ap, andM_ap, orM_ap, notM_ap, andD_ap, orD_ap, notD_ap, iteM_ap, consM_ap, tupM_ap, lstM_ap, argM_ap, narM_ap, otake_some, ocres_ok, ocres_exc, callM_ap, exprM_ap, oput, asgM_ap, retM_ap, oseq_nx, oseq_rt, oseq_bk, oseq_ct, seqM_ap, raiseM_ap, seqI_ap, forS_ap, chainM_ap, partM_ap, sliceM_ap, asgtM_ap, takeA, backA, Env.put, Env.drop, own_non, own_bl, own_int, own_str, own_tup, own_lst, own_dct, own_exc, owns_nil, owns_cons, List.replicate, Bool.or_false, Bool.false_or, Bool.or_true, Bool.true_or, mulD_l, addD_i, modD_p]
      rw [show ((s : Int) + 5 * (j : Int)) % 26 = (((s + 5 * j) % 26 : Nat) : Int) by omega, hx]
      rfl) (by rw [rangeD_len]; decide)
  have c2 : (rangeD 0 8).map (fun d => match d with | .int j => .str (mkS [97 + (s + 5 * j.toNat) % 26]) | d => d) = (base s).map fun c => D.str (mkS [c]) := by
    unfold rangeD base
    rw [List.map_map, List.map_map]
    apply List.map_congr_left
    intro k _
    simp
  rw [c2] at c1
  exact c1
theorem loop_mark {d5 : D} {N s w z a t j : Nat} {B : List Nat} {W : List D} {y : Option D} (t1 : t < 26) : asgM 12 (twoM true (varM 2) (twoM true (twoM true (varM 10) (twoM true (varM 5) (varM 8) mulD) addD) (pur (.int 26)) modD) ixD) (E15 (some d5) (some (.int (N : Nat))) (some (.str lettersL)) (some (.int (1 + z : Nat))) (some (.int (a : Nat))) (some (.int (t : Nat))) (some (.str (mkS B))) (some (.lst true W)) (some (.int (j : Nat))) none (some (.int (s : Nat))) (some (.int (w : Nat))) y none none) = .ok .nx (E15 (some d5) (some (.int (N : Nat))) (some (.str lettersL)) (some (.int (1 + z : Nat))) (some (.int (a : Nat))) (some (.int (t : Nat))) (some (.str (mkS B))) (some (.lst true W)) (some (.int (j : Nat))) none (some (.int (s : Nat))) (some (.int (w : Nat))) (some (.str (mkS [mark s t j]))) none none) := by
  have hm : ((s : Int) + (t : Int) * (j : Int)) % 26 = (((s + t * j) % 26 : Nat) : Int) := by push_cast; rfl
  have hx := letter_ix (i := (s + t * j) % 26) (Nat.mod_lt _ (by omega))
  have ml : mulD (.int (t : Int)) (.int (j : Int)) = some (.int ((t : Int) * (j : Int))) := mulD_l (by omega) (by omega)
  have md := modD_p (i := (s : Int) + (t : Int) * (j : Int)) (show (0 : Int) < 26 by decide)
  rw [hm] at md
  exact o_asg (o_two (o_var rfl) (o_two (o_two (o_var rfl) (o_two (o_var rfl) (o_var rfl) ml) (addD_i _ _)) o_pur md) hx) (by simp) (by simp)
theorem loop_a3 {d5 : D} {N s w z a t j : Nat} {B : List Nat} {W : List D} (hB : B.length = 8) (t1 : t < 26) : (consM (twoM true (varM 12) (sliceM true (varM 6) (pur none) (partM (twoM true (twoM true (varM 8) (varM 5) mulD) (pur (.int 6)) modD))) addD) (pur [])) (E15 (some d5) (some (.int (N : Nat))) (some (.str lettersL)) (some (.int (1 + z : Nat))) (some (.int (a : Nat))) (some (.int (t : Nat))) (some (.str (mkS B))) (some (.lst true W)) (some (.int (j : Nat))) none (some (.int (s : Nat))) (some (.int (w : Nat))) (some (.str (mkS [mark s t j]))) none none) = .ok [.str (mkS (mark s t j :: B.take (j * t % 6)))] (E15 (some d5) (some (.int (N : Nat))) (some (.str lettersL)) (some (.int (1 + z : Nat))) (some (.int (a : Nat))) (some (.int (t : Nat))) (some (.str (mkS B))) (some (.lst true W)) (some (.int (j : Nat))) none (some (.int (s : Nat))) (some (.int (w : Nat))) (some (.str (mkS [mark s t j]))) none none) := by
  have hp6 : ((j : Int) * (t : Int)) % 6 = ((j * t % 6 : Nat) : Int) := by push_cast; rfl
  have ml : mulD (.int (j : Int)) (.int (t : Int)) = some (.int ((j : Int) * (t : Int))) := mulD_r (by omega) (by omega)
  have md := modD_p (i := (j : Int) * (t : Int)) (show (0 : Int) < 6 by decide)
  rw [hp6] at md
  have cs := cut_to (l := B) (i := j * t % 6) (by have := Nat.mod_lt (j * t) (show 6 > 0 by decide); omega)
  rw [if_pos (by omega)] at cs
  have ad := add_mkS (a := [mark s t j]) (b := B.take (j * t % 6)) (by simp; omega)
  exact o_cons (o_two (o_var rfl) (o_slice (o_var rfl) o_pur (o_part (o_two (o_two (o_var rfl) (o_var rfl) ml) o_pur md)) cs) ad) o_pur
theorem loop_a0 {d5 : D} {N s w z a t j : Nat} {B : List Nat} {W : List D} (hB : B.length = 8) (b3 : z < 6) (b4 : a < 1 + z) : (consM (twoM true (twoM true (sliceM true (varM 6) (pur none) (partM (varM 4))) (varM 12) addD) (sliceM true (varM 6) (partM (twoM true (varM 4) (pur (.int 1)) addD)) (partM (varM 3))) addD) (pur [])) (E15 (some d5) (some (.int (N : Nat))) (some (.str lettersL)) (some (.int (1 + z : Nat))) (some (.int (a : Nat))) (some (.int (t : Nat))) (some (.str (mkS B))) (some (.lst true W)) (some (.int (j : Nat))) none (some (.int (s : Nat))) (some (.int (w : Nat))) (some (.str (mkS [mark s t j]))) none none) = .ok [.str (mkS (B.take a ++ [mark s t j] ++ (B.drop (a + 1)).take (1 + z - (a + 1))))] (E15 (some d5) (some (.int (N : Nat))) (some (.str lettersL)) (some (.int (1 + z : Nat))) (some (.int (a : Nat))) (some (.int (t : Nat))) (some (.str (mkS B))) (some (.lst true W)) (some (.int (j : Nat))) none (some (.int (s : Nat))) (some (.int (w : Nat))) (some (.str (mkS [mark s t j]))) none none) := by
  have ha1 : addD (.int (a : Int)) (.int 1) = some (.int ((a + 1 : Nat) : Int)) := by rw [addD_i]; rfl
  have cs := cut_to (l := B) (i := a) (by omega)
  rw [if_pos (by omega)] at cs
  have cs2 := cut_of (l := B) (a := a + 1) (b := 1 + z) (by omega) (by omega)
  rw [if_pos (by omega)] at cs2
  have ad := add_mkS (a := B.take a) (b := [mark s t j]) (by simp; omega)
  have ad2 := add_mkS (a := B.take a ++ [mark s t j]) (b := (B.drop (a + 1)).take (1 + z - (a + 1))) (by simp; omega)
  exact o_cons (o_two (o_two (o_slice (o_var rfl) o_pur (o_part (o_var rfl)) cs) (o_var rfl) ad) (o_slice (o_var rfl) (o_part (o_two (o_var rfl) o_pur ha1)) (o_part (o_var rfl)) cs2) ad2) o_pur
theorem words_loop {d5 : D} {N s w z a t : Nat} (hN : N ≤ 12) (b3 : z < 6) (b4 : a < 1 + z) (t0 : 0 < t) (t1 : t < 26) : ∃ x y, VI.forM (gnM 8) (seqM (asgM 12 (twoM true (varM 2) (twoM true (twoM true (varM 10) (twoM true (varM 5) (varM 8) mulD) addD) (pur (.int 26)) modD) ixD))
    (iteM (boolM (twoM true (varM 11) (pur (.int 3)) eqD)) (exprM (mthM 7 "list" appendG (rootM 7) (consM (twoM true (varM 12) (sliceM true (varM 6) (pur none) (partM (twoM true (twoM true (varM 8) (varM 5) mulD) (pur (.int 6)) modD))) addD) (pur [])))) (exprM (mthM 7 "list" appendG (rootM 7) (consM (twoM true (twoM true (sliceM true (varM 6) (pur none) (partM (varM 4))) (varM 12) addD) (sliceM true (varM 6) (partM (twoM true (varM 4) (pur (.int 1)) addD)) (partM (varM 3))) addD) (pur [])))))) (rangeD 0 N) (E15 (some d5) (some (.int (N : Nat))) (some (.str lettersL)) (some (.int (1 + z : Nat))) (some (.int (a : Nat))) (some (.int (t : Nat))) (some (.str (mkS (base s)))) (some (.lst true [])) none none (some (.int (s : Nat))) (some (.int (w : Nat))) none none none) = .ok .nx (E15 (some d5) (some (.int (N : Nat))) (some (.str lettersL)) (some (.int (1 + z : Nat))) (some (.int (a : Nat))) (some (.int (t : Nat))) (some (.str (mkS (base s)))) (some (.lst true ((List.range N).map fun k => D.str (mkS (wordK s w (1 + z) a t k))))) x none (some (.int (s : Nat))) (some (.int (w : Nat))) y none none) := by
  let P : Nat → VI.Env → Prop := fun i e => ∃ x y, e = E15 (some d5) (some (.int (N : Nat))) (some (.str lettersL)) (some (.int (1 + z : Nat))) (some (.int (a : Nat))) (some (.int (t : Nat))) (some (.str (mkS (base s)))) (some (.lst true ((List.range i).map fun k => D.str (mkS (wordK s w (1 + z) a t k))))) x none (some (.int (s : Nat))) (some (.int (w : Nat))) y none none
  obtain ⟨e2, s2, x2, y2, rfl⟩ := forM_run (gt := gnM 8) (fb := (seqM (asgM 12 (twoM true (varM 2) (twoM true (twoM true (varM 10) (twoM true (varM 5) (varM 8) mulD) addD) (pur (.int 26)) modD) ixD))
    (iteM (boolM (twoM true (varM 11) (pur (.int 3)) eqD)) (exprM (mthM 7 "list" appendG (rootM 7) (consM (twoM true (varM 12) (sliceM true (varM 6) (pur none) (partM (twoM true (twoM true (varM 8) (varM 5) mulD) (pur (.int 6)) modD))) addD) (pur [])))) (exprM (mthM 7 "list" appendG (rootM 7) (consM (twoM true (twoM true (sliceM true (varM 6) (pur none) (partM (varM 4))) (varM 12) addD) (sliceM true (varM 6) (partM (twoM true (varM 4) (pur (.int 1)) addD)) (partM (varM 3))) addD) (pur []))))))) P (rangeD 0 N) 0 (E15 (some d5) (some (.int (N : Nat))) (some (.str lettersL)) (some (.int (1 + z : Nat))) (some (.int (a : Nat))) (some (.int (t : Nat))) (some (.str (mkS (base s)))) (some (.lst true [])) none none (some (.int (s : Nat))) (some (.int (w : Nat))) none none none) ⟨_, _, rfl⟩
    (fun j dd e hd hp => by
      obtain ⟨x, y, rfl⟩ := hp
      obtain ⟨rfl, hj⟩ := rangeD_get hd
      simp only [Int.zero_add, Nat.zero_add]
      have q1 := loop_mark (d5 := d5) (N := N) (s := s) (w := w) (z := z) (a := a) (t := t) (j := j) (B := base s) (W := ((List.range j).map fun k => D.str (mkS (wordK s w (1 + z) a t k)))) (y := y) t1
      refine ⟨rfl, E15 (some d5) (some (.int (N : Nat))) (some (.str lettersL)) (some (.int (1 + z : Nat))) (some (.int (a : Nat))) (some (.int (t : Nat))) (some (.str (mkS (base s)))) (some (.lst true ((List.range j).map fun k => D.str (mkS (wordK s w (1 + z) a t k))))) (some (.int (j : Nat))) none (some (.int (s : Nat))) (some (.int (w : Nat))) y none none, E15 (some d5) (some (.int (N : Nat))) (some (.str lettersL)) (some (.int (1 + z : Nat))) (some (.int (a : Nat))) (some (.int (t : Nat))) (some (.str (mkS (base s)))) (some (.lst true ((List.range (j + 1)).map fun k => D.str (mkS (wordK s w (1 + z) a t k))))) (some (.int (j : Nat))) none (some (.int (s : Nat))) (some (.int (w : Nat))) (some (.str (mkS [mark s t j]))) none none, by simp [gnM, Env.put], ?_, (some (.int (j : Nat))), (some (.str (mkS [mark s t j]))), rfl⟩
      have er : ((List.range (j + 1)).map fun k => D.str (mkS (wordK s w (1 + z) a t k))) = ((List.range j).map fun k => D.str (mkS (wordK s w (1 + z) a t k))) ++ [D.str (mkS (wordK s w (1 + z) a t j))] := by
        rw [List.range_succ, List.map_append]
        rfl
      refine o_seq q1 ?_
      by_cases hw : w = 3
      · have ap := append_ap (i := 7) (W := ((List.range j).map fun k => D.str (mkS (wordK s w (1 + z) a t k)))) rfl (loop_a3 (d5 := d5) (N := N) (s := s) (w := w) (z := z) (a := a) (t := t) (j := j) (W := ((List.range j).map fun k => D.str (mkS (wordK s w (1 + z) a t k)))) (base_len s) t1) rfl (by simp; omega)
        refine o_iteT (o_bool (o_two (o_var rfl) o_pur (by rw [eqD_i, decide_eq_true (show (w : Int) = 3 by omega)]))) (o_expr (d := .non) (ap.trans ?_))
        rw [er]
        unfold wordK wordL
        rw [if_pos hw]
        rfl
      · have ap := append_ap (i := 7) (W := ((List.range j).map fun k => D.str (mkS (wordK s w (1 + z) a t k)))) rfl (loop_a0 (d5 := d5) (N := N) (s := s) (w := w) (z := z) (a := a) (t := t) (j := j) (W := ((List.range j).map fun k => D.str (mkS (wordK s w (1 + z) a t k)))) (base_len s) b3 b4) rfl (by simp; omega)
        refine o_iteF (o_bool (o_two (o_var rfl) o_pur (by rw [eqD_i, decide_eq_false (show ¬ (w : Int) = 3 by omega)]))) (o_expr (d := .non) (ap.trans ?_))
        rw [er]
        have e2 : wordK s w (1 + z) a t j = (base s).take a ++ [mark s t j] ++ ((base s).drop (a + 1)).take (1 + z - (a + 1)) := by
          unfold wordK wordL
          rw [if_neg hw]
        rw [e2]
        rfl)
  simp only [Nat.zero_add, rangeD_len, Int.sub_zero, Int.toNat_natCast] at s2
  exact ⟨_, _, s2⟩
theorem words_end {d5 : D} {N s w z a t : Nat} {x2 y2 : Option D} (hN : N ≤ 12) (b3 : z < 6) (b4 : a < 1 + z) : compM [13] (seqI (varM 7)) (gnM 13) (pur true) (iteM (boolM (twoM true (varM 13) (varM 9) ninD)) (keepM 13) (twoM true (twoM true (pur (.str "zz")) (sliceM true (varM 13) (pur none) (partM (pur (.int 1)))) addD) (pur (.str "z")) addD)) (E15 (some d5) (some (.int (N : Nat))) (some (.str lettersL)) (some (.int (1 + z : Nat))) (some (.int (a : Nat))) (some (.int (t : Nat))) (some (.str (mkS (base s)))) (some (.lst true ((List.range N).map fun k => D.str (mkS (wordK s w (1 + z) a t k))))) x2 (some (.lst true [.str "stop", .str "spin", .str "out", .str "own", .str "beside", .str "hide", .str "as"])) (some (.int (s : Nat))) (some (.int (w : Nat))) y2 none none) = .ok (.lst true ((wordsF s w (1 + z) a t N).map D.str)) (E15 (some d5) (some (.int (N : Nat))) (some (.str lettersL)) (some (.int (1 + z : Nat))) (some (.int (a : Nat))) (some (.int (t : Nat))) (some (.str (mkS (base s)))) (some (.lst true ((List.range N).map fun k => D.str (mkS (wordK s w (1 + z) a t k))))) x2 (some (.lst true [.str "stop", .str "spin", .str "out", .str "own", .str "beside", .str "hide", .str "as"])) (some (.int (s : Nat))) (some (.int (w : Nat))) y2 none none) := by
  -- the end
  have c3 := comp1 (v := 13) (fi := seqI (varM 7)) (fe := iteM (boolM (twoM true (varM 13) (varM 9) ninD)) (keepM 13) (twoM true (twoM true (pur (.str "zz")) (sliceM true (varM 13) (pur none) (partM (pur (.int 1)))) addD) (pur (.str "z")) addD))
    (env := E15 (some d5) (some (.int (N : Nat))) (some (.str lettersL)) (some (.int (1 + z : Nat))) (some (.int (a : Nat))) (some (.int (t : Nat))) (some (.str (mkS (base s)))) (some (.lst true ((List.range N).map fun k => D.str (mkS (wordK s w (1 + z) a t k))))) x2 (some (.lst true [.str "stop", .str "spin", .str "out", .str "own", .str "beside", .str "hide", .str "as"])) (some (.int (s : Nat))) (some (.int (w : Nat))) y2 none none)
    (e := E15 (some d5) (some (.int (N : Nat))) (some (.str lettersL)) (some (.int (1 + z : Nat))) (some (.int (a : Nat))) (some (.int (t : Nat))) (some (.str (mkS (base s)))) (some (.lst true ((List.range N).map fun k => D.str (mkS (wordK s w (1 + z) a t k))))) x2 (some (.lst true [.str "stop", .str "spin", .str "out", .str "own", .str "beside", .str "hide", .str "as"])) (some (.int (s : Nat))) (some (.int (w : Nat))) y2 none none)
    (ds := (List.range N).map fun k => D.str (mkS (wordK s w (1 + z) a t k))) (fun d => match d with | .str x => .str (mkS (repL x.cps.toList)) | d => d)
    (by
      have : D.owns ((List.range N).map fun k => D.str (mkS (wordK s w (1 + z) a t k))) = false := owns_map _ (fun _ => rfl) _
      simp only [seqI_ap, varM_ap, List.getElem?_cons_succ, List.getElem?_cons_zero, oslot_some, obind_ok, itemsD, this, Bool.false_eq_true, if_false, oof_some]) (.inl rfl) (by simp) (fun d hd => by
      obtain ⟨k, hk, rfl⟩ := List.mem_map.mp hd
      refine ⟨rfl, ?_⟩
      have nb := nin_bars (wordK s w (1 + z) a t k)
      obtain ⟨l1, l2, _⟩ := wordL_len (s := s) (way := w) (z := 1 + z) (a := a) (m := mark s t k) (p := k * t % 6) (by omega) (by omega) (by omega) (Nat.mod_lt _ (by omega))
      change 1 ≤ (wordK s w (1 + z) a t k).length at l1
      change (wordK s w (1 + z) a t k).length ≤ 6 at l2
      generalize wordK s w (1 + z) a t k = l at *
      have hr : mkS (repL (mkS l).cps.toList) = mkS (repL l) := by simp [mkS]
      cases hb : barsC.contains l with
      | false =>
        rw [hb] at nb
        have e1 : repL l = l := by unfold repL; rw [if_neg (by rw [hb]; exact Bool.false_ne_true)]
        refine (o_iteT (o_bool (o_two (o_var rfl) (o_var rfl) nb)) (o_keep rfl rfl)).trans ?_
        show _ = Out.ok (D.str (mkS (repL (mkS l).cps.toList))) _
        rw [hr, e1]
      | true =>
        rw [hb] at nb
        have e1 : repL l = [122, 122] ++ l.take 1 ++ [122] := by unfold repL; rw [if_pos hb]
        have cs := cut_to (l := l) (i := 1) l1
        rw [if_pos (by omega)] at cs
        have z2 : ("zz" : Str) = mkS [122, 122] := by decide
        have z1 : ("z" : Str) = mkS [122] := by decide
        have ad := add_mkS (a := [122, 122]) (b := l.take 1) (by simp; omega)
        have ad2 := add_mkS (a := [122, 122] ++ l.take 1) (b := [122]) (by simp; omega)
        have ad' : addD (.str "zz") (.str (mkS (l.take 1))) = some (.str (mkS ([122, 122] ++ l.take 1))) := by rw [z2, ad]
        have ad2' : addD (.str (mkS ([122, 122] ++ l.take 1))) (.str "z") = some (.str (mkS ([122, 122] ++ l.take 1 ++ [122]))) := by rw [z1, ad2]
        refine (o_iteF (o_bool (o_two (o_var rfl) (o_var rfl) nb)) (o_two (o_two o_pur (o_slice (o_var rfl) o_pur (o_part o_pur) cs) ad') o_pur ad2')).trans ?_
        · show _ = Out.ok (D.str (mkS (repL (mkS l).cps.toList))) _
          rw [hr, e1]) (by simp; omega)
  have c4 : ((List.range N).map fun k => D.str (mkS (wordK s w (1 + z) a t k))).map (fun d => match d with | .str x => .str (mkS (repL x.cps.toList)) | d => d) = (wordsF s w (1 + z) a t N).map D.str := by
    unfold wordsF
    rw [List.map_map, List.map_map]
    apply List.map_congr_left
    intro k _
    simp [mkS]
  rw [c4] at c3
  exact c3
theorem words_run {f : List D → CRes} (hf : DrawOk f) {n N : Nat} {d : D} (hN : N ≤ 12) (hM : Ms (n + 5) d) :
    ∃ (ws : List Str) (d' : D), runB 15 (B__law_words f) [d, .int (N : Nat)] = .ok (.lst true (ws.map .str)) [d', .int (N : Nat)] ∧ ws.length = N ∧ (∀ w ∈ ws, isW w = true) ∧ ws.Nodup ∧ Ms n d' := by
  -- the draws
  obtain ⟨s, d1, a1, b1, M1⟩ := draw_call (i := 0) (e := E15 (some d) (some (.int (N : Nat))) (some (.str lettersL)) none none none none none none none none none none none none) (m := 26) (fe := pur (.int 26)) hf hM rfl rfl (by omega) (by omega)
  obtain ⟨w, d2, a2, b2, M2⟩ := draw_call (i := 0) (e := E15 (some d1) (some (.int (N : Nat))) (some (.str lettersL)) none none none none none none none none none none none none) (m := 4) (fe := pur (.int 4)) hf M1 rfl rfl (by omega) (by omega)
  obtain ⟨z, d3, a3, b3, M3⟩ := draw_call (i := 0) (e := E15 (some d2) (some (.int (N : Nat))) (some (.str lettersL)) none none none none none none none (some (.int (s : Nat))) (some (.int (w : Nat))) none none none) (m := 6) (fe := pur (.int 6)) hf M2 rfl rfl (by omega) (by omega)
  obtain ⟨a, d4, a4, b4, M4⟩ := draw_call2 (i := 0) (j := 3) (e := E15 (some d3) (some (.int (N : Nat))) (some (.str lettersL)) (some (.int (1 + z : Nat))) none none none none none none (some (.int (s : Nat))) (some (.int (w : Nat))) none none none) (m := ((1 + z : Nat) : Int)) hf M3 rfl rfl (by omega) (by omega) (by omega)
  obtain ⟨r, d5, a5, b5, M5⟩ := draw_call (i := 0) (e := E15 (some d4) (some (.int (N : Nat))) (some (.str lettersL)) (some (.int (1 + z : Nat))) (some (.int (a : Nat))) none none none none none (some (.int (s : Nat))) (some (.int (w : Nat))) none none none) (m := 6) (fe := pur (.int 6)) hf M4 rfl rfl (by omega) (by omega)
  obtain ⟨t, ht, hix⟩ := stride_ix (r := r) (by omega)
  obtain ⟨t0, t1⟩ := stride_small ht
  simp only [E15, Env.put, List.set_cons_zero] at a1 a2 a3 a4 a5
  have o0 := hM.own
  have e00 : env0 15 [d, .int (N : Nat)] = E15 (some d) (some (.int (N : Nat))) none none none none none none none none none none none none none := by simp [env0, o0, own_int, List.replicate]
  have c1 := words_base (d5 := d5) (N := N) (s := s) (w := w) (z := z) (a := a) (t := t)
  obtain ⟨x2, y2, s2⟩ := words_loop (d5 := d5) (N := N) (s := s) (w := w) (z := z) (a := a) (t := t) hN (by omega) (by omega) t0 t1
  have c3 := words_end (d5 := d5) (N := N) (s := s) (w := w) (z := z) (a := a) (t := t) (x2 := x2) (y2 := y2) hN (by omega) (by omega)
  obtain ⟨w1, w2, w3⟩ := wordsF_ok (s := s) (way := w) (z := 1 + z) (a := a) (t := t) (n := N) (by omega) (by omega) (by omega) (by omega) ht hN
  refine ⟨wordsF s w (1 + z) a t N, d5, ?_, w1, w2, w3, M5⟩
  have hs62 : small62 (N : Int) = true := by
    unfold small62
    rw [decide_eq_true (by omega), decide_eq_true (by omega)]
    rfl
  have rn : ∀ E : VI.Env, E.s[1]? = some (some (.int (N : Nat))) → range1I (varM 1) E = .ok (rangeD 0 N) E := fun E h => by
    unfold range1I
    rw [bnd_ap, o_var h, obind_ok]
    simp only [hs62, if_true]
    rfl
  have jn := joinD_mk (l := base s) (by rw [base_len]; decide)
  have e1 : addD (.int 1) (.int (z : Int)) = some (.int ((1 + z : Nat) : Int)) := by rw [addD_i, Int.natCast_add]; rfl
  have q1 : asgM 2 (pur (.str "abcdefghijklmnopqrstuvwxyz")) (E15 (some d) (some (.int (N : Nat))) none none none none none none none none none none none none none) = .ok .nx (E15 (some d) (some (.int (N : Nat))) (some (.str lettersL)) none none none none none none none none none none none none) := o_asg o_pur (by simp) (by simp)
  have q2 : asgtM (tupM (consM (callM f (narM 0 (argM (pur (.int 26)) (pur [])))) (consM (callM f (narM 0 (argM (pur (.int 4)) (pur [])))) (pur [])))) (gtM 2 (gconsM (gnM 10) (gconsM (gnM 11) (gnilM)))) (E15 (some d) (some (.int (N : Nat))) (some (.str lettersL)) none none none none none none none none none none none none) = .ok .nx (E15 (some d2) (some (.int (N : Nat))) (some (.str lettersL)) none none none none none none none (some (.int (s : Nat))) (some (.int (w : Nat))) none none none) := by
    rw [asgtM_ap, o_tup (o_cons a1 (o_cons a2 o_pur)), obind_ok]
    rfl
  rw [runB_ap, e00]
  unfold B__law_words
  rw [o_seq q1 (o_seq q2 (o_seq (o_as (o_two o_pur a3 e1) ) (o_seq (o_as a4 ) (o_seq (o_as (o_two (o_lst (o_cons o_pur (o_cons o_pur (o_cons o_pur (o_cons o_pur (o_cons o_pur (o_cons o_pur o_pur))))))) a5 hix) ) (o_seq (o_as (o_join o_pur c1 jn) ) (o_seq (o_as (o_lst o_pur) ) (o_seq (o_for (rn _ rfl) s2) (o_seq (o_as (o_lst (o_cons o_pur (o_cons o_pur (o_cons o_pur (o_cons o_pur (o_cons o_pur (o_cons o_pur (o_cons o_pur o_pur)))))))) ) (o_ret c3)))))))))]
  simp [orun, finL, M5.own, o0, own_int]
end PL
/-! Q9: drawn sets, pairs -/
namespace PL
open PySem PySem.Spec L2 VI
theorem compLoop_filt {gt : D → M Unit} {ft : M Bool} {fe : M D} {vs : List Nat} (P : Nat → List D → VI.Env → Prop) : ∀ (ds : List D) (i : Nat) (acc : List D) (env : VI.Env), P i acc env →
    (∀ j d acc e, ds[j]? = some d → P (i + j) acc e → d.own = false ∧ ∃ e1, gt d e = .ok () e1 ∧ ((∃ e2 e3 y, ft e1 = .ok true e2 ∧ fe e2 = .ok y e3 ∧ acc.length < 16777216 ∧ P (i + j + 1) (acc ++ [y]) (e3.dropL vs)) ∨ ∃ e2, ft e1 = .ok false e2 ∧ P (i + j + 1) acc (e2.dropL vs))) →
    ∃ out e', compLoop gt ft fe vs ds acc env = .ok out e' ∧ P (i + ds.length) out e'
  | [], i, acc, env, h, _ => ⟨acc, env, rfl, h⟩
  | d :: ds, i, acc, env, h, k => by
    obtain ⟨ho, e1, h1, hc⟩ := k 0 d acc env rfl h
    have next : ∀ acc' env', P (i + 1) acc' env' → ∃ out e', compLoop gt ft fe vs ds acc' env' = .ok out e' ∧ P (i + (d :: ds).length) out e' := fun acc' env' hp => by
      obtain ⟨out, e', q1, q2⟩ := compLoop_filt P ds (i + 1) acc' env' hp fun j x acc e hd hp => by
        have := k (j + 1) x acc e (by simpa using hd) (by rw [show i + (j + 1) = i + 1 + j by omega]; exact hp)
        rw [show i + (j + 1) + 1 = i + 1 + j + 1 by omega] at this
        exact this
      exact ⟨out, e', q1, by rw [List.length_cons, show i + (ds.length + 1) = i + 1 + ds.length by omega]; exact q2⟩
    rcases hc with ⟨e2, e3, y, h2, h3, h4, h5⟩ | ⟨e2, h2, h5⟩
    · obtain ⟨out, e', q1, q2⟩ := next _ _ h5
      refine ⟨out, e', ?_, q2⟩
      simp only [compLoop, h1, h2, h3, ho, if_pos h4, Bool.false_eq_true, if_false]
      exact q1
    · obtain ⟨out, e', q1, q2⟩ := next _ _ h5
      refine ⟨out, e', ?_, q2⟩
      simp only [compLoop, h1, h2, ho, Bool.false_eq_true, if_false]
      exact q1
theorem compM_filt {vs : List Nat} {fi : M (List D)} {gt : D → M Unit} {ft : M Bool} {fe : M D} {env e1 : VI.Env} {ds : List D} (P : Nat → List D → VI.Env → Prop) (h : fi env = .ok ds e1) (hs : savedOk e1 vs = true) (h0 : P 0 [] (e1.dropL vs))
    (k : ∀ j d acc e, ds[j]? = some d → P j acc e → d.own = false ∧ ∃ e1, gt d e = .ok () e1 ∧ ((∃ e2 e3 y, ft e1 = .ok true e2 ∧ fe e2 = .ok y e3 ∧ acc.length < 16777216 ∧ P (j + 1) (acc ++ [y]) (e3.dropL vs)) ∨ ∃ e2, ft e1 = .ok false e2 ∧ P (j + 1) acc (e2.dropL vs))) :
    ∃ out e', compM vs fi gt ft fe env = .ok (.lst true out) (e'.restL e1 vs) ∧ P ds.length out e' := by
  obtain ⟨out, e', q1, q2⟩ := compLoop_filt (gt := gt) (ft := ft) (fe := fe) (vs := vs) P ds 0 [] (e1.dropL vs) h0 (fun j d acc e hd hp => by
    have := k j d acc e hd (by simpa using hp)
    simpa using this)
  refine ⟨out, e', ?_, by simpa using q2⟩
  unfold compM bnd
  rw [h]
  simp only [hs, if_true, q1]
/-! sets -/
theorem risingB_of {l : List Str} (h : l.Pairwise fun a b => ltT a b = true) : risingB l = true := by
  unfold risingB
  cases l with
  | nil => rfl
  | cons x r =>
    simp only [List.drop_succ_cons, List.drop_zero]
    induction r generalizing x with
    | nil => rfl
    | cons y r ih =>
      obtain ⟨h1, h2⟩ := List.pairwise_cons.mp h
      rw [List.zip_cons_cons, List.all_cons, h1 y List.mem_cons_self, ih y h2]
      rfl
theorem sortS_strict {l : List Str} (n : l.Nodup) : (sortS l).Pairwise fun a b => ltT a b = true := by
  have h1 := sortB_pw ltT_as ltT_tr l
  have h2 : (sortS l).Nodup := (sortB_perm ltT l).nodup_iff.mpr n
  unfold List.Nodup at h2
  refine List.Pairwise.imp (fun {a b} hab => ?_) (h1.and h2)
  cases e : ltT a b with
  | true => rfl
  | false => exact absurd (ltT_an a b hab.1 e) hab.2
theorem sortS_mem {l : List Str} {x : Str} : x ∈ sortS l ↔ x ∈ l := (sortB_perm ltT l).mem_iff
theorem sortS_len (l : List Str) : (sortS l).length = l.length := (sortB_perm ltT l).length_eq
def words (ds : List Str) : Prop := (∀ w ∈ ds, isW w = true) ∧ ds.Nodup ∧ ds.length ≤ 8
theorem words_sub {ds L : List Str} (h : words ds) (s : L.Sublist ds) : words L := ⟨fun w hw => h.1 w (s.subset hw), h.2.1.sublist s, Nat.le_trans s.length_le h.2.2⟩
theorem okSet_sort {L : List Str} (h : words L) : okSet (sortS L) = true := by
  unfold okSet
  rw [risingB_of (sortS_strict h.2.1), sortS_len, decide_eq_true h.2.2]
  simp only [Bool.and_true, List.all_eq_true]
  exact fun w hw => h.1 w (sortS_mem.mp hw)
theorem sortTx (L : List Str) (h : L.length < 64) : sortedTx (.lst true (L.map .str)) = some (.lst true ((sortS L).map .str)) := by
  simp [sortedTx, strsD_map, h]
def lsD (o : Bool) (ds : List Str) : D := .lst o (ds.map .str)
theorem lsD_own (o : Bool) (ds : List Str) : (lsD o ds).own = o := by simp [lsD, own_lst, owns_strs]
theorem snoc_sub {ds L : List Str} {j : Nat} {x : Str} (s : L.Sublist (ds.take j)) (h : ds[j]? = some x) : (L ++ [x]).Sublist (ds.take (j + 1)) := by
  obtain ⟨hj, rfl⟩ := List.getElem?_eq_some_iff.mp h
  rw [List.take_succ_eq_append_getElem hj]
  exact s.append (List.Sublist.refl _)
theorem keep_sub {ds L : List Str} {j : Nat} (s : L.Sublist (ds.take j)) : L.Sublist (ds.take (j + 1)) := s.trans (List.take_sublist_take_left (Nat.le_succ j))
/-- some of the deeds, drawn -/
theorem some_drawn {f : List D → CRes} (hf : DrawOk f) {n : Nat} {ds : List Str} {o : Bool} {m : D} {s2 s3 : Option D} {v : Nat} (E : D → Option D → VI.Env) (hw : words ds) (hM : Ms (n + 8) m)
    (h0 : ∀ m x, (E m x).s[0]? = some (some m)) (h1 : ∀ m x, (E m x).s[1]? = some (some (lsD o ds))) (hv : ∀ m x, (E m x).s[v]? = some x) (hp : ∀ m x, (E m x).p[v]? ≠ some true) (hput : ∀ m m' x, (E m x).put 0 m' = E m' x) (hputv : ∀ m x d, (E m x).put v d = E m (some d)) (hdr : ∀ m x, (E m x).drop v = E m none) :
    ∃ (L : List Str) (m' : D), compM [v] (seqI (varM 1)) (gnM v) (boolM (twoM true (callM f (narM 0 (argM (pur (.int 2)) (pur [])))) (pur (.int 0)) eqD)) (keepM v) (E m none) = .ok (.lst true (L.map .str)) (E m' none) ∧ L.Sublist ds ∧ Ms n m' := by
  let P : Nat → List D → VI.Env → Prop := fun j acc e => ∃ (L : List Str) (m' : D), acc = L.map D.str ∧ L.Sublist (ds.take j) ∧ e = E m' none ∧ Ms (n + (8 - j)) m'
  obtain ⟨out, e', q1, L, m', rfl, q2, rfl, q3⟩ := compM_filt (vs := [v]) (fi := seqI (varM 1)) (gt := gnM v) (ft := boolM (twoM true (callM f (narM 0 (argM (pur (.int 2)) (pur [])))) (pur (.int 0)) eqD)) (fe := keepM v) (env := E m none) (e1 := E m none) (ds := ds.map .str) P
    (o_seqI (o_var (h1 _ _)) (by simp [lsD, itemsD, owns_strs])) (by simp [savedOk, hv]) ⟨[], m, rfl, by simp, by simp [Env.dropL, hdr], hM⟩
    (fun j d acc e hd hp' => by
      obtain ⟨L, m', rfl, q2, rfl, q3⟩ := hp'
      rw [List.getElem?_map] at hd
      cases hx : ds[j]? with
      | none => rw [hx] at hd; cases hd
      | some x =>
        rw [hx] at hd
        cases hd
        have hj : j < ds.length := (List.getElem?_eq_some_iff.mp hx).1
        have hlen := hw.2.2
        obtain ⟨r, m2, d1, d2, d3⟩ := draw_call (n := n + (8 - (j + 1))) (i := 0) (e := E m' (some (.str x))) (m := 2) (fe := pur (.int 2)) hf (q3.mono (by omega)) (h0 _ _) rfl (by omega) (by omega)
        rw [hput] at d1
        have hlv : v < (E m' none).s.length := lt_of_get (hv m' none)
        refine ⟨rfl, E m' (some (.str x)), by simp [gnM, hp, hlv, hputv], ?_⟩
        have tst := o_bool (o_two (k := true) d1 (o_pur (a := D.int 0)) (eqD_i _ _))
        by_cases hr : (r : Int) = 0
        · rw [decide_eq_true hr] at tst
          refine .inl ⟨E m2 (some (.str x)), E m2 (some (.str x)), .str x, tst, o_keep (hv _ _) rfl, ?_, L ++ [x], m2, by simp, snoc_sub q2 hx, by simp [Env.dropL, hdr], d3⟩
          have := q2.length_le
          simp at this ⊢
          omega
        · rw [decide_eq_false hr] at tst
          exact .inr ⟨E m2 (some (.str x)), tst, L, m2, rfl, keep_sub q2, by simp [Env.dropL, hdr], d3⟩)
  refine ⟨L, m', ?_, ?_, q3.mono (by omega)⟩
  · rw [q1]
    simp [Env.restL, hv, hdr]
  · simpa using q2
def SetOk (f : List D → CRes) : Prop := ∀ (n : Nat) (m : D) (ds : List Str) (o : Bool), Ms (n + 8) m → words ds → ∃ S m', f [m, lsD o ds] = .ok (setD' S) [m', lsD o ds] ∧ okSet S = true ∧ Ms n m'
theorem set_gen {f : List D → CRes} (hf : DrawOk f) : SetOk (runB 3 (B__law_set f)) := by
  intro n m ds o hM hw
  have om := hM.own
  have ol := lsD_own o ds
  obtain ⟨L, m', q1, q2, q3⟩ := some_drawn (o := o) (s2 := none) (s3 := none) (v := 2) hf (fun m x => ⟨[some m, some (lsD o ds), x], [true, o]⟩) hw hM (fun _ _ => rfl) (fun _ _ => rfl) (fun _ _ => rfl) (by simp) (fun _ _ _ => rfl) (fun _ _ _ => rfl) (fun _ _ => rfl)
  have hl := q2.length_le
  have h8 := hw.2.2
  refine ⟨sortS L, m', ?_, okSet_sort (words_sub hw q2), q3⟩
  have e0 : env0 3 [m, lsD o ds] = ⟨[some m, some (lsD o ds), none], [true, o]⟩ := by simp [env0, om, ol, List.replicate]
  rw [runB_ap, e0]
  unfold B__law_set
  rw [o_ret (o_one (o_one q1 (sortTx L (by omega))) (d := setD' (sortS L)) (by simp [tupleD, owns_strs, setD']))]
  cases o <;> simp [orun, finL, om, ol]
def PairsOk (f : List D → CRes) : Prop := ∀ (n : Nat) (m : D) (ds : List Str) (o : Bool), Ms (n + 16) m → words ds → ∃ S m', f [m, lsD o ds] = .ok (pairsD S) [m', lsD o ds] ∧ okPairs S = true ∧ Ms n m'
theorem ix_words {ds : List Str} {o : Bool} {r : Nat} (h : r < ds.length) : ∃ x, x ∈ ds ∧ ixD (lsD o ds) (.int (r : Int)) = some (.str x) := by
  refine ⟨ds[r], List.getElem_mem h, ?_⟩
  have e : atI (ds.map D.str) (r : Int) = some (.str ds[r]) := by
    rw [atI_n (by simpa using h)]
    simp [h]
  simp [ixD, lsD, e, own_str]
theorem len_lsD (o : Bool) (ds : List Str) : lenD (lsD o ds) = some (.int ds.length) := by simp [lenD, lsD]
theorem pairs_gen {f : List D → CRes} (hf : DrawOk f) : PairsOk (runB 4 (B__law_pairs f)) := by
  intro n m ds o hM hw
  have om := hM.own
  have ol := lsD_own o ds
  obtain ⟨L, m1, q1, q2, q3⟩ := some_drawn (o := o) (s2 := none) (s3 := none) (v := 3) (n := n + 8) hf (fun m x => ⟨[some m, some (lsD o ds), none, x], [true, o]⟩) hw hM (fun _ _ => rfl) (fun _ _ => rfl) (fun _ _ => rfl) (by simp) (fun _ _ _ => rfl) (fun _ _ _ => rfl) (fun _ _ => rfl)
  have hl := q2.length_le
  have h8 := hw.2.2
  have hS := okSet_sort (words_sub hw q2)
  have e0 : env0 4 [m, lsD o ds] = ⟨[some m, some (lsD o ds), none, none], [true, o]⟩ := by simp [env0, om, ol, List.replicate]
  -- the seconds
  let P : Nat → List D → VI.Env → Prop := fun j acc e => ∃ (ps : List (Str × Str)) (m' : D), acc = ps.map pairD ∧ ps.map (·.1) = (sortS L).take j ∧ (∀ p ∈ ps, p.2 ∈ ds) ∧ e = ⟨[some m', some (lsD o ds), some (lsD true (sortS L)), none], [true, o]⟩ ∧ Ms (n + (8 - j)) m'
  obtain ⟨out, e', c1, ps, m', rfl, c2, c3, rfl, c4⟩ := compM_filt (vs := [3]) (fi := seqI (varM 2)) (gt := gnM 3) (ft := pur true) (fe := tupM (consM (keepM 3) (consM (twoM true (varM 1) (callM f (narM 0 (argM (oneM (varM 1) lenD) (pur [])))) ixD) (pur [])))) (env := ⟨[some m1, some (lsD o ds), some (lsD true (sortS L)), none], [true, o]⟩) (e1 := ⟨[some m1, some (lsD o ds), some (lsD true (sortS L)), none], [true, o]⟩) (ds := (sortS L).map .str) P
    (o_seqI (o_var rfl) (by simp [lsD, itemsD, owns_strs])) rfl ⟨[], m1, rfl, by simp, by simp, by simp [Env.dropL, Env.drop], q3⟩
    (fun j d acc e hd hp' => by
      obtain ⟨ps, m', rfl, c2, c3, rfl, c4⟩ := hp'
      rw [List.getElem?_map] at hd
      cases hx : (sortS L)[j]? with
      | none => rw [hx] at hd; cases hd
      | some x =>
        rw [hx] at hd
        cases hd
        have hj : j < (sortS L).length := (List.getElem?_eq_some_iff.mp hx).1
        rw [sortS_len] at hj
        obtain ⟨r, m2, d1, d2, d3⟩ := draw_call (n := n + (8 - (j + 1))) (i := 0) (e := ⟨[some m', some (lsD o ds), some (lsD true (sortS L)), some (.str x)], [true, o]⟩) (m := (ds.length : Int)) (fe := oneM (varM 1) lenD) hf (c4.mono (by omega)) rfl (o_one (o_var rfl) (len_lsD o ds)) (by omega) (by omega)
        obtain ⟨y, hy, hix⟩ := ix_words (ds := ds) (o := o) (r := r) (by omega)
        refine ⟨rfl, ⟨[some m', some (lsD o ds), some (lsD true (sortS L)), some (.str x)], [true, o]⟩, by simp [gnM, Env.put], .inl ⟨_, ⟨[some m2, some (lsD o ds), some (lsD true (sortS L)), some (.str x)], [true, o]⟩, pairD (x, y), rfl, o_tup (o_cons (o_keep rfl rfl) (o_cons (o_two (o_var rfl) d1 hix) o_pur)), ?_, ps ++ [(x, y)], m2, by simp, ?_, ?_, by simp [Env.dropL, Env.drop], d3⟩⟩
        · have := congrArg List.length c2
          simp at this ⊢
          have := sortS_len L
          omega
        · obtain ⟨hj', rfl⟩ := List.getElem?_eq_some_iff.mp hx
          rw [List.take_succ_eq_append_getElem hj', List.map_append, c2]
          rfl
        · intro p hp
          rcases List.mem_append.mp hp with hp | hp
          · exact c3 p hp
          · simp at hp
            subst hp
            exact hy)
  simp only [List.length_map, List.take_length] at c2
  refine ⟨ps, m', ?_, ?_, c4.mono (by omega)⟩
  · rw [runB_ap, e0]
    unfold B__law_pairs
    have e1 := o_seq (o_as (i := 2) (o_one q1 (sortTx L (by omega)))) (o_ret (o_one (g := tupleD) (d := pairsD ps) c1 (by simp [tupleD, pairsD, owns_map pairD (fun _ => rfl)])))
    rw [e1]
    cases o <;> simp [orun, finL, om, ol, Env.restL, Env.drop]
  · unfold okPairs
    simp only [okSet, Bool.and_eq_true, decide_eq_true_eq] at hS
    rw [c2, hS.2]
    have hlen : ps.length = L.length := by
      have := congrArg List.length c2
      rw [sortS_len] at this
      simpa using this
    rw [decide_eq_true (by omega)]
    simp only [Bool.and_true, List.all_eq_true]
    intro p hp
    have a1 : isW p.1 = true := by
      have : p.1 ∈ sortS L := by rw [← c2]; exact List.mem_map_of_mem hp
      exact List.all_eq_true.mp hS.1.1 _ this
    rw [a1, hw.1 _ (c3 p hp)]
    rfl
end PL
/-! Q10: drawn hands and steps -/
namespace PL
open PySem PySem.Spec L2 VI
theorem room_get {n i : Nat} {m : D} (hM : Ms n m) : ∃ r : Int, ∀ e : VI.Env, e.s[i]? = some (some m) → getM i (pixM i (rootM i) (pur (.str "room"))) e = .ok (.int r) e := by
  obtain ⟨cells, left, k, room, hc, h1, h2, rfl⟩ := hM
  refine ⟨room, fun e h => ?_⟩
  simp [getM, pixM, bnd_ap, root_ap h, obind_ok, pur_ap, atE, h, D.at, M4, stepOf, keyD, D.at1, dAt, key1, key2, key3, key4, key5, key6, key7, key8, key9, key10, key11, key12]
theorem room_put {n i : Nat} {m : D} {v : Int} {e : VI.Env} {fe : M D} (hM : Ms n m) (h : e.s[i]? = some (some m)) (hf : fe e = .ok (.int v) e) : ∃ m', storeM i fe (rootM i) (pur (.str "room")) e = .ok .nx (e.put i m') ∧ Ms n m' := by
  obtain ⟨cells, left, k, room, hc, h1, h2, rfl⟩ := hM
  refine ⟨M4 cells left k v, ?_, cells, left, k, v, hc, h1, h2, rfl⟩
  simp [storeM, bnd_ap, hf, root_ap h, obind_ok, pur_ap, atE, h, D.at, M4, setD, keyD, dAt, dSet, key1, key2, key3, key4, key5, key6, key7, key8, key9, key10, key11, key12, updE, D.upd]
def cost : Nat → Nat
  | 0 => 10
  | k + 1 => 40 + 2 * cost k
def HandOk (f : List D → CRes) (dp : Nat) : Prop := ∀ (n : Nat) (m : D) (ds ns : List Str) (o o2 : Bool), Ms (n + cost dp) m → words ds → words ns →
  ∃ (h : Hd) (m' : D) (o2' : Bool), f [m, lsD o ds, lsD o2 ns, .int (dp : Nat)] = .ok h.toD [m', lsD o ds, lsD o2' ns, .int (dp : Nat)] ∧ h.good = true ∧ h.deep ≤ dp ∧ h.size + 1 ≤ 2 ^ dp ∧ Ms n m' ∧ (o2 = false → o2' = false)
abbrev E7 (m ds ns dp a b c : Option D) (p : List Bool) : VI.Env := ⟨[m, ds, ns, dp, a, b, c], p⟩
theorem hand_call {f : List D → CRes} {dp : Nat} (hf : HandOk f dp) {n : Nat} {m : D} {ds ns : List Str} {o o2 : Bool} {a b c : Option D} {p : List Bool} (hM : Ms (n + cost dp) m) (hd : words ds) (hn : words ns) :
    ∃ (h : Hd) (m' : D) (o2' : Bool), callM f (narM 0 (narM 1 (narM 2 (argM (twoM true (varM 3) (pur (.int 1)) subD) (pur []))))) (E7 (some m) (some (lsD o ds)) (some (lsD o2 ns)) (some (.int ((dp + 1 : Nat) : Int))) a b c p) = .ok h.toD (E7 (some m') (some (lsD o ds)) (some (lsD o2' ns)) (some (.int ((dp + 1 : Nat) : Int))) a b c p) ∧ h.good = true ∧ h.deep ≤ dp ∧ h.size + 1 ≤ 2 ^ dp ∧ Ms n m' ∧ (o2 = false → o2' = false) := by
  obtain ⟨h, m', o2', q1, q2, q3, q4, q5, q6⟩ := hf n m ds ns o o2 hM hd hn
  refine ⟨h, m', o2', ?_, q2, q3, q4, q5, q6⟩
  have om := hM.own
  have e1 : ((dp : Int) + 1) - 1 = (dp : Int) := by omega
  cases o <;> cases o2 <;> first | (cases q6 rfl) | skip
  all_goals simp [callM_ap, narM_ap, argM_ap, twoM_ap, varM_ap, pur_ap, oslot_some, obind_ok, subD_i, oof_some, takeA, om, lsD_own, own_int, Env.drop, Env.put, otake_some, e1, q1, ocres_ok, backA]
  all_goals (cases o2' <;> simp_all)
theorem hand_call5 {f : List D → CRes} {dp : Nat} (hf : HandOk f dp) {n : Nat} {m : D} {ds ns : List Str} {o o2 : Bool} {a b c : Option D} {p : List Bool} (hM : Ms (n + cost dp) m) (hd : words ds) (hn : words ns) :
    ∃ (h : Hd) (m' : D) (o2' : Bool), callM f (narM 0 (narM 1 (narM 5 (argM (twoM true (varM 3) (pur (.int 1)) subD) (pur []))))) (E7 (some m) (some (lsD o ds)) a (some (.int ((dp + 1 : Nat) : Int))) b (some (lsD o2 ns)) c p) = .ok h.toD (E7 (some m') (some (lsD o ds)) a (some (.int ((dp + 1 : Nat) : Int))) b (some (lsD o2' ns)) c p) ∧ h.good = true ∧ h.deep ≤ dp ∧ h.size + 1 ≤ 2 ^ dp ∧ Ms n m' ∧ (o2 = false → o2' = false) := by
  obtain ⟨h, m', o2', q1, q2, q3, q4, q5, q6⟩ := hf n m ds ns o o2 hM hd hn
  refine ⟨h, m', o2', ?_, q2, q3, q4, q5, q6⟩
  have om := hM.own
  have e1 : ((dp : Int) + 1) - 1 = (dp : Int) := by omega
  cases o <;> cases o2 <;> first | (cases q6 rfl) | skip
  all_goals simp [callM_ap, narM_ap, argM_ap, twoM_ap, varM_ap, pur_ap, oslot_some, obind_ok, subD_i, oof_some, takeA, om, lsD_own, own_int, Env.drop, Env.put, otake_some, e1, q1, ocres_ok, backA]
  all_goals (cases o2' <;> simp_all)
theorem set_call {f : List D → CRes} (hf : SetOk f) {n : Nat} {m : D} {ds : List Str} {o : Bool} {r : List (Option D)} {p : List Bool} (hM : Ms (n + 8) m) (hd : words ds) :
    ∃ (S : List Str) (m' : D), callM f (narM 0 (narM 1 (pur []))) ⟨some m :: some (lsD o ds) :: r, p⟩ = .ok (setD' S) ⟨some m' :: some (lsD o ds) :: r, p⟩ ∧ okSet S = true ∧ Ms n m' := by
  obtain ⟨S, m', q1, q2, q3⟩ := hf n m ds o hM hd
  refine ⟨S, m', ?_, q2, q3⟩
  have om := hM.own
  cases o <;> simp [callM_ap, narM_ap, pur_ap, oslot_some, obind_ok, takeA, om, lsD_own, Env.drop, Env.put, otake_some, q1, ocres_ok, backA]
theorem pairs_call {f : List D → CRes} (hf : PairsOk f) {n : Nat} {m : D} {ds : List Str} {o : Bool} {r : List (Option D)} {p : List Bool} (hM : Ms (n + 16) m) (hd : words ds) :
    ∃ (S : List (Str × Str)) (m' : D), callM f (narM 0 (narM 1 (pur []))) ⟨some m :: some (lsD o ds) :: r, p⟩ = .ok (pairsD S) ⟨some m' :: some (lsD o ds) :: r, p⟩ ∧ okPairs S = true ∧ Ms n m' := by
  obtain ⟨S, m', q1, q2, q3⟩ := hf n m ds o hM hd
  refine ⟨S, m', ?_, q2, q3⟩
  have om := hM.own
  cases o <;> simp [callM_ap, narM_ap, pur_ap, oslot_some, obind_ok, takeA, om, lsD_own, Env.drop, Env.put, otake_some, q1, ocres_ok, backA]
end PL
/-! Q11: drawn hands -/
namespace PL
open PySem PySem.Spec L2 VI
theorem ne_lsD (o : Bool) (ds : List Str) : neD (lsD o ds) (.lst true []) = some (.bl (!ds.isEmpty)) := by
  cases ds with
  | nil => cases o <;> kernel_rfl
  | cons x r => simp [lsD, neD, eqB]
theorem lsD_frz (o : Bool) (ds : List Str) : (lsD o ds).frz = lsD false ds := by
  simp only [lsD, D.frz]
  rw [D.frzs_of _ (owns_strs ds)]
theorem fin_hand {m m' d : D} {o o2 o2' : Bool} {ds ns : List Str} {dp : Int} {a b c : Option D} {p : List Bool} (om : m.own = true) (q : o2 = false → o2' = false) :
    orun [m, lsD o ds, lsD o2 ns, .int dp] (.ok (.rt d) (E7 (some m') (some (lsD o ds)) (some (lsD o2' ns)) (some (.int dp)) a b c p)) = .ok d [m', lsD o ds, lsD o2' ns, .int dp] := by
  cases o <;> cases o2 <;> first | (cases q rfl) | skip
  all_goals simp [orun, finL, om, lsD_own, own_int]
theorem cost_pos : ∀ k, 10 ≤ cost k
  | 0 => by simp [cost]
  | k + 1 => by have := cost_pos k; simp [cost]; omega
theorem hand_gen {fd fh fs fp : List D → CRes} (hD : DrawOk fd) (hS : SetOk fs) (hP : PairsOk fp) {dp : Nat} (h1 : 1 ≤ dp) (hH : ∀ k, dp = k + 1 → 1 ≤ k → HandOk fh k) : HandOk (runB 7 (B__law_hand fd fh fs fp)) dp := by
  intro n m ds ns o o2 hM hw hn
  have om := hM.own
  have cp := cost_pos dp
  suffices hs : ∃ (h : Hd) (m' : D) (o2' : Bool) (a b c : Option D), B__law_hand fd fh fs fp (E7 (some m) (some (lsD o ds)) (some (lsD o2 ns)) (some (.int (dp : Nat))) none none none [true, o, o2, false]) = .ok (.rt h.toD) (E7 (some m') (some (lsD o ds)) (some (lsD o2' ns)) (some (.int (dp : Nat))) a b c [true, o, o2, false]) ∧ h.good = true ∧ h.deep ≤ dp ∧ h.size + 1 ≤ 2 ^ dp ∧ Ms n m' ∧ (o2 = false → o2' = false) by
    obtain ⟨h, m', o2', a, b, c, q1, q2, q3, q4, q5, q6⟩ := hs
    refine ⟨h, m', o2', ?_, q2, q3, q4, q5, q6⟩
    have e0 : env0 7 [m, lsD o ds, lsD o2 ns, .int (dp : Nat)] = E7 (some m) (some (lsD o ds)) (some (lsD o2 ns)) (some (.int (dp : Nat))) none none none [true, o, o2, false] := by simp [env0, om, lsD_own, own_int, List.replicate]
    rw [runB_ap, e0, q1]
    exact fin_hand om q6
  -- the room
  obtain ⟨r, hr⟩ := room_get (i := 0) hM
  obtain ⟨m1, p1, M1⟩ := room_put (i := 0) (v := r - 1) (e := E7 (some m) (some (lsD o ds)) (some (lsD o2 ns)) (some (.int (dp : Nat))) none none none [true, o, o2, false]) (fe := twoM true (getM 0 (pixM 0 (rootM 0) (pur (.str "room")))) (pur (.int 1)) subD) hM rfl (o_two (hr _ rfl) o_pur (subD_i _ _))
  obtain ⟨r1, hr1⟩ := room_get (i := 0) M1
  -- the way
  have way : ∃ (w : Nat) (m2 : D), asgM 4 (iteM (VI.andM (boolM (twoM true (varM 3) (pur (.int 1)) gtD)) (boolM (twoM true (getM 0 (pixM 0 (rootM 0) (pur (.str "room")))) (pur (.int 0)) gtD))) (callM fd (narM 0 (argM (pur (.int 13)) (pur [])))) (twoM true (pur (.int 11)) (callM fd (narM 0 (argM (pur (.int 2)) (pur [])))) addD)) (E7 (some m1) (some (lsD o ds)) (some (lsD o2 ns)) (some (.int (dp : Nat))) none none none [true, o, o2, false]) = .ok .nx (E7 (some m2) (some (lsD o ds)) (some (lsD o2 ns)) (some (.int (dp : Nat))) (some (.int (w : Nat))) none none [true, o, o2, false]) ∧ w < 13 ∧ (w < 11 → 2 ≤ dp) ∧ Ms (n + (cost dp - 1)) m2 := by
    have leaf : ∃ (w : Nat) (m2 : D), twoM true (pur (.int 11)) (callM fd (narM 0 (argM (pur (.int 2)) (pur [])))) addD (E7 (some m1) (some (lsD o ds)) (some (lsD o2 ns)) (some (.int (dp : Nat))) none none none [true, o, o2, false]) = .ok (.int (w : Nat)) (E7 (some m2) (some (lsD o ds)) (some (lsD o2 ns)) (some (.int (dp : Nat))) none none none [true, o, o2, false]) ∧ w < 13 ∧ 11 ≤ w ∧ Ms (n + (cost dp - 1)) m2 := by
      obtain ⟨q, m2, d1, d2, d3⟩ := draw_call (n := n + (cost dp - 1)) (i := 0) (e := E7 (some m1) (some (lsD o ds)) (some (lsD o2 ns)) (some (.int (dp : Nat))) none none none [true, o, o2, false]) (m := 2) (fe := pur (.int 2)) hD (M1.mono (by omega)) rfl rfl (by omega) (by omega)
      exact ⟨11 + q, m2, o_two o_pur d1 (by rw [addD_i, Int.natCast_add]; rfl), by omega, by omega, d3⟩
    obtain ⟨w, m2, l1, l2, l3, l4⟩ := leaf
    by_cases c1 : (1 : Int) < (dp : Int)
    · have t1 : boolM (twoM true (varM 3) (pur (.int 1)) gtD) (E7 (some m1) (some (lsD o ds)) (some (lsD o2 ns)) (some (.int (dp : Nat))) none none none [true, o, o2, false]) = .ok true (E7 (some m1) (some (lsD o ds)) (some (lsD o2 ns)) (some (.int (dp : Nat))) none none none [true, o, o2, false]) := o_bool (o_two (o_var rfl) o_pur (by rw [gtD_i, decide_eq_true c1]))
      by_cases c2 : (0 : Int) < r1
      · obtain ⟨q, m3, d1, d2, d3⟩ := draw_call (n := n + (cost dp - 1)) (i := 0) (e := E7 (some m1) (some (lsD o ds)) (some (lsD o2 ns)) (some (.int (dp : Nat))) none none none [true, o, o2, false]) (m := 13) (fe := pur (.int 13)) hD (M1.mono (by omega)) rfl rfl (by omega) (by omega)
        exact ⟨q, m3, o_as (o_iteT (o_and1 t1 (o_bool (o_two (hr1 _ rfl) o_pur (by rw [gtD_i, decide_eq_true c2])))) d1), by omega, fun _ => by omega, d3⟩
      · exact ⟨w, m2, o_as (o_iteF (o_and1 t1 (o_bool (o_two (hr1 _ rfl) o_pur (by rw [gtD_i, decide_eq_false c2])))) l1), l2, fun h => by omega, l4⟩
    · have t1 : boolM (twoM true (varM 3) (pur (.int 1)) gtD) (E7 (some m1) (some (lsD o ds)) (some (lsD o2 ns)) (some (.int (dp : Nat))) none none none [true, o, o2, false]) = .ok false (E7 (some m1) (some (lsD o ds)) (some (lsD o2 ns)) (some (.int (dp : Nat))) none none none [true, o, o2, false]) := o_bool (o_two (o_var rfl) o_pur (by rw [gtD_i, decide_eq_false c1]))
      exact ⟨w, m2, o_as (o_iteF (o_and2 t1) l1), l2, fun h => by omega, l4⟩
  obtain ⟨w, m2, w1, w2, w3, M2⟩ := way
  unfold B__law_hand
  rw [o_seq p1 (o_seq w1 rfl)]
  have tlt : ∀ (k : Int) (E : VI.Env), E.s[4]? = some (some (.int (w : Nat))) → boolM (twoM true (varM 4) (pur (.int k)) ltD) E = .ok (decide ((w : Int) < k)) E := fun k E h => o_bool (o_two (o_var h) o_pur (ltD_i _ _))
  have teq : ∀ (k : Int) (E : VI.Env), E.s[4]? = some (some (.int (w : Nat))) → boolM (twoM true (varM 4) (pur (.int k)) eqD) E = .ok (decide ((w : Int) = k)) E := fun k E h => o_bool (o_two (o_var h) o_pur (eqD_i _ _))
  have tltT : ∀ (k : Int) (E : VI.Env), E.s[4]? = some (some (.int (w : Nat))) → (w : Int) < k → boolM (twoM true (varM 4) (pur (.int k)) ltD) E = .ok true E := fun k E h q => by rw [tlt k E h, decide_eq_true q]
  have tltF : ∀ (k : Int) (E : VI.Env), E.s[4]? = some (some (.int (w : Nat))) → ¬ (w : Int) < k → boolM (twoM true (varM 4) (pur (.int k)) ltD) E = .ok false E := fun k E h q => by rw [tlt k E h, decide_eq_false q]
  have teqT : ∀ (k : Int) (E : VI.Env), E.s[4]? = some (some (.int (w : Nat))) → (w : Int) = k → boolM (twoM true (varM 4) (pur (.int k)) eqD) E = .ok true E := fun k E h q => by rw [teq k E h, decide_eq_true q]
  have teqF : ∀ (k : Int) (E : VI.Env), E.s[4]? = some (some (.int (w : Nat))) → ¬ (w : Int) = k → boolM (twoM true (varM 4) (pur (.int k)) eqD) E = .ok false E := fun k E h q => by rw [teq k E h, decide_eq_false q]
  have tds : ∀ (E : VI.Env), E.s[1]? = some (some (lsD o ds)) → boolM (twoM true (varM 1) (lstM (pur [])) neD) E = .ok (!ds.isEmpty) E := fun E h => o_bool (o_two (o_var h) (o_lst o_pur) (ne_lsD _ _))
  -- the first test
  by_cases c1 : (w : Int) < 5 ∧ ds ≠ []
  · obtain ⟨k, rfl⟩ : ∃ k, dp = k + 1 := ⟨dp - 1, by have := w3 (by omega); omega⟩
    have hk := hH k rfl (by have := w3 (by omega); omega)
    have hl : 0 < ds.length := List.length_pos_iff.mpr c1.2
    have h8 := hw.2.2
    obtain ⟨q, m3, d1, d2, d3⟩ := draw_call (n := n + cost k) (i := 0) (e := E7 (some m2) (some (lsD o ds)) (some (lsD o2 ns)) (some (.int ((k + 1 : Nat) : Int))) (some (.int (w : Nat))) none none [true, o, o2, false]) (m := (ds.length : Int)) (fe := oneM (varM 1) lenD) hD (M2.mono (by simp only [cost]; omega)) rfl (o_one (o_var rfl) (len_lsD o ds)) (by omega) (by omega)
    obtain ⟨x, hx, hix⟩ := ix_words (ds := ds) (o := o) (r := q) (by omega)
    obtain ⟨h, m4, o2', a1, a2, a3, a4, a5, a6⟩ := hand_call hk (ds := ds) (ns := ns) (o := o) (o2 := o2) (a := some (.int (w : Nat))) (b := none) (c := none) (p := [true, o, o2, false]) d3 hw hn
    have te : (!ds.isEmpty) = true := by simpa using c1.2
    refine ⟨.thn x h, m4, o2', _, _, _, o_seq_rt (o_iteT (o_and1 (tltT 5 _ rfl c1.1) ((tds _ rfl).trans (by rw [te]))) (o_ret (o_tup (o_cons o_pur (o_cons (o_two (o_var rfl) d1 hix) (o_cons a1 o_pur)))))), ?_, ?_, ?_, a5, a6⟩
    · simp [Hd.good, hw.1 x hx, a2]
    · simp [Hd.deep]; omega
    · simp only [Hd.size]
      have : 2 ^ (k + 1) = 2 * 2 ^ k := by rw [Nat.pow_succ]; omega
      omega
  · have s1 : iteM (VI.andM (boolM (twoM true (varM 4) (pur (.int 5)) ltD)) (boolM (twoM true (varM 1) (lstM (pur [])) neD))) (retM (tupM (consM (pur (.str "then")) (consM (twoM true (varM 1) (callM fd (narM 0 (argM (oneM (varM 1) lenD) (pur [])))) ixD) (consM (callM fh (narM 0 (narM 1 (narM 2 (argM (twoM true (varM 3) (pur (.int 1)) subD) (pur [])))))) (pur [])))))) (pur .nx) (E7 (some m2) (some (lsD o ds)) (some (lsD o2 ns)) (some (.int (dp : Nat))) (some (.int (w : Nat))) none none [true, o, o2, false]) = .ok .nx (E7 (some m2) (some (lsD o ds)) (some (lsD o2 ns)) (some (.int (dp : Nat))) (some (.int (w : Nat))) none none [true, o, o2, false]) := by
      by_cases c2 : (w : Int) < 5
      · have : (!ds.isEmpty) = false := by
          have : ds = [] := Classical.byContradiction fun z => c1 ⟨c2, z⟩
          rw [this]; rfl
        exact o_iteF (o_and1 (tltT 5 _ rfl c2) ((tds _ rfl).trans (by rw [this]))) rfl
      · exact o_iteF (o_and2 (tltF 5 _ rfl c2)) rfl
    rw [o_seq s1 rfl]
    by_cases c3 : (w : Int) < 7
    · obtain ⟨k, rfl⟩ : ∃ k, dp = k + 1 := ⟨dp - 1, by have := w3 (by omega); omega⟩
      have hk := hH k rfl (by have := w3 (by omega); omega)
      obtain ⟨h, m3, o3, a1, a2, a3, a4, a5, a6⟩ := hand_call hk (n := n + cost k) (ds := ds) (ns := ns) (o := o) (o2 := o2) (a := some (.int (w : Nat))) (b := none) (c := none) (p := [true, o, o2, false]) (M2.mono (by simp only [cost]; omega)) hw hn
      obtain ⟨h', m4, o4, b1, b2, b3, b4, b5, b6⟩ := hand_call hk (n := n) (ds := ds) (ns := ns) (o := o) (o2 := o3) (a := some (.int (w : Nat))) (b := none) (c := none) (p := [true, o, o2, false]) a5 hw hn
      refine ⟨.two true h h', m4, o4, _, _, _, o_seq_rt (o_iteT (tltT 7 _ rfl c3) (o_ret (o_tup (o_cons o_pur (o_cons a1 (o_cons b1 o_pur)))))), ?_, ?_, ?_, b5, fun z => b6 (a6 z)⟩
      · simp [Hd.good, a2, b2]
      · simp [Hd.deep]; omega
      · simp only [Hd.size]
        have : 2 ^ (k + 1) = 2 * 2 ^ k := by rw [Nat.pow_succ]; omega
        omega
    · rw [o_seq (o_iteF (tltF 7 _ rfl c3) (rfl : pur Fl.nx _ = _)) rfl]
      by_cases c4 : (w : Int) < 11
      · obtain ⟨k, rfl⟩ : ∃ k, dp = k + 1 := ⟨dp - 1, by have := w3 (by omega); omega⟩
        have hk := hH k rfl (by have := w3 (by omega); omega)
        -- the names
        obtain ⟨q, m3, d1, d2, M3⟩ := draw_call (n := n + (2 * cost k + 30)) (i := 0) (e := E7 (some m2) (some (lsD o ds)) (some (lsD o2 ns)) (some (.int ((k + 1 : Nat) : Int))) (some (.int (w : Nat))) none none [true, o, o2, false]) (m := 8) (fe := pur (.int 8)) hD (M2.mono (by simp only [cost]; omega)) rfl rfl (by omega) (by omega)
        have tst := o_bool (o_two (k := true) d1 (o_pur (a := D.int 0)) (eqD_i _ _))
        have nm : ∃ (o3 os : Bool) (ss : List Str), asgM 5 (iteM (boolM (twoM true (callM fd (narM 0 (argM (pur (.int 8)) (pur [])))) (pur (.int 0)) eqD)) (keepM 2) (lstM (pur []))) (E7 (some m2) (some (lsD o ds)) (some (lsD o2 ns)) (some (.int ((k + 1 : Nat) : Int))) (some (.int (w : Nat))) none none [true, o, o2, false]) = .ok .nx (E7 (some m3) (some (lsD o ds)) (some (lsD o3 ns)) (some (.int ((k + 1 : Nat) : Int))) (some (.int (w : Nat))) (some (lsD os ss)) none [true, o, o2, false]) ∧ words ss ∧ (o2 = false → o3 = false) := by
          by_cases hq : (q : Int) = 0
          · rw [decide_eq_true hq] at tst
            refine ⟨false, false, ns, ?_, hn, fun _ => rfl⟩
            have kp : keepM 2 (E7 (some m3) (some (lsD o ds)) (some (lsD o2 ns)) (some (.int ((k + 1 : Nat) : Int))) (some (.int (w : Nat))) none none [true, o, o2, false]) = .ok (lsD false ns) (E7 (some m3) (some (lsD o ds)) (some (lsD false ns)) (some (.int ((k + 1 : Nat) : Int))) (some (.int (w : Nat))) none none [true, o, o2, false]) := by
              rw [keepM_ap]
              simp only [List.getElem?_cons_succ, List.getElem?_cons_zero, oslot_some, lsD_own]
              cases o2 with
              | true =>
                rw [if_pos rfl, lsD_frz]
                rfl
              | false => rw [if_neg Bool.false_ne_true]
            exact o_as (o_iteT tst kp)
          · rw [decide_eq_false hq] at tst
            exact ⟨o2, true, [], o_as (o_iteF tst (o_lst o_pur)), ⟨by simp, by simp, by simp⟩, fun z => z⟩
        obtain ⟨o3, os, ss, n1, n2, n3⟩ := nm
        obtain ⟨h, m4, os2, a1, a2, a3, a4, M4, a6⟩ := hand_call5 hk (n := n + (cost k + 30)) (ds := ds) (ns := ss) (o := o) (o2 := os) (a := some (lsD o3 ns)) (b := some (.int (w : Nat))) (c := none) (p := [true, o, o2, false]) (M3.mono (by omega)) hw n2
        have hsz : 2 ^ (k + 1) = 2 * 2 ^ k := by rw [Nat.pow_succ]; omega
        have hpos : 1 ≤ 2 ^ k := Nat.one_le_two_pow
        by_cases w7 : (w : Int) = 7
        · obtain ⟨h', m5, os3, b1, b2, b3, b4, M5, b6⟩ := hand_call5 hk (n := n) (ds := ds) (ns := ss) (o := o) (o2 := os2) (a := some (lsD o3 ns)) (b := some (.int (w : Nat))) (c := some h.toD) (p := [true, o, o2, false]) (M4.mono (by omega)) hw n2
          refine ⟨.two false h h', m5, o3, _, _, _, o_seq_rt (o_iteT (tltT 11 _ rfl c4) (o_seq n1 (o_seq (o_as (i := 6) a1) (o_seq_rt (o_iteT (teqT 7 _ rfl w7) (o_ret (o_tup (o_cons o_pur (o_cons (o_keep rfl h.own) (o_cons b1 o_pur)))))))))), ?_, ?_, ?_, M5, n3⟩
          · simp [Hd.good, a2, b2]
          · simp [Hd.deep]; omega
          · simp only [Hd.size]; omega
        · by_cases w8 : (w : Int) = 8
          · obtain ⟨S, m5, s1, s2, M5⟩ := set_call hS (n := n + (cost k + 20)) (ds := ds) (o := o) (r := [some (lsD o3 ns), some (.int ((k + 1 : Nat) : Int)), some (.int (w : Nat)), some (lsD os2 ss), some h.toD]) (p := [true, o, o2, false]) (M4.mono (by omega)) hw
            obtain ⟨h', m6, os3, b1, b2, b3, b4, M6, b6⟩ := hand_call5 hk (n := n) (ds := ds) (ns := ss) (o := o) (o2 := os2) (a := some (lsD o3 ns)) (b := some (.int (w : Nat))) (c := some h.toD) (p := [true, o, o2, false]) (M5.mono (by omega)) hw n2
            refine ⟨.bes h S h', m6, o3, _, _, _, o_seq_rt (o_iteT (tltT 11 _ rfl c4) (o_seq n1 (o_seq (o_as (i := 6) a1) (o_seq (o_iteF (teqF 7 _ rfl w7) (rfl : pur Fl.nx _ = _)) (o_seq_rt (o_iteT (teqT 8 _ rfl w8) (o_ret (o_tup (o_cons o_pur (o_cons (o_keep rfl h.own) (o_cons s1 (o_cons b1 o_pur)))))))))))), ?_, ?_, ?_, M6, n3⟩
            · simp [Hd.good, a2, b2, s2]
            · simp [Hd.deep]; omega
            · simp only [Hd.size]; omega
          · by_cases w9 : (w : Int) = 9
            · obtain ⟨S, m5, s1, s2, M5⟩ := set_call hS (n := n + (cost k + 20)) (ds := ds) (o := o) (r := [some (lsD o3 ns), some (.int ((k + 1 : Nat) : Int)), some (.int (w : Nat)), some (lsD os2 ss), some h.toD]) (p := [true, o, o2, false]) (M4.mono (by omega)) hw
              refine ⟨.hid h S, m5, o3, _, _, _, o_seq_rt (o_iteT (tltT 11 _ rfl c4) (o_seq n1 (o_seq (o_as (i := 6) a1) (o_seq (o_iteF (teqF 7 _ rfl w7) (rfl : pur Fl.nx _ = _)) (o_seq (o_iteF (teqF 8 _ rfl w8) (rfl : pur Fl.nx _ = _)) (o_ret (o_iteT (teqT 9 _ rfl w9) (o_tup (o_cons o_pur (o_cons (o_keep rfl h.own) (o_cons s1 o_pur))))))))))), ?_, ?_, ?_, M5.mono (by omega), n3⟩
              · simp [Hd.good, a2, s2]
              · simp [Hd.deep]; omega
              · simp only [Hd.size]; omega
            · obtain ⟨S, m5, s1, s2, M5⟩ := pairs_call hP (n := n + (cost k + 14)) (ds := ds) (o := o) (r := [some (lsD o3 ns), some (.int ((k + 1 : Nat) : Int)), some (.int (w : Nat)), some (lsD os2 ss), some h.toD]) (p := [true, o, o2, false]) (M4.mono (by omega)) hw
              refine ⟨.als h S, m5, o3, _, _, _, o_seq_rt (o_iteT (tltT 11 _ rfl c4) (o_seq n1 (o_seq (o_as (i := 6) a1) (o_seq (o_iteF (teqF 7 _ rfl w7) (rfl : pur Fl.nx _ = _)) (o_seq (o_iteF (teqF 8 _ rfl w8) (rfl : pur Fl.nx _ = _)) (o_ret (o_iteF (teqF 9 _ rfl w9) (o_tup (o_cons o_pur (o_cons (o_keep rfl h.own) (o_cons s1 o_pur))))))))))), ?_, ?_, ?_, M5.mono (by omega), n3⟩
              · simp [Hd.good, a2, s2]
              · simp [Hd.deep]; omega
              · simp only [Hd.size]; omega
      · rw [o_seq (o_iteF (tltF 11 _ rfl c4) (rfl : pur Fl.nx _ = _)) rfl]
        have tns : ∀ (E : VI.Env), E.s[2]? = some (some (lsD o2 ns)) → boolM (twoM true (varM 2) (lstM (pur [])) neD) E = .ok (!ns.isEmpty) E := fun E h => o_bool (o_two (o_var h) (o_lst o_pur) (ne_lsD _ _))
        have hsm : 1 + 1 ≤ 2 ^ dp := by
          obtain ⟨j, rfl⟩ : ∃ j, dp = j + 1 := ⟨dp - 1, by omega⟩
          have : 1 ≤ 2 ^ j := Nat.one_le_two_pow
          rw [Nat.pow_succ]; omega
        by_cases c5 : ns ≠ [] ∧ (w : Int) = 11
        · have hl : 0 < ns.length := List.length_pos_iff.mpr c5.1
          have h8 := hn.2.2
          obtain ⟨q, m3, d1, d2, d3⟩ := draw_call (n := n) (i := 0) (e := E7 (some m2) (some (lsD o ds)) (some (lsD o2 ns)) (some (.int (dp : Nat))) (some (.int (w : Nat))) none none [true, o, o2, false]) (m := (ns.length : Int)) (fe := oneM (varM 2) lenD) hD (M2.mono (by omega)) rfl (o_one (o_var rfl) (len_lsD o2 ns)) (by omega) (by omega)
          obtain ⟨x, hx, hix⟩ := ix_words (ds := ns) (o := o2) (r := q) (by omega)
          have te : (!ns.isEmpty) = true := by simpa using c5.1
          refine ⟨.name x, m3, o2, _, _, _, o_seq_rt (o_iteT (o_and1 ((tns _ rfl).trans (by rw [te])) (teqT 11 _ rfl c5.2)) (o_ret (o_tup (o_cons o_pur (o_cons (o_two (o_var rfl) d1 hix) o_pur))))), ?_, ?_, ?_, d3, fun z => z⟩
          · simp [Hd.good, hn.1 x hx]
          · simp [Hd.deep]; omega
          · simpa [Hd.size] using hsm
        · have s2 : iteM (VI.andM (boolM (twoM true (varM 2) (lstM (pur [])) neD)) (boolM (twoM true (varM 4) (pur (.int 11)) eqD))) (retM (tupM (consM (pur (.str "name")) (consM (twoM true (varM 2) (callM fd (narM 0 (argM (oneM (varM 2) lenD) (pur [])))) ixD) (pur []))))) (pur .nx) (E7 (some m2) (some (lsD o ds)) (some (lsD o2 ns)) (some (.int (dp : Nat))) (some (.int (w : Nat))) none none [true, o, o2, false]) = .ok .nx (E7 (some m2) (some (lsD o ds)) (some (lsD o2 ns)) (some (.int (dp : Nat))) (some (.int (w : Nat))) none none [true, o, o2, false]) := by
            cases te : ns.isEmpty with
            | true => exact o_iteF (o_and2 ((tns _ rfl).trans (by rw [te]; rfl))) rfl
            | false =>
              have : ¬ (w : Int) = 11 := fun z => c5 ⟨fun y => (by rw [y] at te; cases te), z⟩
              exact o_iteF (o_and1 ((tns _ rfl).trans (by rw [te]; rfl)) (teqF 11 _ rfl this)) rfl
          rw [o_seq s2 rfl]
          obtain ⟨q, m3, d1, d2, d3⟩ := draw_call (n := n) (i := 0) (e := E7 (some m2) (some (lsD o ds)) (some (lsD o2 ns)) (some (.int (dp : Nat))) (some (.int (w : Nat))) none none [true, o, o2, false]) (m := 8) (fe := pur (.int 8)) hD (M2.mono (by omega)) rfl rfl (by omega) (by omega)
          have tst := o_bool (o_two (k := true) d1 (o_pur (a := D.int 0)) (eqD_i _ _))
          by_cases hq : (q : Int) = 0
          · rw [decide_eq_true hq] at tst
            exact ⟨.spin, m3, o2, _, _, _, o_ret (o_iteT tst (o_tup (o_cons o_pur o_pur))), rfl, by simp [Hd.deep]; omega, by simpa [Hd.size] using hsm, d3, fun z => z⟩
          · rw [decide_eq_false hq] at tst
            exact ⟨.stop, m3, o2, _, _, _, o_ret (o_iteF tst (o_tup (o_cons o_pur o_pur))), rfl, by simp [Hd.deep]; omega, by simpa [Hd.size] using hsm, d3, fun z => z⟩
end PL
/-! Q12: hands shown -/
namespace PL
open PySem PySem.Spec L2 VI
structure Rp (d : D) (B k : Nat) : Prop where
  ex : ∃ p, d.dat = some p ∧ p.showable = true ∧ p.canLay0 = true ∧ p.depth ≤ k ∧ p.shown.length ≤ B
structure RpL (xs : List D) (B k : Nat) : Prop where
  ex : ∃ ps, D.dats xs = some ps ∧ PyData.showableAll ps = true ∧ PyData.canLayAll0 ps = true ∧ PyData.depthAll ps ≤ k ∧ piled (PyData.shownAll ps) ≤ B
theorem Rp.mono {d : D} {B k B' k' : Nat} (h : Rp d B k) (hB : B ≤ B') (hk : k ≤ k') : Rp d B' k' := by
  obtain ⟨p, h1, h2, h3, h4, h5⟩ := h.ex
  exact ⟨p, h1, h2, h3, by omega, by omega⟩
theorem RpL.mono {d : List D} {B k B' k' : Nat} (h : RpL d B k) (hB : B ≤ B') (hk : k ≤ k') : RpL d B' k' := by
  obtain ⟨p, h1, h2, h3, h4, h5⟩ := h.ex
  exact ⟨p, h1, h2, h3, by omega, by omega⟩
theorem rpl_nil : RpL [] 0 0 := ⟨[], by simp [D.dats], by simp [PyData.showableAll], by simp [PyData.canLayAll0], by simp [PyData.depthAll], by simp [PyData.shownAll, piled]⟩
theorem rpl_cons {x : D} {xs : List D} {b B k : Nat} (h : Rp x b k) (hs : RpL xs B k) : RpL (x :: xs) (b + 2 + B) k := by
  obtain ⟨p, h1, h2, h3, h4, h5⟩ := h.ex
  obtain ⟨ps, q1, q2, q3, q4, q5⟩ := hs.ex
  refine ⟨p :: ps, by simp [D.dats, h1, q1], by simp [PyData.showableAll, h2, q2], by simp [PyData.canLayAll0, h3, q3], by simp only [PyData.depthAll]; omega, ?_⟩
  simp only [PyData.shownAll, piled_cons]
  omega
theorem tupText_len (ts : List Str) : (tupleText ts).length ≤ piled ts + 4 := by
  unfold tupleText
  have l1 : ((",)" : Str)).length = 2 := by decide
  have l2 : ((")" : Str)).length = 1 := by decide
  have l3 : (("(" : Str)).length = 1 := by decide
  have hj : (Str.join ", " ts).length ≤ piled ts := by
    cases ts with
    | nil => decide
    | cons x r =>
      have := join_length_add (x :: r) (by simp)
      omega
  rw [Str.length_append, Str.length_append, l3]
  split
  · rw [l1]; omega
  · rw [l2]; omega
theorem rp_tup {xs : List D} {B k : Nat} (h : RpL xs B k) : Rp (.tup xs) (B + 4) (k + 1) := by
  obtain ⟨ps, q1, q2, q3, q4, q5⟩ := h.ex
  refine ⟨.tuple ps, by simp [D.dat, q1], by simp [PyData.showable, q2], by simp [PyData.canLay0, q3], by simp only [PyData.depth]; omega, ?_⟩
  have := tupText_len (PyData.shownAll ps)
  simp only [PyData.shown]
  omega
theorem rp_low {x : Str} (h : x.length ≤ 6) (hl : lows x = true) : Rp (.str x) 62 0 := by
  have hc : ∀ c ∈ x.cps.toList, c < 123 := fun c hc => by
    have := List.all_eq_true.mp hl c hc
    have h2 : ∀ c ∈ lettersL.cps.toList, c < 123 := by decide +kernel
    exact h2 c (by simpa using this)
  refine ⟨.str x, by simp [D.dat], by simp [PyData.showable], ?_, by simp [PyData.depth], ?_⟩
  · simp only [PyData.canLay0]
    unfold PyData.strOk
    rw [← Array.all_toList, List.all_eq_true]
    intro c hx
    have := hc c hx
    simp
    omega
  · simp only [PyData.shown]
    have := StrLaws.reprText_len x fun c h => by have := hc c h; omega
    omega
theorem rp_w {x : Str} (h : isW x = true) : Rp (.str x) 62 0 := by
  simp only [isW, Bool.and_eq_true, decide_eq_true_eq] at h
  exact rp_low h.1.1.2 h.2
theorem rp_bar (x : Str) (h : decide (x.length ≤ 6) = true := by decide +kernel) (hl : lows x = true := by decide +kernel) : Rp (.str x) 62 0 := rp_low (of_decide_eq_true h) hl
theorem rpl_map {α : Type} (f : α → D) (b k : Nat) : ∀ l : List α, (∀ a ∈ l, Rp (f a) b k) → RpL (l.map f) ((b + 2) * l.length) k
  | [], _ => rpl_nil.mono (Nat.zero_le _) (Nat.zero_le _)
  | a :: l, h => (rpl_cons (h a List.mem_cons_self) (rpl_map f b k l fun x hx => h x (List.mem_cons_of_mem _ hx))).mono (by rw [List.length_cons, Nat.mul_succ]; omega) (Nat.le_refl _)
theorem rp_set {S : List Str} (h : okSet S = true) : Rp (setD' S) 516 1 := by
  simp only [okSet, Bool.and_eq_true, decide_eq_true_eq] at h
  exact (rp_tup (rpl_map D.str 62 0 S fun w hw => rp_w (List.all_eq_true.mp h.1.1 w hw))).mono (by omega) (by omega)
theorem rp_pairs {S : List (Str × Str)} (h : okPairs S = true) : Rp (pairsD S) 1080 2 := by
  simp only [okPairs, Bool.and_eq_true, decide_eq_true_eq] at h
  refine (rp_tup (rpl_map pairD 132 1 S fun w hw => ?_)).mono (by omega) (by omega)
  have := List.all_eq_true.mp h.1.1 w hw
  simp only [Bool.and_eq_true] at this
  exact (rp_tup (rpl_cons (rp_w this.1) (rpl_cons (rp_w this.2) rpl_nil))).mono (by omega) (by omega)
theorem rp_hand : ∀ h : Hd, h.good = true → Rp h.toD (2000 * h.size) (h.deep + 2)
  | .stop, _ => (rp_tup (rpl_cons (rp_bar "stop") rpl_nil)).mono (by simp [Hd.size]) (by simp)
  | .spin, _ => (rp_tup (rpl_cons (rp_bar "spin") rpl_nil)).mono (by simp [Hd.size]) (by simp)
  | .name x, g => (rp_tup (rpl_cons (rp_bar "name") (rpl_cons (rp_w g) rpl_nil))).mono (by simp [Hd.size]) (by simp)
  | .thn d h, g => by
    simp only [Hd.good, Bool.and_eq_true] at g
    have ih := rp_hand h g.2
    refine (rp_tup (rpl_cons ((rp_bar "then").mono (Nat.le_refl _) (Nat.zero_le (h.deep + 2))) (rpl_cons ((rp_w g.1).mono (Nat.le_refl _) (Nat.zero_le _)) (rpl_cons ih (rpl_nil.mono (Nat.le_refl _) (Nat.zero_le _)))))).mono ?_ ?_
    · simp only [Hd.size]; omega
    · simp only [Hd.deep]; omega
  | .two o a b, g => by
    simp only [Hd.good, Bool.and_eq_true] at g
    have i1 := (rp_hand a g.1).mono (Nat.le_refl _) (show a.deep + 2 ≤ max a.deep b.deep + 2 by omega)
    have i2 := (rp_hand b g.2).mono (Nat.le_refl _) (show b.deep + 2 ≤ max a.deep b.deep + 2 by omega)
    cases o
    · refine (rp_tup (rpl_cons ((rp_bar "out").mono (Nat.le_refl _) (Nat.zero_le (max a.deep b.deep + 2))) (rpl_cons i1 (rpl_cons i2 (rpl_nil.mono (Nat.le_refl _) (Nat.zero_le _)))))).mono ?_ ?_
      · simp only [Hd.size]; omega
      · simp only [Hd.deep]; omega
    · refine (rp_tup (rpl_cons ((rp_bar "own").mono (Nat.le_refl _) (Nat.zero_le (max a.deep b.deep + 2))) (rpl_cons i1 (rpl_cons i2 (rpl_nil.mono (Nat.le_refl _) (Nat.zero_le _)))))).mono ?_ ?_
      · simp only [Hd.size]; omega
      · simp only [Hd.deep]; omega
  | .bes a S b, g => by
    simp only [Hd.good, Bool.and_eq_true] at g
    have i1 := (rp_hand a g.1.2).mono (Nat.le_refl _) (show a.deep + 2 ≤ max a.deep b.deep + 2 by omega)
    have i2 := (rp_hand b g.2).mono (Nat.le_refl _) (show b.deep + 2 ≤ max a.deep b.deep + 2 by omega)
    refine (rp_tup (rpl_cons ((rp_bar "beside").mono (Nat.le_refl _) (Nat.zero_le (max a.deep b.deep + 2))) (rpl_cons i1 (rpl_cons ((rp_set g.1.1).mono (Nat.le_refl _) (by omega)) (rpl_cons i2 (rpl_nil.mono (Nat.le_refl _) (Nat.zero_le _))))))).mono ?_ ?_
    · simp only [Hd.size]; omega
    · simp only [Hd.deep]; omega
  | .hid a S, g => by
    simp only [Hd.good, Bool.and_eq_true] at g
    have i1 := rp_hand a g.2
    refine (rp_tup (rpl_cons ((rp_bar "hide").mono (Nat.le_refl _) (Nat.zero_le (a.deep + 2))) (rpl_cons i1 (rpl_cons ((rp_set g.1).mono (Nat.le_refl _) (by omega)) (rpl_nil.mono (Nat.le_refl _) (Nat.zero_le _)))))).mono ?_ ?_
    · simp only [Hd.size]; omega
    · simp only [Hd.deep]; omega
  | .als a S, g => by
    simp only [Hd.good, Bool.and_eq_true] at g
    have i1 := rp_hand a g.2
    refine (rp_tup (rpl_cons ((rp_bar "as").mono (Nat.le_refl _) (Nat.zero_le (a.deep + 2))) (rpl_cons i1 (rpl_cons ((rp_pairs g.1).mono (Nat.le_refl _) (by omega)) (rpl_nil.mono (Nat.le_refl _) (Nat.zero_le _)))))).mono ?_ ?_
    · simp only [Hd.size]; omega
    · simp only [Hd.deep]; omega
theorem hand_tup (h : Hd) : ∃ xs, h.toD = .tup xs := by
  cases h with
  | two o a b => cases o <;> exact ⟨_, rfl⟩
  | _ => exact ⟨_, rfl⟩
theorem repr_hand {h : Hd} (g : h.good = true) (i : isH h = true) : ∃ t, reprD h.toD = some (.str t) := by
  simp only [isH, decide_eq_true_eq] at i
  obtain ⟨p, h1, h2, h3, h4, h5⟩ := (rp_hand h g).ex
  obtain ⟨xs, e⟩ := hand_tup h
  refine ⟨p.shown, ?_⟩
  have : reprP h.toD = some (.str p.shown) := by
    rw [e] at h1 ⊢
    unfold reprP
    simp only [h1, h2, h3, Bool.true_and, Bool.and_true, decide_eq_true (show p.depth ≤ 140 by omega), decide_eq_true (show p.shown.length ≤ 16777216 by omega), if_true]
  rw [e] at this ⊢
  exact this
end PL
/-! Q13: drawn steps; what the law says of put_round -/
namespace PL
open PySem PySem.Spec L2 VI
def St.small : St → Bool
  | .two _ h => decide (h.size ≤ 7 ∧ h.deep ≤ 3)
  | .bes _ h => decide (h.size ≤ 7 ∧ h.deep ≤ 3)
  | _ => true
theorem put_size : ∀ (ss : List St) (h : Hd), (∀ s ∈ ss, s.small = true) → (putAll h ss).size ≤ h.size + 8 * ss.length ∧ (putAll h ss).deep ≤ max h.deep 3 + ss.length
  | [], h, _ => by simp [putAll]; omega
  | s :: ss, h, k => by
    have ih := put_size ss (s.on h) fun x hx => k x (List.mem_cons_of_mem _ hx)
    have hs := k s List.mem_cons_self
    have e : putAll h (s :: ss) = putAll (s.on h) ss := rfl
    rw [e, List.length_cons]
    have : (s.on h).size ≤ h.size + 8 ∧ (s.on h).deep ≤ max h.deep 3 + 1 := by
      cases s <;> simp [St.on, Hd.size, Hd.deep, St.small] at hs ⊢ <;> omega
    omega
def StepOk (f : List D → CRes) : Prop := ∀ (n : Nat) (m : D) (ds ns : List Str) (o o2 : Bool), Ms (n + 500) m → words ds → words ns →
  ∃ (s : St) (m' : D) (o2' : Bool), f [m, lsD o ds, lsD o2 ns] = .ok s.toD [m', lsD o ds, lsD o2' ns] ∧ s.good = true ∧ s.small = true ∧ Ms n m' ∧ (o2 = false → o2' = false)
theorem hand_callK {f : List D → CRes} {dp : Nat} (hf : HandOk f dp) {n : Nat} {m : D} {ds ns : List Str} {o o2 : Bool} {r : List (Option D)} {p : List Bool} {fe : M D} (hM : Ms (n + cost dp) m) (hd : words ds) (hn : words ns) (he : fe ⟨some m :: some (lsD o ds) :: some (lsD o2 ns) :: r, p⟩ = .ok (.int (dp : Nat)) ⟨some m :: some (lsD o ds) :: some (lsD o2 ns) :: r, p⟩) :
    ∃ (h : Hd) (m' : D) (o2' : Bool), callM f (narM 0 (narM 1 (narM 2 (argM fe (pur []))))) ⟨some m :: some (lsD o ds) :: some (lsD o2 ns) :: r, p⟩ = .ok h.toD ⟨some m' :: some (lsD o ds) :: some (lsD o2' ns) :: r, p⟩ ∧ h.good = true ∧ h.deep ≤ dp ∧ h.size + 1 ≤ 2 ^ dp ∧ Ms n m' ∧ (o2 = false → o2' = false) := by
  obtain ⟨h, m', o2', q1, q2, q3, q4, q5, q6⟩ := hf n m ds ns o o2 hM hd hn
  refine ⟨h, m', o2', ?_, q2, q3, q4, q5, q6⟩
  have om := hM.own
  cases o <;> cases o2 <;> first | (cases q6 rfl) | skip
  all_goals simp [callM_ap, narM_ap, argM_ap, he, pur_ap, oslot_some, obind_ok, takeA, om, lsD_own, own_int, Env.drop, Env.put, otake_some, q1, ocres_ok, backA]
  all_goals (cases o2' <;> simp_all)
theorem fin_step {m m' d : D} {o o2 o2' : Bool} {ds ns : List Str} {r : List (Option D)} {p : List Bool} (om : m.own = true) (q : o2 = false → o2' = false) :
    orun [m, lsD o ds, lsD o2 ns] (.ok (.rt d) ⟨some m' :: some (lsD o ds) :: some (lsD o2' ns) :: r, p⟩) = .ok d [m', lsD o ds, lsD o2' ns] := by
  cases o <;> cases o2 <;> first | (cases q rfl) | skip
  all_goals simp [orun, finL, om, lsD_own]
theorem isH_le {h : Hd} (a : h.size ≤ 7) (b : h.deep ≤ 3) : isH h = true := by simp [isH]; omega
theorem step_gen {fd fs fp fh : List D → CRes} (hD : DrawOk fd) (hS : SetOk fs) (hP : PairsOk fp) (hH : HandOk fh 3) : StepOk (runB 5 (B__law_step fd fs fp fh)) := by
  intro n m ds ns o o2 hM hw hn
  have om := hM.own
  suffices hs : ∃ (s : St) (m' : D) (o2' : Bool) (a b : Option D), B__law_step fd fs fp fh ⟨[some m, some (lsD o ds), some (lsD o2 ns), none, none], [true, o, o2]⟩ = .ok (.rt s.toD) ⟨[some m', some (lsD o ds), some (lsD o2' ns), a, b], [true, o, o2]⟩ ∧ s.good = true ∧ s.small = true ∧ Ms n m' ∧ (o2 = false → o2' = false) by
    obtain ⟨h, m', o2', a, b, q1, q2, q3, q4, q5⟩ := hs
    refine ⟨h, m', o2', ?_, q2, q3, q4, q5⟩
    have e0 : env0 5 [m, lsD o ds, lsD o2 ns] = ⟨[some m, some (lsD o ds), some (lsD o2 ns), none, none], [true, o, o2]⟩ := by simp [env0, om, lsD_own, List.replicate]
    rw [runB_ap, e0, q1]
    exact fin_step om q5
  obtain ⟨w, m2, w1, w2, M2⟩ := draw_call (n := n + 400) (i := 0) (e := ⟨[some m, some (lsD o ds), some (lsD o2 ns), none, none], [true, o, o2]⟩) (m := 6) (fe := pur (.int 6)) hD (hM.mono (by omega)) rfl rfl (by omega) (by omega)
  have teqT : ∀ (k : Int) (E : VI.Env), E.s[3]? = some (some (.int (w : Nat))) → (w : Int) = k → boolM (twoM true (varM 3) (pur (.int k)) eqD) E = .ok true E := fun k E h q => o_bool (o_two (o_var h) o_pur (by rw [eqD_i, decide_eq_true q]))
  have teqF : ∀ (k : Int) (E : VI.Env), E.s[3]? = some (some (.int (w : Nat))) → ¬ (w : Int) = k → boolM (twoM true (varM 3) (pur (.int k)) eqD) E = .ok false E := fun k E h q => o_bool (o_two (o_var h) o_pur (by rw [eqD_i, decide_eq_false q]))
  have tds : ∀ (E : VI.Env), E.s[1]? = some (some (lsD o ds)) → boolM (twoM true (varM 1) (lstM (pur [])) neD) E = .ok (!ds.isEmpty) E := fun E h => o_bool (o_two (o_var h) (o_lst o_pur) (ne_lsD _ _))
  have tdsB : ∀ (E : VI.Env) (b : Bool), E.s[1]? = some (some (lsD o ds)) → (!ds.isEmpty) = b → boolM (twoM true (varM 1) (lstM (pur [])) neD) E = .ok b E := fun E b h q => by rw [tds E h, q]
  unfold B__law_step
  rw [o_seq (o_as (i := 3) w1) rfl]
  by_cases c1 : (w : Int) = 0 ∧ ds ≠ []
  · have hl : 0 < ds.length := List.length_pos_iff.mpr c1.2
    have h8 := hw.2.2
    obtain ⟨q, m3, d1, d2, d3⟩ := draw_call (n := n) (i := 0) (e := ⟨[some m2, some (lsD o ds), some (lsD o2 ns), some (.int (w : Nat)), none], [true, o, o2]⟩) (m := (ds.length : Int)) (fe := oneM (varM 1) lenD) hD (M2.mono (by omega)) rfl (o_one (o_var rfl) (len_lsD o ds)) (by omega) (by omega)
    obtain ⟨x, hx, hix⟩ := ix_words (ds := ds) (o := o) (r := q) (by omega)
    have te : (!ds.isEmpty) = true := by simpa using c1.2
    exact ⟨.thn x, m3, o2, _, _, o_seq_rt (o_iteT (o_and1 (teqT 0 _ rfl c1.1) (tdsB _ true rfl te)) (o_ret (o_tup (o_cons o_pur (o_cons (o_two (o_var rfl) d1 hix) o_pur))))), by simp [St.good, hw.1 x hx], rfl, d3, fun z => z⟩
  · have s1 : iteM (VI.andM (boolM (twoM true (varM 3) (pur (.int 0)) eqD)) (boolM (twoM true (varM 1) (lstM (pur [])) neD))) (retM (tupM (consM (pur (.str "then")) (consM (twoM true (varM 1) (callM fd (narM 0 (argM (oneM (varM 1) lenD) (pur [])))) ixD) (pur []))))) (pur .nx) ⟨[some m2, some (lsD o ds), some (lsD o2 ns), some (.int (w : Nat)), none], [true, o, o2]⟩ = .ok .nx ⟨[some m2, some (lsD o ds), some (lsD o2 ns), some (.int (w : Nat)), none], [true, o, o2]⟩ := by
      by_cases c2 : (w : Int) = 0
      · have : (!ds.isEmpty) = false := by
          have : ds = [] := Classical.byContradiction fun z => c1 ⟨c2, z⟩
          rw [this]; rfl
        exact o_iteF (o_and1 (teqT 0 _ rfl c2) (tdsB _ false rfl this)) rfl
      · exact o_iteF (o_and2 (teqF 0 _ rfl c2)) rfl
    refine (fun {X : _ → Prop} (h : X _) => h) ?_
    by_cases c3 : (w : Int) = 1
    · obtain ⟨S, m3, a1, a2, a3⟩ := set_call hS (n := n) (ds := ds) (o := o) (r := [some (lsD o2 ns), some (.int (w : Nat)), none]) (p := [true, o, o2]) (M2.mono (by omega)) hw
      exact ⟨.hid S, m3, o2, _, _, o_seq s1 (o_seq_rt (o_iteT (teqT 1 _ rfl c3) (o_ret (o_tup (o_cons o_pur (o_cons a1 o_pur)))))), a2, rfl, a3, fun z => z⟩
    · by_cases c4 : (w : Int) = 2
      · obtain ⟨S, m3, a1, a2, a3⟩ := pairs_call hP (n := n) (ds := ds) (o := o) (r := [some (lsD o2 ns), some (.int (w : Nat)), none]) (p := [true, o, o2]) (M2.mono (by omega)) hw
        exact ⟨.als S, m3, o2, _, _, o_seq s1 (o_seq (o_iteF (teqF 1 _ rfl c3) (rfl : pur Fl.nx _ = _)) (o_seq_rt (o_iteT (teqT 2 _ rfl c4) (o_ret (o_tup (o_cons o_pur (o_cons a1 o_pur))))))), a2, rfl, a3, fun z => z⟩
      · obtain ⟨m3, r1, M3⟩ := room_put (i := 0) (v := 4) (e := ⟨[some m2, some (lsD o ds), some (lsD o2 ns), some (.int (w : Nat)), none], [true, o, o2]⟩) (fe := pur (.int 4)) M2 rfl rfl
        obtain ⟨h, m4, o3, a1, a2, a3, a4, M4, a6⟩ := hand_callK hH (n := n + 10) (ds := ds) (ns := ns) (o := o) (o2 := o2) (r := [some (.int (w : Nat)), none]) (p := [true, o, o2]) (fe := pur (.int 3)) (M3.mono (by simp [cost])) hw hn rfl
        have hsm : h.size ≤ 7 := by omega
        by_cases c5 : (w : Int) = 3
        · obtain ⟨S, m5, b1, b2, b3⟩ := set_call hS (n := n) (ds := ds) (o := o) (r := [some (lsD o3 ns), some (.int (w : Nat)), some h.toD]) (p := [true, o, o2]) (M4.mono (by omega)) hw
          exact ⟨.bes S h, m5, o3, _, _, o_seq s1 (o_seq (o_iteF (teqF 1 _ rfl c3) (rfl : pur Fl.nx _ = _)) (o_seq (o_iteF (teqF 2 _ rfl c4) (rfl : pur Fl.nx _ = _)) (o_seq r1 (o_seq (o_as (i := 4) a1) (o_seq_rt (o_iteT (teqT 3 _ rfl c5) (o_ret (o_tup (o_cons o_pur (o_cons b1 (o_cons (o_keep rfl h.own) o_pur))))))))))), by simp [St.good, b2, a2, isH_le hsm a3], by simp [St.small, hsm, a3], b3, a6⟩
        · have md := modD_p (i := (w : Int)) (show (0 : Int) < 2 by decide)
          have hx : (w : Int) % 2 = 0 ∨ (w : Int) % 2 = 1 := by omega
          rcases hx with hx | hx
          · rw [hx] at md
            exact ⟨.two false h, m4, o3, _, _, o_seq s1 (o_seq (o_iteF (teqF 1 _ rfl c3) (rfl : pur Fl.nx _ = _)) (o_seq (o_iteF (teqF 2 _ rfl c4) (rfl : pur Fl.nx _ = _)) (o_seq r1 (o_seq (o_as (i := 4) a1) (o_seq (o_iteF (teqF 3 _ rfl c5) (rfl : pur Fl.nx _ = _)) (o_ret (o_tup (o_cons (o_two (o_lst (o_cons o_pur (o_cons o_pur o_pur))) (o_two (o_var rfl) o_pur md) (by rfl)) (o_cons (o_keep rfl h.own) o_pur))))))))), by simp [St.good, a2, isH_le hsm a3], by simp [St.small, hsm, a3], M4.mono (by omega), a6⟩
          · rw [hx] at md
            exact ⟨.two true h, m4, o3, _, _, o_seq s1 (o_seq (o_iteF (teqF 1 _ rfl c3) (rfl : pur Fl.nx _ = _)) (o_seq (o_iteF (teqF 2 _ rfl c4) (rfl : pur Fl.nx _ = _)) (o_seq r1 (o_seq (o_as (i := 4) a1) (o_seq (o_iteF (teqF 3 _ rfl c5) (rfl : pur Fl.nx _ = _)) (o_ret (o_tup (o_cons (o_two (o_lst (o_cons o_pur (o_cons o_pur o_pur))) (o_two (o_var rfl) o_pur md) (by rfl)) (o_cons (o_keep rfl h.own) o_pur))))))))), by simp [St.good, a2, isH_le hsm a3], by simp [St.small, hsm, a3], M4.mono (by omega), a6⟩
theorem lput_run {h : Hd} {ss : List St} : runB 3 B__law_put [h.toD, stepsD ss] = .ok (putAll h ss).toD [h.toD, stepsD ss] := by
  have o1 := h.own
  have o2 := stepsD_own ss
  have op := (putAll h ss).own
  have it : itemsD (stepsD ss) = some (ss.map St.toD) := by simp [itemsD, stepsD, steps_owns]
  obtain ⟨o, hl⟩ := forM_steps (gt := gnM 2) (fb := iteM (boolM (twoM true (twoM true (varM 2) (pur (.int 0)) ixD) (pur (.str "then")) eqD)) (asgM 0 (tupM (consM (pur (.str "then")) (consM (twoM true (varM 2) (pur (.int 1)) ixD) (consM (keepM 0) (pur [])))))) (iteM (boolM (twoM true (twoM true (varM 2) (pur (.int 0)) ixD) (pur (.str "beside")) eqD)) (asgM 0 (tupM (consM (pur (.str "beside")) (consM (keepM 0) (consM (twoM true (varM 2) (pur (.int 1)) ixD) (consM (twoM true (varM 2) (pur (.int 2)) ixD) (pur []))))))) (asgM 0 (tupM (consM (twoM true (varM 2) (pur (.int 0)) ixD) (consM (keepM 0) (consM (twoM true (varM 2) (pur (.int 1)) ixD) (pur []))))))))
    (fun a o => ⟨[some a.toD, some (stepsD ss), o], [false, false]⟩) ss h none (fun s hs a o => ⟨⟨[some a.toD, some (stepsD ss), some s.toD], [false, false]⟩, by simp [gnM, Env.put], by
    have oa := a.own
    cases s with
    | thn d => simp [runB_ap, orun, env0, finL, obind_ok, obind_exc, oof_some, obool_bl, oslot_some, bnd_ap, pur_ap, varM_ap, keepM_ap, moveM_ap, plainM_ap, twoM_ap, oneM_ap, boolM_ap, andM_ap, orM_ap, notM_ap, andD_ap, orD_ap, notD_ap, iteM_ap, consM_ap, tupM_ap, lstM_ap, argM_ap, narM_ap, otake_some, ocres_ok, ocres_exc, callM_ap, exprM_ap, oput, asgM_ap, retM_ap, oseq_nx, oseq_rt, oseq_bk, oseq_ct, seqM_ap, raiseM_ap, seqI_ap, forS_ap, chainM_ap, partM_ap, sliceM_ap, asgtM_ap, takeA, backA, Env.put, Env.drop, own_non, own_bl, own_int, own_str, own_tup, own_lst, own_dct, own_exc, owns_nil, owns_cons, List.replicate, Bool.or_false, Bool.false_or, Bool.or_true, Bool.true_or, St.toD, St.on, Hd.toD, eq_str, ix0, ix1, oa]
    | two o b => cases o <;> simp [runB_ap, orun, env0, finL, obind_ok, obind_exc, oof_some, obool_bl, oslot_some, bnd_ap, pur_ap, varM_ap, keepM_ap, moveM_ap, plainM_ap, twoM_ap, oneM_ap, boolM_ap, andM_ap, orM_ap, notM_ap, andD_ap, orD_ap, notD_ap, iteM_ap, consM_ap, tupM_ap, lstM_ap, argM_ap, narM_ap, otake_some, ocres_ok, ocres_exc, callM_ap, exprM_ap, oput, asgM_ap, retM_ap, oseq_nx, oseq_rt, oseq_bk, oseq_ct, seqM_ap, raiseM_ap, seqI_ap, forS_ap, chainM_ap, partM_ap, sliceM_ap, asgtM_ap, takeA, backA, Env.put, Env.drop, own_non, own_bl, own_int, own_str, own_tup, own_lst, own_dct, own_exc, owns_nil, owns_cons, List.replicate, Bool.or_false, Bool.false_or, Bool.or_true, Bool.true_or, St.toD, St.on, Hd.toD, eq_str, ix0, ix1, oa, n_stop_spin, n_stop_name, n_stop_then, n_stop_out, n_stop_own, n_stop_beside, n_stop_hide, n_stop_as, n_spin_stop, n_spin_name, n_spin_then, n_spin_out, n_spin_own, n_spin_beside, n_spin_hide, n_spin_as, n_name_stop, n_name_spin, n_name_then, n_name_out, n_name_own, n_name_beside, n_name_hide, n_name_as, n_then_stop, n_then_spin, n_then_name, n_then_out, n_then_own, n_then_beside, n_then_hide, n_then_as, n_out_stop, n_out_spin, n_out_name, n_out_then, n_out_own, n_out_beside, n_out_hide, n_out_as, n_own_stop, n_own_spin, n_own_name, n_own_then, n_own_out, n_own_beside, n_own_hide, n_own_as, n_beside_stop, n_beside_spin, n_beside_name, n_beside_then, n_beside_out, n_beside_own, n_beside_hide, n_beside_as, n_hide_stop, n_hide_spin, n_hide_name, n_hide_then, n_hide_out, n_hide_own, n_hide_beside, n_hide_as, n_as_stop, n_as_spin, n_as_name, n_as_then, n_as_out, n_as_own, n_as_beside, n_as_hide, b.own]
    | bes S b => simp [runB_ap, orun, env0, finL, obind_ok, obind_exc, oof_some, obool_bl, oslot_some, bnd_ap, pur_ap, varM_ap, keepM_ap, moveM_ap, plainM_ap, twoM_ap, oneM_ap, boolM_ap, andM_ap, orM_ap, notM_ap, andD_ap, orD_ap, notD_ap, iteM_ap, consM_ap, tupM_ap, lstM_ap, argM_ap, narM_ap, otake_some, ocres_ok, ocres_exc, callM_ap, exprM_ap, oput, asgM_ap, retM_ap, oseq_nx, oseq_rt, oseq_bk, oseq_ct, seqM_ap, raiseM_ap, seqI_ap, forS_ap, chainM_ap, partM_ap, sliceM_ap, asgtM_ap, takeA, backA, Env.put, Env.drop, own_non, own_bl, own_int, own_str, own_tup, own_lst, own_dct, own_exc, owns_nil, owns_cons, List.replicate, Bool.or_false, Bool.false_or, Bool.or_true, Bool.true_or, St.toD, St.on, Hd.toD, eq_str, ix0, ix1, ix2, oa, n_stop_spin, n_stop_name, n_stop_then, n_stop_out, n_stop_own, n_stop_beside, n_stop_hide, n_stop_as, n_spin_stop, n_spin_name, n_spin_then, n_spin_out, n_spin_own, n_spin_beside, n_spin_hide, n_spin_as, n_name_stop, n_name_spin, n_name_then, n_name_out, n_name_own, n_name_beside, n_name_hide, n_name_as, n_then_stop, n_then_spin, n_then_name, n_then_out, n_then_own, n_then_beside, n_then_hide, n_then_as, n_out_stop, n_out_spin, n_out_name, n_out_then, n_out_own, n_out_beside, n_out_hide, n_out_as, n_own_stop, n_own_spin, n_own_name, n_own_then, n_own_out, n_own_beside, n_own_hide, n_own_as, n_beside_stop, n_beside_spin, n_beside_name, n_beside_then, n_beside_out, n_beside_own, n_beside_hide, n_beside_as, n_hide_stop, n_hide_spin, n_hide_name, n_hide_then, n_hide_out, n_hide_own, n_hide_beside, n_hide_as, n_as_stop, n_as_spin, n_as_name, n_as_then, n_as_out, n_as_own, n_as_beside, n_as_hide, b.own, setD'_own]
    | hid S => simp [runB_ap, orun, env0, finL, obind_ok, obind_exc, oof_some, obool_bl, oslot_some, bnd_ap, pur_ap, varM_ap, keepM_ap, moveM_ap, plainM_ap, twoM_ap, oneM_ap, boolM_ap, andM_ap, orM_ap, notM_ap, andD_ap, orD_ap, notD_ap, iteM_ap, consM_ap, tupM_ap, lstM_ap, argM_ap, narM_ap, otake_some, ocres_ok, ocres_exc, callM_ap, exprM_ap, oput, asgM_ap, retM_ap, oseq_nx, oseq_rt, oseq_bk, oseq_ct, seqM_ap, raiseM_ap, seqI_ap, forS_ap, chainM_ap, partM_ap, sliceM_ap, asgtM_ap, takeA, backA, Env.put, Env.drop, own_non, own_bl, own_int, own_str, own_tup, own_lst, own_dct, own_exc, owns_nil, owns_cons, List.replicate, Bool.or_false, Bool.false_or, Bool.or_true, Bool.true_or, St.toD, St.on, Hd.toD, eq_str, ix0, ix1, oa, n_stop_spin, n_stop_name, n_stop_then, n_stop_out, n_stop_own, n_stop_beside, n_stop_hide, n_stop_as, n_spin_stop, n_spin_name, n_spin_then, n_spin_out, n_spin_own, n_spin_beside, n_spin_hide, n_spin_as, n_name_stop, n_name_spin, n_name_then, n_name_out, n_name_own, n_name_beside, n_name_hide, n_name_as, n_then_stop, n_then_spin, n_then_name, n_then_out, n_then_own, n_then_beside, n_then_hide, n_then_as, n_out_stop, n_out_spin, n_out_name, n_out_then, n_out_own, n_out_beside, n_out_hide, n_out_as, n_own_stop, n_own_spin, n_own_name, n_own_then, n_own_out, n_own_beside, n_own_hide, n_own_as, n_beside_stop, n_beside_spin, n_beside_name, n_beside_then, n_beside_out, n_beside_own, n_beside_hide, n_beside_as, n_hide_stop, n_hide_spin, n_hide_name, n_hide_then, n_hide_out, n_hide_own, n_hide_beside, n_hide_as, n_as_stop, n_as_spin, n_as_name, n_as_then, n_as_out, n_as_own, n_as_beside, n_as_hide, setD'_own]
    | als S => simp [runB_ap, orun, env0, finL, obind_ok, obind_exc, oof_some, obool_bl, oslot_some, bnd_ap, pur_ap, varM_ap, keepM_ap, moveM_ap, plainM_ap, twoM_ap, oneM_ap, boolM_ap, andM_ap, orM_ap, notM_ap, andD_ap, orD_ap, notD_ap, iteM_ap, consM_ap, tupM_ap, lstM_ap, argM_ap, narM_ap, otake_some, ocres_ok, ocres_exc, callM_ap, exprM_ap, oput, asgM_ap, retM_ap, oseq_nx, oseq_rt, oseq_bk, oseq_ct, seqM_ap, raiseM_ap, seqI_ap, forS_ap, chainM_ap, partM_ap, sliceM_ap, asgtM_ap, takeA, backA, Env.put, Env.drop, own_non, own_bl, own_int, own_str, own_tup, own_lst, own_dct, own_exc, owns_nil, owns_cons, List.replicate, Bool.or_false, Bool.false_or, Bool.or_true, Bool.true_or, St.toD, St.on, Hd.toD, eq_str, ix0, ix1, oa, n_stop_spin, n_stop_name, n_stop_then, n_stop_out, n_stop_own, n_stop_beside, n_stop_hide, n_stop_as, n_spin_stop, n_spin_name, n_spin_then, n_spin_out, n_spin_own, n_spin_beside, n_spin_hide, n_spin_as, n_name_stop, n_name_spin, n_name_then, n_name_out, n_name_own, n_name_beside, n_name_hide, n_name_as, n_then_stop, n_then_spin, n_then_name, n_then_out, n_then_own, n_then_beside, n_then_hide, n_then_as, n_out_stop, n_out_spin, n_out_name, n_out_then, n_out_own, n_out_beside, n_out_hide, n_out_as, n_own_stop, n_own_spin, n_own_name, n_own_then, n_own_out, n_own_beside, n_own_hide, n_own_as, n_beside_stop, n_beside_spin, n_beside_name, n_beside_then, n_beside_out, n_beside_own, n_beside_hide, n_beside_as, n_hide_stop, n_hide_spin, n_hide_name, n_hide_then, n_hide_out, n_hide_own, n_hide_beside, n_hide_as, n_as_stop, n_as_spin, n_as_name, n_as_then, n_as_out, n_as_own, n_as_beside, n_as_hide, pairsD_own]⟩)
  have e0 : env0 3 [h.toD, stepsD ss] = ⟨[some h.toD, some (stepsD ss), none], [false, false]⟩ := by simp [env0, o1, o2, List.replicate]
  rw [runB_ap, e0]
  unfold B__law_put
  rw [o_seq (o_for (o_seqI (o_var rfl) it) hl) (o_ret (o_move rfl op))]
  simp [orun, finL, o1, o2]
theorem other_hand : runB 1 B__law_is_other [.exc "BadHand" []] = .ok (.bl false) [.exc "BadHand" []] := by kernel_rfl
theorem said_ok {f fo : List D → CRes} {h s d : D} (oh : h.own = false) (os : s.own = false) (od : d.own = false) (hf : f [h, s] = .ok d [h, s]) : runB 6 (B__law_said f fo) [h, s] = .ok d [h, s] := by
  have e0 : env0 6 [h, s] = ⟨[some h, some s, none, none, none, none], [false, false]⟩ := by simp [env0, oh, os, List.replicate]
  have ca : ∀ (a b c d' : Option D), callM f (narM 0 (narM 1 (pur []))) ⟨[some h, some s, a, b, c, d'], [false, false]⟩ = .ok d ⟨[some h, some s, a, b, c, d'], [false, false]⟩ := fun a b c d' => by
    simp [callM_ap, narM_ap, pur_ap, oslot_some, obind_ok, takeA, oh, os, otake_some, hf, ocres_ok, backA]
  have ex : tryM 4 em_HandError (asgM 3 (callM f (narM 0 (narM 1 (pur []))))) (asgM 2 (keepM 4)) ⟨[some h, some s, some .non, some .non, none, none], [false, false]⟩ = .ok .nx ⟨[some h, some s, some .non, some d, none, none], [false, false]⟩ := by
    unfold tryM
    rw [o_as (i := 3) (ca _ _ _ _)]
    rfl
  rw [runB_ap, e0]
  unfold B__law_said
  rw [o_seq (o_as (i := 2) o_pur) (o_seq (o_as (i := 3) o_pur) (o_seq ex (o_seq_rt (o_iteT (o_bool (o_two (o_var rfl) o_pur (by rfl))) (o_ret (o_move rfl od))))))]
  simp [orun, finL, oh, os]
theorem said_exc {f fo : List D → CRes} {h s : D} (oh : h.own = false) (os : s.own = false) (hf : f [h, s] = .exc "BadHand" [] [h, s]) (ho : fo [.exc "BadHand" []] = .ok (.bl false) [.exc "BadHand" []]) : runB 6 (B__law_said f fo) [h, s] = .ok (.str "hand") [h, s] := by
  have e0 : env0 6 [h, s] = ⟨[some h, some s, none, none, none, none], [false, false]⟩ := by simp [env0, oh, os, List.replicate]
  have ca : ∀ (a b c d' : Option D), asgM 3 (callM f (narM 0 (narM 1 (pur [])))) ⟨[some h, some s, a, b, c, d'], [false, false]⟩ = .exc "BadHand" [] ⟨[some h, some s, a, b, c, d'], [false, false]⟩ := fun a b c d' => by
    simp [asgM_ap, callM_ap, narM_ap, pur_ap, oslot_some, obind_ok, takeA, oh, os, otake_some, hf, ocres_exc, backA, obind_exc]
  have te : em_HandError.lookup ("BadHand" : Str) = some true := by kernel_rfl
  have ex : tryM 4 em_HandError (asgM 3 (callM f (narM 0 (narM 1 (pur []))))) (asgM 2 (keepM 4)) ⟨[some h, some s, some .non, some .non, none, none], [false, false]⟩ = .ok .nx ⟨[some h, some s, some (.exc "BadHand" []), some .non, none, none], [false, false]⟩ := by
    unfold tryM
    rw [ca]
    dsimp only
    rw [te]
    rfl
  have i1 : isiD tb_BadHand te_BadHand (.exc "BadHand" []) = some (.bl true) := by kernel_rfl
  have i2 : isiD tb_ValueError te_ValueError (.exc "BadHand" []) = some (.bl true) := by kernel_rfl
  have cb : ∀ (a b c d' : Option D), callM fo (narM 2 (pur [])) ⟨[some h, some s, some (.exc "BadHand" []), a, b, c], [false, false]⟩ = .ok (.bl false) ⟨[some h, some s, some (.exc "BadHand" []), a, b, c], [false, false]⟩ := fun a b c d' => by
    simp [callM_ap, narM_ap, pur_ap, oslot_some, obind_ok, takeA, own_exc, D.ownf, otake_some, ho, ocres_ok, backA]
  have an : andD (oneM (varM 2) (isiD tb_BadHand te_BadHand)) (andD (oneM (varM 2) (isiD tb_ValueError te_ValueError)) (notD (callM fo (narM 2 (pur []))))) ⟨[some h, some s, some (.exc "BadHand" []), some .non, none, none], [false, false]⟩ = .ok (.bl true) ⟨[some h, some s, some (.exc "BadHand" []), some .non, none, none], [false, false]⟩ := by
    simp [andD_ap, notD_ap, oneM_ap, varM_ap, oslot_some, obind_ok, oof_some, obool_bl, i1, i2, cb _ _ _ none]
  rw [runB_ap, e0]
  unfold B__law_said
  rw [o_seq (o_as (i := 2) o_pur) (o_seq (o_as (i := 3) o_pur) (o_seq ex (o_seq (o_iteF (o_bool (o_two (o_var rfl) o_pur (by rfl))) (rfl : pur Fl.nx _ = _)) (o_seq (o_as (i := 5) an) (o_ret (o_iteT (o_bool (o_var rfl)) o_pur))))))]
  simp [orun, finL, oh, os, Env.put]
end PL
/-! Q14: the law's chains and bushes; its bounds -/
namespace PL
open PySem PySem.Spec L2 VI
def chainH : Nat → Hd
  | 0 => .stop
  | k + 1 => .thn "a" (chainH k)
theorem a_ok : isW "a" = true := by decide +kernel
theorem b_ok : isW "b" = true := by decide +kernel
theorem x_ok : isW "x" = true := by decide +kernel
theorem chain_good : ∀ k, (chainH k).good = true
  | 0 => rfl
  | k + 1 => by simp [chainH, Hd.good, a_ok, chain_good k]
theorem chain_size : ∀ k, (chainH k).size = k + 1 ∧ (chainH k).deep = k + 1
  | 0 => ⟨rfl, rfl⟩
  | k + 1 => by have := chain_size k; simp [chainH, Hd.size, Hd.deep]; omega
def ChainOk (f : List D → CRes) : Prop := ∀ k : Nat, k ≤ 100 → f [.int (k : Nat)] = .ok (chainH k).toD [.int (k : Nat)]
theorem small62_n {k : Nat} (h : k ≤ 1000000) : small62 (k : Int) = true := by
  unfold small62
  rw [decide_eq_true (by omega), decide_eq_true (by omega)]
  rfl
theorem o_range1 {fe : M D} {e e1 : VI.Env} {k : Nat} (h : fe e = .ok (.int (k : Nat)) e1) (hk : k ≤ 1000000) : range1I fe e = .ok (rangeD 0 k) e1 := by
  unfold range1I
  rw [bnd_ap, h, obind_ok]
  simp only [small62_n hk, if_true]
  rfl
theorem chain_run : ChainOk (runB 3 B__law_chain) := by
  intro k hk
  obtain ⟨e', q1, x, q2⟩ := forM_run (gt := gnM 2) (fb := asgM 1 (tupM (consM (pur (.str "then")) (consM (pur (.str "a")) (consM (keepM 1) (pur [])))))) (fun i e => ∃ x, e = ⟨[some (.int (k : Nat)), some (chainH i).toD, x], [false]⟩) (rangeD 0 k) 0 ⟨[some (.int (k : Nat)), some (chainH 0).toD, none], [false]⟩ ⟨_, rfl⟩
    (fun j d e hd hp => by
      obtain ⟨x, rfl⟩ := hp
      obtain ⟨rfl, hj⟩ := rangeD_get hd
      refine ⟨rfl, ⟨[some (.int (k : Nat)), some (chainH (0 + j)).toD, some (.int (0 + (j : Int)))], [false]⟩, _, by simp [gnM, Env.put], o_as (i := 1) (o_tup (o_cons o_pur (o_cons o_pur (o_cons (o_keep rfl (Hd.own _)) o_pur)))), some (.int (0 + (j : Int))), rfl⟩)
  subst q2
  rw [rangeD_len] at q1
  simp only [Nat.zero_add, Int.sub_zero, Int.toNat_natCast] at q1
  have e0 : env0 3 [.int (k : Nat)] = ⟨[some (.int (k : Nat)), none, none], [false]⟩ := by simp [env0, own_int, List.replicate]
  rw [runB_ap, e0]
  unfold B__law_chain
  rw [o_seq (o_as (i := 1) (o_tup (o_cons o_pur o_pur))) (o_seq (o_for (o_range1 (o_var rfl) (by omega)) q1) (o_ret (o_move rfl (Hd.own _))))]
  simp [orun, finL, own_int]
def bushF : Nat → Nat → Hd
  | 0, _ => .stop
  | k + 1, n => if n < 2 then .stop else .two true (bushF k (n / 2)) (bushF k (n - n / 2))
theorem bush_good : ∀ k n, (bushF k n).good = true
  | 0, _ => rfl
  | k + 1, n => by
    unfold bushF
    split
    · rfl
    · simp [Hd.good, bush_good k]
theorem int_call {f : List D → CRes} {fe : M D} {e : VI.Env} {k : Nat} {d : D} (h : fe e = .ok (.int (k : Nat)) e) (hf : f [.int (k : Nat)] = .ok d [.int (k : Nat)]) : callM f (argM fe (pur [])) e = .ok d e := by
  simp [callM_ap, argM_ap, h, obind_ok, pur_ap, takeA, otake_some, hf, ocres_ok, backA]
theorem bush_run {f : List D → CRes} {k n : Nat} (hf : ∀ m, m ≤ 2 ^ k → f [.int (m : Nat)] = .ok (bushF k m).toD [.int (m : Nat)]) (hn : n ≤ 2 ^ (k + 1)) : runB 1 (B__law_bush f) [.int (n : Nat)] = .ok (bushF (k + 1) n).toD [.int (n : Nat)] := by
  have e0 : env0 1 [.int (n : Nat)] = ⟨[some (.int (n : Nat))], [false]⟩ := by simp [env0, own_int]
  have h2 : 2 ^ (k + 1) = 2 * 2 ^ k := by rw [Nat.pow_succ]; omega
  rw [runB_ap, e0]
  unfold B__law_bush bushF
  by_cases c : n < 2
  · rw [o_seq_rt (o_iteT (o_bool (o_two (o_var rfl) o_pur (by rw [ltD_i, decide_eq_true (show (n : Int) < 2 by omega)]))) (o_ret (o_tup (o_cons o_pur o_pur)))), if_pos c]
    simp [orun, finL, own_int, Hd.toD]
  · have d1 : fdivD (.int (n : Int)) (.int 2) = some (.int ((n / 2 : Nat) : Int)) := by
      rw [fdivD_p (by decide) (by decide), Int.natCast_ediv]; rfl
    have d2 : subD (.int (n : Int)) (.int ((n / 2 : Nat) : Int)) = some (.int ((n - n / 2 : Nat) : Int)) := by
      rw [subD_i]
      congr 2
      omega
    have f1 := int_call (fe := twoM true (varM 0) (pur (.int 2)) fdivD) (e := ⟨[some (.int (n : Nat))], [false]⟩) (o_two (o_var rfl) o_pur d1) (hf (n / 2) (by omega))
    have f2 := int_call (fe := twoM true (varM 0) (twoM true (varM 0) (pur (.int 2)) fdivD) subD) (e := ⟨[some (.int (n : Nat))], [false]⟩) (o_two (o_var rfl) (o_two (o_var rfl) o_pur d1) d2) (hf (n - n / 2) (by omega))
    rw [o_seq (o_iteF (o_bool (o_two (o_var rfl) o_pur (by rw [ltD_i, decide_eq_false (show ¬ (n : Int) < 2 by omega)]))) (rfl : pur Fl.nx _ = _)) (o_ret (o_tup (o_cons o_pur (o_cons f1 (o_cons f2 o_pur))))), if_neg c]
    simp [orun, finL, own_int, Hd.toD]
/-! what the law says of put_round -/
def SaidOk (f : List D → CRes) : Prop := ∀ (h : Hd) (ss : List St), h.good = true → (∀ s ∈ ss, s.good = true) → ss.length ≤ 10 → h.size < 100000 → (putAll h ss).size < 100000 → f [h.toD, stepsD ss] = .ok (if isH h && isH (putAll h ss) then (putAll h ss).toD else .str "hand") [h.toD, stepsD ss]
theorem round_bad {fn fs fo : List D → CRes} {h s : D} (oh : h.own = false) (os : s.own = false) (hn : fn [h] = .exc "BadHand" [] [h]) : runB 3 (B_put_round fn fs fo) [h, s] = .exc "BadHand" [] [h, s] := by
  simp [B_put_round, runB_ap, orun, env0, finL, obind_ok, obind_exc, oof_some, obool_bl, oslot_some, bnd_ap, pur_ap, varM_ap, keepM_ap, moveM_ap, plainM_ap, twoM_ap, oneM_ap, boolM_ap, andM_ap, orM_ap, notM_ap, andD_ap, orD_ap, notD_ap, iteM_ap, consM_ap, tupM_ap, lstM_ap, argM_ap, narM_ap, otake_some, ocres_ok, ocres_exc, callM_ap, exprM_ap, oput, asgM_ap, retM_ap, oseq_nx, oseq_rt, oseq_bk, oseq_ct, seqM_ap, raiseM_ap, seqI_ap, forS_ap, chainM_ap, partM_ap, sliceM_ap, asgtM_ap, takeA, backA, Env.put, Env.drop, own_non, own_bl, own_int, own_str, own_tup, own_lst, own_dct, own_exc, owns_nil, owns_cons, List.replicate, Bool.or_false, Bool.false_or, Bool.or_true, Bool.true_or, oh, os, hn]
theorem said_gen {fr fo fn fs fp : List D → CRes} (hr : fr = runB 3 (B_put_round fn fs fp)) (hn : ∀ h : Hd, h.good = true → h.size < 100000 → fn [h.toD] = if isH h = true then .ok .non [h.toD] else .exc "BadHand" [] [h.toD]) (hp : ∀ (h : Hd) (s : St), fp [h.toD, s.toD] = .ok (s.on h).toD [h.toD, s.toD])
    (hs : ∀ ss : List St, (∀ s ∈ ss, s.good = true) → ss.length ≤ 10 → fs [stepsD ss] = .ok .non [stepsD ss]) (ho : fo [.exc "BadHand" []] = .ok (.bl false) [.exc "BadHand" []]) : SaidOk (runB 6 (B__law_said fr fo)) := by
  intro h ss g gs hl hz hz2
  by_cases c : isH h = true
  · have r := round_run (fn := fn) (fs := fs) (fo := fp) hn hp (hs ss gs hl) g gs hz2 c
    by_cases c2 : isH (putAll h ss) = true
    · rw [if_pos c2, ← hr] at r
      rw [said_ok h.own (stepsD_own ss) (Hd.own _) r, c, c2]
      rfl
    · rw [if_neg c2, ← hr] at r
      rw [said_exc h.own (stepsD_own ss) r ho, if_neg (by simp [c2])]
  · have r := hn h g hz
    rw [if_neg c] at r
    have r2 := round_bad (fs := fs) (fo := fp) h.own (stepsD_own ss) r
    rw [← hr] at r2
    rw [said_exc h.own (stepsD_own ss) r2 ho, if_neg (by simp [c])]
def PutOk (f : List D → CRes) : Prop := ∀ (h : Hd) (ss : List St), f [h.toD, stepsD ss] = .ok (putAll h ss).toD [h.toD, stepsD ss]
def ledS (k : Nat) : List St := List.replicate k (.thn "b")
theorem led_mul {k : Nat} (h : k < 10) : mulD (.tup [.tup [.str "then", .str "b"]]) (.int (k : Nat)) = some (stepsD (ledS k)) := by
  have : k = 0 ∨ k = 1 ∨ k = 2 ∨ k = 3 ∨ k = 4 ∨ k = 5 ∨ k = 6 ∨ k = 7 ∨ k = 8 ∨ k = 9 := by omega
  rcases this with rfl | rfl | rfl | rfl | rfl | rfl | rfl | rfl | rfl | rfl <;> kernel_rfl
theorem led_good (k : Nat) : ∀ s ∈ ledS k, s.good = true := fun s hs => by
  rw [List.eq_of_mem_replicate hs]
  exact b_ok
theorem put_led : ∀ (k : Nat) (h : Hd), (putAll h (ledS k)).size = h.size + k ∧ (putAll h (ledS k)).deep = h.deep + k
  | 0, h => ⟨rfl, rfl⟩
  | k + 1, h => by
    have ih := put_led k (.thn "b" h)
    have e : putAll h (ledS (k + 1)) = putAll (.thn "b" h) (ledS k) := rfl
    rw [e, ih.1, ih.2]
    simp [Hd.size, Hd.deep]
    omega
theorem ss_call {f : List D → CRes} {fa : M D} {i : Nat} {e : VI.Env} {h s d : D} (ha : fa e = .ok h e) (hs : e.s[i]? = some (some s)) (os : s.own = false) (hf : f [h, s] = .ok d [h, s]) : callM f (argM fa (narM i (pur []))) e = .ok d e := by
  simp [callM_ap, argM_ap, narM_ap, ha, hs, obind_ok, oslot_some, pur_ap, takeA, os, otake_some, hf, ocres_ok, backA]
theorem nn_call {f : List D → CRes} {i j : Nat} {e : VI.Env} {h s d : D} (hh : e.s[i]? = some (some h)) (oh : h.own = false) (hs : e.s[j]? = some (some s)) (os : s.own = false) (hf : f [h, s] = .ok d [h, s]) : callM f (narM i (narM j (pur []))) e = .ok d e := by
  simp [callM_ap, narM_ap, hh, hs, obind_ok, oslot_some, pur_ap, takeA, oh, os, otake_some, hf, ocres_ok, backA]
theorem na_call {f : List D → CRes} {i : Nat} {fa : M D} {e : VI.Env} {h s d : D} (hh : e.s[i]? = some (some h)) (oh : h.own = false) (hs : fa e = .ok s e) (hf : f [h, s] = .ok d [h, s]) : callM f (narM i (argM fa (pur []))) e = .ok d e := by
  simp [callM_ap, argM_ap, narM_ap, hh, hs, obind_ok, oslot_some, pur_ap, takeA, oh, otake_some, hf, ocres_ok, backA]
theorem n_call {f : List D → CRes} {i : Nat} {e : VI.Env} {h d : D} (hh : e.s[i]? = some (some h)) (oh : h.own = false) (hf : f [h] = .ok d [h]) : callM f (narM i (pur [])) e = .ok d e := by
  simp [callM_ap, narM_ap, hh, obind_ok, oslot_some, pur_ap, takeA, oh, otake_some, hf, ocres_ok, backA]
def bushH : Hd := bushF 10 100
def someS : List (List St) := [[.hid []], [.als []], [.thn "x"], [.hid ["a", "b"]]]
def someChk : Bool := someS.all fun ss => ss.all (fun s => s.good) && isH (putAll bushH ss) && !isH (putAll bushH (ss ++ ss)) && decide (ss.length = 1) && decide ((putAll bushH (ss ++ ss)).size < 1000)
theorem some_ok : someChk = true := by decide +kernel
theorem bushH_ok : isH bushH = true := by decide +kernel
theorem bushH_size : bushH.size < 100000 := by decide +kernel
theorem some_ix {r : Nat} (h : r < 4) : ∃ ss ∈ someS, ixD (.lst true [.tup [.tup [.str "hide", .tup []]], .tup [.tup [.str "as", .tup []]], .tup [.tup [.str "then", .str "x"]], .tup [.tup [.str "hide", .tup [.str "a", .str "b"]]]]) (.int (r : Nat)) = some (stepsD ss) := by
  have : r = 0 ∨ r = 1 ∨ r = 2 ∨ r = 3 := by omega
  rcases this with rfl | rfl | rfl | rfl
  · exact ⟨[.hid []], by simp [someS], by kernel_rfl⟩
  · exact ⟨[.als []], by simp [someS], by kernel_rfl⟩
  · exact ⟨[.thn "x"], by simp [someS], by kernel_rfl⟩
  · exact ⟨[.hid ["a", "b"]], by simp [someS], by kernel_rfl⟩
theorem one_ix {r : Nat} (h : r < 2) : ∃ (w : Str) (b : Bool), ixD (.lst true [.str "out", .str "own"]) (.int (r : Nat)) = some (.str w) ∧ D.tup [.str w, .tup [.str "stop"]] = (St.two b .stop).toD := by
  have : r = 0 ∨ r = 1 := by omega
  rcases this with rfl | rfl
  · exact ⟨"out", false, by rfl, rfl⟩
  · exact ⟨"own", true, by rfl, rfl⟩
theorem steps_app (a b : List St) : addD (stepsD a) (stepsD b) = if a.length + b.length ≤ 16777216 then some (stepsD (a ++ b)) else none := by
  simp [addD, stepsD, steps_owns]
end PL
/-! Q15: the law's bounds; its turns -/
namespace PL
open PySem PySem.Spec L2 VI
theorem ne_str_same (t : Str) : neD (.str t) (.str t) = some (.bl false) := by rw [ne_str]; simp
theorem said_t {f : List D → CRes} (hf : SaidOk f) {h : Hd} {ss : List St} (g : h.good = true) (gs : ∀ s ∈ ss, s.good = true) (hl : ss.length ≤ 10) (hz : h.size < 100000) (hz2 : (putAll h ss).size < 100000) (c : (isH h && isH (putAll h ss)) = true) : f [h.toD, stepsD ss] = .ok (putAll h ss).toD [h.toD, stepsD ss] := by
  rw [hf h ss g gs hl hz hz2, if_pos c]
theorem said_f {f : List D → CRes} (hf : SaidOk f) {h : Hd} {ss : List St} (g : h.good = true) (gs : ∀ s ∈ ss, s.good = true) (hl : ss.length ≤ 10) (hz : h.size < 100000) (hz2 : (putAll h ss).size < 100000) (c : (isH h && isH (putAll h ss)) = false) : f [h.toD, stepsD ss] = .ok (.str "hand") [h.toD, stepsD ss] := by
  rw [hf h ss g gs hl hz hz2, c]
  rfl
theorem bounds_run {fd fs fc fp fb : List D → CRes} (hD : DrawOk fd) (hS : SaidOk fs) (hC : ChainOk fc) (hP : PutOk fp) (hB : fb [.int 100] = .ok bushH.toD [.int 100]) {n : Nat} {m : D} (hM : Ms (n + 3) m) : ∃ m', runB 7 (B__law_bounds_right fd fs fc fp fb) [m] = .ok (.bl true) [m'] := by
  have om := hM.own
  suffices hs : ∃ (m' : D) (r : List (Option D)), B__law_bounds_right fd fs fc fp fb ⟨[some m, none, none, none, none, none, none], [true]⟩ = .ok (.rt (.bl true)) ⟨some m' :: r, [true]⟩ by
    obtain ⟨m', r, q⟩ := hs
    refine ⟨m', ?_⟩
    have e0 : env0 7 [m] = ⟨[some m, none, none, none, none, none, none], [true]⟩ := by simp [env0, om, List.replicate]
    rw [runB_ap, e0, q]
    simp [orun, finL, om]
  obtain ⟨k, m1, a1, k10, M1⟩ := draw_call (n := n + 2) (i := 0) (e := ⟨[some m, none, none, none, none, none, none], [true]⟩) (m := 10) (fe := pur (.int 10)) hD hM rfl rfl (by omega) (by omega)
  have k10' : k < 10 := by omega
  have ol := stepsD_own (ledS k)
  have gl := led_good k
  have ll : (ledS k).length ≤ 10 := by simp [ledS]; omega
  -- the chains
  obtain ⟨c1, c2⟩ := chain_size (39 - k)
  obtain ⟨c3, c4⟩ := chain_size (40 - k)
  obtain ⟨p1, p2⟩ := put_led k (chainH (39 - k))
  obtain ⟨p3, p4⟩ := put_led k (chainH (40 - k))
  have i1 : isH (chainH (39 - k)) = true := by simp [isH]; omega
  have i2 : isH (putAll (chainH (39 - k)) (ledS k)) = true := by simp [isH]; omega
  have i3 : isH (putAll (chainH (40 - k)) (ledS k)) = false := by simp [isH]; omega
  have s1 := said_t hS (chain_good (39 - k)) gl ll (by omega) (by omega) (by rw [i1, i2]; rfl)
  have s2 := said_f hS (chain_good (40 - k)) gl ll (by omega) (by omega) (by rw [i3, Bool.and_false])
  obtain ⟨t1, rt1⟩ := repr_hand (put_good (chain_good (39 - k)) gl) i2
  have e39 : subD (.int 39) (.int (k : Nat)) = some (.int ((39 - k : Nat) : Int)) := by rw [subD_i]; congr 2; omega
  have e40 : subD (.int 40) (.int (k : Nat)) = some (.int ((40 - k : Nat) : Int)) := by rw [subD_i]; congr 2; omega
  -- the bush
  obtain ⟨r, m2, a2, r4, M2⟩ := draw_call (n := n + 1) (i := 0) (e := ⟨[some m1, some (.int (k : Nat)), some (stepsD (ledS k)), some bushH.toD, none, none, none], [true]⟩) (m := 4) (fe := pur (.int 4)) hD M1 rfl rfl (by omega) (by omega)
  obtain ⟨ss, hss, hix⟩ := some_ix (r := r) (by omega)
  have sk := List.all_eq_true.mp some_ok ss hss
  simp only [Bool.and_eq_true, decide_eq_true_eq, Bool.not_eq_true', List.all_eq_true] at sk
  obtain ⟨⟨⟨⟨k1, k2⟩, k3⟩, k4⟩, k5⟩ := sk
  have gb : bushH.good = true := bush_good _ _
  have gss : ∀ s ∈ ss ++ ss, s.good = true := fun s hs => (List.mem_append.mp hs).elim (k1 s) (k1 s)
  have sz1 : (putAll bushH ss).size < 100000 := by simp [isH] at k2; omega
  have s3 := said_t hS gb k1 (by omega) bushH_size sz1 (by rw [bushH_ok, k2]; rfl)
  have s4 := said_f hS gb gss (by simp; omega) bushH_size (by omega) (by rw [k3, Bool.and_false])
  obtain ⟨t2, rt2⟩ := repr_hand (put_good gb k1) k2
  obtain ⟨q, m3, a3, q2, M3⟩ := draw_call (n := n) (i := 0) (e := ⟨[some m2, some (.int (k : Nat)), some (stepsD (ledS k)), some bushH.toD, some (stepsD ss), none, none], [true]⟩) (m := 2) (fe := pur (.int 2)) hD M2 rfl rfl (by omega) (by omega)
  obtain ⟨w, b, hw, hwe⟩ := one_ix (r := q) (by omega)
  have g1 : ∀ s ∈ [St.two b .stop], s.good = true := fun s hs => by
    simp at hs
    subst hs
    rfl
  have g2 : ∀ s ∈ [St.bes ["a"] .spin], s.good = true := fun s hs => by
    simp at hs
    subst hs
    decide +kernel
  have n1 : isH (putAll bushH [St.two b .stop]) = false := by cases b <;> decide +kernel
  have n2 : isH (putAll bushH [St.bes ["a"] .spin]) = false := by decide +kernel
  have z1 : (putAll bushH [St.two b .stop]).size < 100000 := by cases b <;> decide +kernel
  have z2 : (putAll bushH [St.bes ["a"] .spin]).size < 100000 := by decide +kernel
  have s5 := said_f hS gb g1 (by simp) bushH_size z1 (by rw [n1, Bool.and_false])
  have s6 := said_f hS gb g2 (by simp) bushH_size z2 (by rw [n2, Bool.and_false])
  have ap : addD (stepsD ss) (stepsD ss) = some (stepsD (ss ++ ss)) := by rw [steps_app, if_pos (by omega)]
  have oss := stepsD_own ss
  have obh := bushH.own
  have eqh : eqD (.str "hand") (.str "hand") = some (.bl true) := by rw [eq_str]; simp
  have neh : neD (.str "hand") (.str "hand") = some (.bl false) := ne_str_same _
  have x39 := int_call (f := fc) (fe := twoM true (pur (.int 39)) (varM 1) subD) (e := ⟨[some m1, some (.int (k : Nat)), some (stepsD (ledS k)), none, none, none, none], [true]⟩) (o_two o_pur (o_var rfl) e39) (hC (39 - k) (by omega))
  have x40 := int_call (f := fc) (fe := twoM true (pur (.int 40)) (varM 1) subD) (e := ⟨[some m1, some (.int (k : Nat)), some (stepsD (ledS k)), none, none, none, none], [true]⟩) (o_two o_pur (o_var rfl) e40) (hC (40 - k) (by omega))
  have y1 := ss_call (i := 2) (f := fs) x39 rfl ol s1
  have y2 := ss_call (i := 2) (f := fp) x39 rfl ol (hP (chainH (39 - k)) (ledS k))
  have y3 := ss_call (i := 2) (f := fs) x40 rfl ol s2
  have y4 := int_call (k := 100) (f := fb) (fe := pur (.int 100)) (e := ⟨[some m1, some (.int (k : Nat)), some (stepsD (ledS k)), none, none, none, none], [true]⟩) rfl hB
  have y5 := nn_call (i := 3) (j := 4) (f := fs) (e := ⟨[some m2, some (.int (k : Nat)), some (stepsD (ledS k)), some bushH.toD, some (stepsD ss), none, none], [true]⟩) rfl obh rfl oss s3
  have y6 := nn_call (i := 3) (j := 4) (f := fp) (e := ⟨[some m2, some (.int (k : Nat)), some (stepsD (ledS k)), some bushH.toD, some (stepsD ss), none, none], [true]⟩) rfl obh rfl oss (hP bushH ss)
  have y7 := na_call (i := 3) (fa := twoM true (varM 4) (varM 4) addD) (f := fs) (e := ⟨[some m2, some (.int (k : Nat)), some (stepsD (ledS k)), some bushH.toD, some (stepsD ss), none, none], [true]⟩) rfl obh (o_two (o_var rfl) (o_var rfl) ap) s4
  have y8 := na_call (i := 3) (fa := tupM (consM (keepM 5) (pur []))) (f := fs) (e := ⟨[some m3, some (.int (k : Nat)), some (stepsD (ledS k)), some bushH.toD, some (stepsD ss), some (St.two b .stop).toD, some (St.bes ["a"] .spin).toD], [true]⟩) rfl obh (o_tup (o_cons (o_keep rfl (St.own _)) o_pur)) s5
  have y9 := na_call (i := 3) (fa := tupM (consM (keepM 6) (pur []))) (f := fs) (e := ⟨[some m3, some (.int (k : Nat)), some (stepsD (ledS k)), some bushH.toD, some (stepsD ss), some (St.two b .stop).toD, some (St.bes ["a"] .spin).toD], [true]⟩) rfl obh (o_tup (o_cons (o_keep rfl (St.own _)) o_pur)) s6
  refine ⟨m3, [some (.int (k : Nat)), some (stepsD (ledS k)), some bushH.toD, some (stepsD ss), some (St.two b .stop).toD, some (St.bes ["a"] .spin).toD], ?_⟩
  unfold B__law_bounds_right
  refine o_seq (o_as (i := 1) a1) (o_seq (o_as (i := 2) (o_two (o_tup (o_cons (o_tup (o_cons o_pur (o_cons o_pur o_pur))) o_pur)) (o_var rfl) (led_mul k10'))) (o_seq (o_iteF (o_bool (o_two (o_one y1 rt1) (o_one y2 rt1) (ne_str_same _))) (rfl : pur Fl.nx _ = _)) (o_seq (o_iteF (o_bool (o_two y3 o_pur neh (by rfl))) (rfl : pur Fl.nx _ = _)) (o_seq (o_as (i := 3) y4) (o_seq (o_as (i := 4) (o_two (o_lst (o_cons (o_tup (o_cons (o_tup (o_cons o_pur (o_cons (o_tup o_pur) o_pur))) o_pur)) (o_cons (o_tup (o_cons (o_tup (o_cons o_pur (o_cons (o_tup o_pur) o_pur))) o_pur)) (o_cons (o_tup (o_cons (o_tup (o_cons o_pur (o_cons o_pur o_pur))) o_pur)) (o_cons (o_tup (o_cons (o_tup (o_cons o_pur (o_cons (o_tup (o_cons o_pur (o_cons o_pur o_pur))) o_pur))) o_pur)) o_pur))))) a2 hix)) (o_seq (o_iteF (o_or2 (o_bool (o_two (o_one y5 rt2) (o_one y6 rt2) (ne_str_same _))) (o_bool (o_two y7 o_pur neh (by rfl)))) (rfl : pur Fl.nx _ = _)) (o_seq (o_as (i := 5) (o_tup (o_cons (o_two (o_lst (o_cons o_pur (o_cons o_pur o_pur))) a3 hw) (o_cons (o_tup (o_cons o_pur o_pur)) o_pur)))) (o_seq (o_as (i := 6) (o_tup (o_cons o_pur (o_cons (o_tup (o_cons o_pur o_pur)) (o_cons (o_tup (o_cons o_pur o_pur)) o_pur))))) ?_))))))))
  rw [hwe]
  refine o_ret ?_
  rw [andD_ap]
  erw [o_two y8 o_pur eqh (by rfl)]
  rw [obind_ok, obool_bl, obind_ok, if_pos rfl]
  exact o_two y9 o_pur eqh (by rfl)
end PL
/-! Q16: law k80 -/
namespace PL
open PySem PySem.Spec L2 VI
def turn80 (f__law_words f__law_draw f__law_hand f__law_step f__law_put f_need_surroundings f__law_said : List D → CRes) : M Fl := (seqM (asgM 4 (callM f__law_words (narM 1 (argM (twoM true (lstM (consM (pur (.int 0)) (consM (pur (.int 1)) (consM (pur (.int 2)) (consM (pur (.int 2)) (consM (pur (.int 3)) (consM (pur (.int 8)) (pur [])))))))) (callM f__law_draw (narM 1 (argM (pur (.int 6)) (pur [])))) ixD) (pur [])))))
    (seqM (asgM 5 (callM f__law_words (narM 1 (argM (pur (.int 2)) (pur [])))))
    (seqM (storeM 1 (pur (.int 12)) (rootM 1) (pur (.str "room")))
    (seqM (asgM 6 (callM f__law_hand (narM 1 (narM 4 (narM 5 (argM (twoM true (pur (.int 2)) (callM f__law_draw (narM 1 (argM (pur (.int 4)) (pur [])))) addD) (pur [])))))))
    (seqM (asgM 7 (twoM true (lstM (consM (pur (.int 0)) (consM (pur (.int 1)) (consM (pur (.int 1)) (consM (pur (.int 2)) (consM (pur (.int 3)) (consM (pur (.int 10)) (pur [])))))))) (callM f__law_draw (narM 1 (argM (pur (.int 6)) (pur [])))) ixD))
    (seqM (asgM 8 (oneM (compM [10] (range1I (varM 7)) (gnM 10) (pur true) (callM f__law_step (narM 1 (narM 4 (narM 5 (pur [])))))) tupleD))
    (seqM (asgM 9 (callM f__law_put (narM 6 (narM 8 (pur [])))))
    (seqM (iteM (VI.orM (boolM (twoM true (callM f_need_surroundings (narM 8 (pur []))) (pur .non) notND)) (boolM (twoM true (oneM (callM f__law_said (narM 6 (narM 8 (pur [])))) reprD) (oneM (varM 9) reprD) neD))) (retM (pur (.bl false))) (pur .nx))
    (exprM (mthM 2 "list" appendG (rootM 2) (consM (tupM (consM (keepM 6) (consM (keepM 8) (consM (keepM 9) (pur []))))) (pur []))))))))))))
def again80 (f__law_said : List D → CRes) : M Fl := (iteM (VI.orM (boolM (twoM true (oneM (callM f__law_said (narM 6 (narM 8 (pur [])))) reprD) (oneM (varM 9) reprD) neD)) (boolM (twoM true (oneM (callM f__law_said (narM 6 (argM (tupM (pur [])) (pur [])))) reprD) (oneM (varM 6) reprD) neD))) (retM (pur (.bl false))) (pur .nx))
def law80 (f__law_begun f__law_words f__law_draw f__law_hand f__law_step f__law_put f_need_surroundings f__law_said f__law_bounds_right : List D → CRes) : M Fl := seqM (asgM 1 (callM f__law_begun (narM 0 (pur []))))
    (seqM (asgM 2 (lstM (pur [])))
    (seqM (forS (range1I (pur (.int 8))) (gnM 3) (turn80 f__law_words f__law_draw f__law_hand f__law_step f__law_put f_need_surroundings f__law_said))
    (seqM (forS (seqI (twoM true (oneM (varM 2) revD) (varM 2) addD)) (gtM 3 (gconsM (gnM 6) (gconsM (gnM 8) (gconsM (gnM 9) (gnilM))))) (again80 f__law_said))
    (retM (callM f__law_bounds_right (narM 1 (pur [])))))))
def WordsOk (f : List D → CRes) : Prop := ∀ (n N : Nat) (d : D), N ≤ 12 → Ms (n + 5) d → ∃ (ws : List Str) (d' : D), f [d, .int (N : Nat)] = .ok (.lst true (ws.map .str)) [d', .int (N : Nat)] ∧ ws.length = N ∧ (∀ w ∈ ws, isW w = true) ∧ ws.Nodup ∧ Ms n d'
theorem words_callG {f : List D → CRes} (hW : WordsOk f) {i n N : Nat} {fe : M D} {e e1 : VI.Env} {d0 d : D} (h0 : e.s[i]? = some (some d0)) (he : fe e = .ok (.int (N : Nat)) e1) (h1 : e1.s[i]? = some (some d)) (hN : N ≤ 12) (hM : Ms (n + 5) d) :
    ∃ (ws : List Str) (d' : D), callM f (narM i (argM fe (pur []))) e = .ok (lsD true ws) (e1.put i d') ∧ ws.length = N ∧ (∀ w ∈ ws, isW w = true) ∧ ws.Nodup ∧ Ms n d' := by
  obtain ⟨ws, d', q1, q2, q3, q4, q5⟩ := hW n N d hN hM
  refine ⟨ws, d', ?_, q2, q3, q4, q5⟩
  simp [callM_ap, narM_ap, argM_ap, h0, oslot_some, he, obind_ok, pur_ap, takeA, h1, hM.own, otake_some, q1, ocres_ok, backA, put_drop, lsD]
abbrev E11 (sc m k t ds ns h n ss du : Option D) : VI.Env := ⟨[sc, m, k, t, ds, ns, h, n, ss, du, none], [false]⟩
theorem hand_call11 {f : List D → CRes} {dp : Nat} (hf : HandOk f dp) {n : Nat} {m0 m : D} {ds ns : List Str} {o o2 : Bool} {sc k t h nn ss du : Option D} {fe : M D} (hM : Ms (n + cost dp) m) (hd : words ds) (hn : words ns)
    (he : fe (E11 sc (some m0) k t (some (lsD o ds)) (some (lsD o2 ns)) h nn ss du) = .ok (.int (dp : Nat)) (E11 sc (some m) k t (some (lsD o ds)) (some (lsD o2 ns)) h nn ss du)) :
    ∃ (hd : Hd) (m' : D) (o2' : Bool), callM f (narM 1 (narM 4 (narM 5 (argM fe (pur []))))) (E11 sc (some m0) k t (some (lsD o ds)) (some (lsD o2 ns)) h nn ss du) = .ok hd.toD (E11 sc (some m') k t (some (lsD o ds)) (some (lsD o2' ns)) h nn ss du) ∧ hd.good = true ∧ hd.deep ≤ dp ∧ hd.size + 1 ≤ 2 ^ dp ∧ Ms n m' := by
  obtain ⟨h', m', o2', q1, q2, q3, q4, q5, q6⟩ := hf n m ds ns o o2 hM hd hn
  refine ⟨h', m', o2', ?_, q2, q3, q4, q5⟩
  have om := hM.own
  cases o <;> cases o2 <;> first | (cases q6 rfl) | skip
  all_goals simp [callM_ap, narM_ap, argM_ap, he, pur_ap, oslot_some, obind_ok, takeA, om, lsD_own, own_int, Env.drop, Env.put, otake_some, q1, ocres_ok, backA]
  all_goals (cases o2' <;> simp_all)
theorem step_call11 {f : List D → CRes} (hf : StepOk f) {n : Nat} {m : D} {ds ns : List Str} {o o2 : Bool} {sc k t h nn ss du x : Option D} (hM : Ms (n + 500) m) (hd : words ds) (hn : words ns) :
    ∃ (s : St) (m' : D) (o2' : Bool), callM f (narM 1 (narM 4 (narM 5 (pur [])))) ⟨[sc, some m, k, t, some (lsD o ds), some (lsD o2 ns), h, nn, ss, du, x], [false]⟩ = .ok s.toD ⟨[sc, some m', k, t, some (lsD o ds), some (lsD o2' ns), h, nn, ss, du, x], [false]⟩ ∧ s.good = true ∧ s.small = true ∧ Ms n m' := by
  obtain ⟨s', m', o2', q1, q2, q3, q4, q5⟩ := hf n m ds ns o o2 hM hd hn
  refine ⟨s', m', o2', ?_, q2, q3, q4⟩
  have om := hM.own
  cases o <;> cases o2 <;> first | (cases q5 rfl) | skip
  all_goals simp [callM_ap, narM_ap, pur_ap, oslot_some, obind_ok, takeA, om, lsD_own, Env.drop, Env.put, otake_some, q1, ocres_ok, backA]
  all_goals (cases o2' <;> simp_all)
theorem ixA {r : Nat} (h : r < 6) : ∃ N : Nat, N ≤ 8 ∧ ixD (.lst true [.int 0, .int 1, .int 2, .int 2, .int 3, .int 8]) (.int (r : Nat)) = some (.int (N : Nat)) := by
  have : r = 0 ∨ r = 1 ∨ r = 2 ∨ r = 3 ∨ r = 4 ∨ r = 5 := by omega
  rcases this with rfl | rfl | rfl | rfl | rfl | rfl
  · exact ⟨0, by decide, by rfl⟩
  · exact ⟨1, by decide, by rfl⟩
  · exact ⟨2, by decide, by rfl⟩
  · exact ⟨2, by decide, by rfl⟩
  · exact ⟨3, by decide, by rfl⟩
  · exact ⟨8, by decide, by rfl⟩
theorem ixB {r : Nat} (h : r < 6) : ∃ N : Nat, N ≤ 10 ∧ ixD (.lst true [.int 0, .int 1, .int 1, .int 2, .int 3, .int 10]) (.int (r : Nat)) = some (.int (N : Nat)) := by
  have : r = 0 ∨ r = 1 ∨ r = 2 ∨ r = 3 ∨ r = 4 ∨ r = 5 := by omega
  rcases this with rfl | rfl | rfl | rfl | rfl | rfl
  · exact ⟨0, by decide, by rfl⟩
  · exact ⟨1, by decide, by rfl⟩
  · exact ⟨1, by decide, by rfl⟩
  · exact ⟨2, by decide, by rfl⟩
  · exact ⟨3, by decide, by rfl⟩
  · exact ⟨10, by decide, by rfl⟩
structure KI where
  h : Hd
  ss : List St
def KI.ok (k : KI) : Prop := k.h.good = true ∧ isH k.h = true ∧ (∀ s ∈ k.ss, s.good = true) ∧ k.ss.length ≤ 10 ∧ isH (putAll k.h k.ss) = true
def KI.toD (k : KI) : D := .tup [k.h.toD, stepsD k.ss, (putAll k.h k.ss).toD]
theorem KI.own (k : KI) : k.toD.own = false := by simp [toD, own_tup, owns_cons, k.h.own, stepsD_own, Hd.own, owns_nil]
theorem cost5 {dp : Nat} (h : dp ≤ 5) : cost dp ≤ 2000 := by
  have : dp = 0 ∨ dp = 1 ∨ dp = 2 ∨ dp = 3 ∨ dp = 4 ∨ dp = 5 := by omega
  rcases this with rfl | rfl | rfl | rfl | rfl | rfl <;> decide
theorem steps_comp {f : List D → CRes} (hf : StepOk f) {n N : Nat} {m : D} {ds ns : List Str} {o o2 : Bool} {sc k t h ss du : Option D} (hN : N ≤ 10) (hM : Ms (n + 5000) m) (hd : words ds) (hn : words ns) :
    ∃ (L : List St) (m' : D) (o2' : Bool), compM [10] (range1I (varM 7)) (gnM 10) (pur true) (callM f (narM 1 (narM 4 (narM 5 (pur []))))) (E11 sc (some m) k t (some (lsD o ds)) (some (lsD o2 ns)) h (some (.int (N : Nat))) ss du) = .ok (.lst true (L.map St.toD)) (E11 sc (some m') k t (some (lsD o ds)) (some (lsD o2' ns)) h (some (.int (N : Nat))) ss du) ∧ L.length = N ∧ (∀ s ∈ L, s.good = true ∧ s.small = true) ∧ Ms n m' := by
  let P : Nat → List D → VI.Env → Prop := fun j acc e => ∃ (L : List St) (m' : D) (o2' : Bool), acc = L.map St.toD ∧ L.length = j ∧ (∀ s ∈ L, s.good = true ∧ s.small = true) ∧ e = E11 sc (some m') k t (some (lsD o ds)) (some (lsD o2' ns)) h (some (.int (N : Nat))) ss du ∧ Ms (n + 500 * (10 - j)) m'
  obtain ⟨out, e', q1, L, m', o2', rfl, q2, q3, rfl, q4⟩ := compM_run (vs := [10]) (fi := range1I (varM 7)) (gt := gnM 10) (ft := pur true) (fe := callM f (narM 1 (narM 4 (narM 5 (pur []))))) (env := E11 sc (some m) k t (some (lsD o ds)) (some (lsD o2 ns)) h (some (.int (N : Nat))) ss du) (e1 := E11 sc (some m) k t (some (lsD o ds)) (some (lsD o2 ns)) h (some (.int (N : Nat))) ss du) (ds := rangeD 0 N) P
    (o_range1 (o_var rfl) (by omega)) rfl ⟨[], m, o2, rfl, rfl, by simp, by simp [Env.dropL, Env.drop], hM⟩
    (fun j d acc e hd' hp => by
      obtain ⟨L, m', o2', rfl, q2, q3, rfl, q4⟩ := hp
      obtain ⟨rfl, hj⟩ := rangeD_get hd'
      have hjN : j < 10 := by omega
      obtain ⟨s, m2, o3, a1, a2, a3, a4⟩ := step_call11 hf (n := n + 500 * (10 - (j + 1))) (o := o) (o2 := o2') (sc := sc) (k := k) (t := t) (h := h) (nn := some (.int (N : Nat))) (ss := ss) (du := du) (x := some (.int (0 + (j : Int)))) (q4.mono (by omega)) hd hn
      refine ⟨rfl, ⟨[sc, some m', k, t, some (lsD o ds), some (lsD o2' ns), h, some (.int (N : Nat)), ss, du, some (.int (0 + (j : Int)))], [false]⟩, _, _, s.toD, by simp [gnM, Env.put], rfl, a1, by simp; omega, L ++ [s], m2, o3, by simp, by simp [q2], ?_, by simp [Env.dropL, Env.drop], a4⟩
      intro x hx
      rcases List.mem_append.mp hx with hx | hx
      · exact q3 x hx
      · simp at hx
        subst hx
        exact ⟨a2, a3⟩)
  refine ⟨L, m', o2', ?_, ?_, q3, q4.mono (by omega)⟩
  · rw [q1]
    simp [Env.restL, Env.drop]
  · rw [q2, rangeD_len]
    simp
theorem turn_run {fw fd fh fs fp fn fr : List D → CRes} (hW : WordsOk fw) (hD : DrawOk fd) (hH : ∀ dp, 2 ≤ dp → dp ≤ 5 → HandOk fh dp) (hS : StepOk fs) (hP : PutOk fp) (hN : ∀ ss : List St, (∀ s ∈ ss, s.good = true) → ss.length ≤ 10 → fn [stepsD ss] = .ok .non [stepsD ss]) (hR : SaidOk fr)
    {n : Nat} {sc m : D} {K : List KI} {t a b c d e g : Option D} (hM : Ms (n + 10000) m) (hK : K.length ≤ 100) :
    ∃ (k : KI) (m' : D) (a' b' c' d' e' g' : Option D), k.ok ∧ turn80 fw fd fh fs fp fn fr (E11 (some sc) (some m) (some (.lst true (K.map KI.toD))) t a b c d e g) = .ok .nx (E11 (some sc) (some m') (some (.lst true ((K ++ [k]).map KI.toD))) t a' b' c' d' e' g') ∧ Ms n m' := by
  obtain ⟨r1, m1, a1, b1, M1⟩ := draw_call (n := n + 9990) (i := 1) (e := E11 (some sc) (some m) (some (.lst true (K.map KI.toD))) t a b c d e g) (m := 6) (fe := pur (.int 6)) hD (hM.mono (by omega)) rfl rfl (by omega) (by omega)
  obtain ⟨N1, hN1, x1⟩ := ixA (r := r1) (by omega)
  obtain ⟨ds, m2, a2, d1, d2, d3, M2⟩ := words_callG hW (n := n + 9980) (i := 1) (fe := twoM true (lstM (consM (pur (.int 0)) (consM (pur (.int 1)) (consM (pur (.int 2)) (consM (pur (.int 2)) (consM (pur (.int 3)) (consM (pur (.int 8)) (pur [])))))))) (callM fd (narM 1 (argM (pur (.int 6)) (pur [])))) ixD) (e := E11 (some sc) (some m) (some (.lst true (K.map KI.toD))) t a b c d e g) (d0 := m) (d := m1) rfl (o_two (o_lst (o_cons o_pur (o_cons o_pur (o_cons o_pur (o_cons o_pur (o_cons o_pur (o_cons o_pur o_pur))))))) a1 x1) rfl (by omega) (M1.mono (by omega))
  have wd : words ds := ⟨d2, d3, by omega⟩
  obtain ⟨ns, m3, a3, e1, e2, e3, M3⟩ := words_callG hW (n := n + 9970) (N := 2) (i := 1) (fe := pur (.int 2)) (e := E11 (some sc) (some m2) (some (.lst true (K.map KI.toD))) t (some (lsD true ds)) b c d e g) (d0 := m2) (d := m2) rfl rfl rfl (by omega) (M2.mono (by omega))
  have wn : words ns := ⟨e2, e3, by omega⟩
  obtain ⟨m4, a4, M4⟩ := room_put (i := 1) (v := 12) (e := E11 (some sc) (some m3) (some (.lst true (K.map KI.toD))) t (some (lsD true ds)) (some (lsD true ns)) c d e g) (fe := pur (.int 12)) M3 rfl rfl
  obtain ⟨r2, m5, a5, b5, M5⟩ := draw_call (n := n + 9960) (i := 1) (e := E11 (some sc) (some m4) (some (.lst true (K.map KI.toD))) t (some (lsD true ds)) (some (lsD true ns)) c d e g) (m := 4) (fe := pur (.int 4)) hD (M4.mono (by omega)) rfl rfl (by omega) (by omega)
  have hdp : cost (2 + r2) ≤ 2000 := cost5 (by omega)
  obtain ⟨h, m6, o2, a6, h1, h2, h3, M6⟩ := hand_call11 (hH (2 + r2) (by omega) (by omega)) (n := n + 7960) (ds := ds) (ns := ns) (o := true) (o2 := true) (sc := some sc) (k := some (.lst true (K.map KI.toD))) (t := t) (h := c) (nn := d) (ss := e) (du := g) (m0 := m4) (fe := twoM true (pur (.int 2)) (callM fd (narM 1 (argM (pur (.int 4)) (pur [])))) addD) (M5.mono (by omega)) wd wn (o_two o_pur a5 (by rw [addD_i, Int.natCast_add]; rfl))
  obtain ⟨r3, m7, a7, b7, M7⟩ := draw_call (n := n + 7950) (i := 1) (e := E11 (some sc) (some m6) (some (.lst true (K.map KI.toD))) t (some (lsD true ds)) (some (lsD o2 ns)) (some h.toD) d e g) (m := 6) (fe := pur (.int 6)) hD (M6.mono (by omega)) rfl rfl (by omega) (by omega)
  obtain ⟨N3, hN3, x3⟩ := ixB (r := r3) (by omega)
  obtain ⟨L, m8, o3, a8, l1, l2, M8⟩ := steps_comp hS (n := n) (ds := ds) (ns := ns) (o := true) (o2 := o2) (sc := some sc) (k := some (.lst true (K.map KI.toD))) (t := t) (h := some h.toD) (ss := e) (du := g) hN3 (M7.mono (by omega)) wd wn
  have gs : ∀ s ∈ L, s.good = true := fun s hs => (l2 s hs).1
  have hp5 : 2 ^ (2 + r2) ≤ 32 := by
    have : r2 = 0 ∨ r2 = 1 ∨ r2 = 2 ∨ r2 = 3 := by omega
    rcases this with rfl | rfl | rfl | rfl <;> decide
  have ih : isH h = true := by simp [isH]; omega
  obtain ⟨p1, p2⟩ := put_size L h fun s hs => (l2 s hs).2
  have ip : isH (putAll h L) = true := by simp [isH]; omega
  obtain ⟨tx, rt⟩ := repr_hand (put_good h1 gs) ip
  have os := stepsD_own L
  have op := (putAll h L).own
  have s1 := said_t hR h1 gs (by omega) (by omega) (by omega) (by rw [ih, ip]; rfl)
  refine ⟨⟨h, L⟩, m8, some (lsD true ds), some (lsD o3 ns), some h.toD, some (.int (N3 : Nat)), some (stepsD L), some (putAll h L).toD, ⟨h1, ih, gs, by simp; omega, ip⟩, ?_, M8⟩
  have y1 := nn_call (i := 6) (j := 8) (f := fp) (e := E11 (some sc) (some m8) (some (.lst true (K.map KI.toD))) t (some (lsD true ds)) (some (lsD o3 ns)) (some h.toD) (some (.int (N3 : Nat))) (some (stepsD L)) g) rfl h.own rfl os (hP h L)
  have y2 := n_call (i := 8) (f := fn) (e := E11 (some sc) (some m8) (some (.lst true (K.map KI.toD))) t (some (lsD true ds)) (some (lsD o3 ns)) (some h.toD) (some (.int (N3 : Nat))) (some (stepsD L)) (some (putAll h L).toD)) rfl os (hN L gs (by omega))
  have y3 := nn_call (i := 6) (j := 8) (f := fr) (e := E11 (some sc) (some m8) (some (.lst true (K.map KI.toD))) t (some (lsD true ds)) (some (lsD o3 ns)) (some h.toD) (some (.int (N3 : Nat))) (some (stepsD L)) (some (putAll h L).toD)) rfl h.own rfl os s1
  have y4 := append_ap (i := 2) (e := E11 (some sc) (some m8) (some (.lst true (K.map KI.toD))) t (some (lsD true ds)) (some (lsD o3 ns)) (some h.toD) (some (.int (N3 : Nat))) (some (stepsD L)) (some (putAll h L).toD)) (W := K.map KI.toD) (y := KI.toD ⟨h, L⟩) (fa := consM (tupM (consM (keepM 6) (consM (keepM 8) (consM (keepM 9) (pur []))))) (pur [])) rfl (o_cons (o_tup (o_cons (o_keep rfl h.own) (o_cons (o_keep rfl os) (o_cons (o_keep rfl op) o_pur)))) o_pur) rfl (by simp; omega)
  have ht : tupleD (.lst true (L.map St.toD)) = some (stepsD L) := by simp [tupleD, steps_owns, stepsD]
  unfold turn80
  refine o_seq (o_as (i := 4) a2) (o_seq (o_as (i := 5) a3) (o_seq a4 (o_seq (o_as (i := 6) a6) (o_seq (o_as (i := 7) (o_two (o_lst (o_cons o_pur (o_cons o_pur (o_cons o_pur (o_cons o_pur (o_cons o_pur (o_cons o_pur o_pur))))))) a7 x3)) (o_seq (o_as (i := 8) (o_one a8 ht)) (o_seq (o_as (i := 9) y1) (o_seq (o_iteF (o_or2 (o_bool (o_two y2 o_pur (by rfl))) (o_bool (o_two (o_one y3 rt) (o_one (o_var rfl) rt) (ne_str_same _)))) (rfl : pur Fl.nx _ = _)) (o_expr (d := .non) (y4.trans ?_)))))))))
  rw [List.map_append]
  rfl
theorem own_call {f : List D → CRes} {i : Nat} {e : VI.Env} {m m' d : D} (h : e.s[i]? = some (some m)) (om : m.own = true) (hf : f [m] = .ok d [m']) : callM f (narM i (pur [])) e = .ok d (e.put i m') := by
  simp [callM_ap, narM_ap, h, obind_ok, oslot_some, pur_ap, takeA, om, otake_some, hf, ocres_ok, backA, put_drop]
theorem again_run {fr : List D → CRes} (hR : SaidOk fr) {k : KI} (hk : k.ok) {sc m kn t a b d : Option D} :
    again80 fr (E11 sc m kn t a b (some k.h.toD) d (some (stepsD k.ss)) (some (putAll k.h k.ss).toD)) = .ok .nx (E11 sc m kn t a b (some k.h.toD) d (some (stepsD k.ss)) (some (putAll k.h k.ss).toD)) := by
  obtain ⟨h1, ih, gs, hl, ip⟩ := hk
  have z1 : k.h.size < 100000 := isH_small ih
  have z2 := isH_small ip
  have s1 := said_t hR h1 gs hl z1 z2 (by rw [ih, ip]; rfl)
  have s2 := said_t hR h1 (ss := []) (by simp) (by simp) z1 z1 (by show (isH k.h && isH k.h) = true; rw [ih]; rfl)
  obtain ⟨t1, r1⟩ := repr_hand (put_good h1 gs) ip
  obtain ⟨t2, r2⟩ := repr_hand h1 ih
  have y1 := nn_call (i := 6) (j := 8) (f := fr) (e := E11 sc m kn t a b (some k.h.toD) d (some (stepsD k.ss)) (some (putAll k.h k.ss).toD)) rfl k.h.own rfl (stepsD_own _) s1
  have y2 := na_call (i := 6) (f := fr) (fa := tupM (pur [])) (e := E11 sc m kn t a b (some k.h.toD) d (some (stepsD k.ss)) (some (putAll k.h k.ss).toD)) rfl k.h.own (o_tup o_pur) s2
  unfold again80
  exact o_iteF (o_or2 (o_bool (o_two (o_one y1 r1) (o_one (o_var rfl) r1) (ne_str_same _))) (o_bool (o_two (o_one y2 r2) (o_one (o_var rfl) r2) (ne_str_same _)))) rfl
theorem law80_run {fg fw fd fh fs fp fn fr fb : List D → CRes} (hG : ∀ ns : List Int, ns.length ≤ 63 → ∃ d, fg [scriptD ns] = .ok d [scriptD ns] ∧ Ms 1000000000 d) (hW : WordsOk fw) (hD : DrawOk fd) (hH : ∀ dp, 2 ≤ dp → dp ≤ 5 → HandOk fh dp) (hS : StepOk fs) (hP : PutOk fp) (hN : ∀ ss : List St, (∀ s ∈ ss, s.good = true) → ss.length ≤ 10 → fn [stepsD ss] = .ok .non [stepsD ss]) (hR : SaidOk fr)
    (hB : ∀ (n : Nat) (m : D), Ms (n + 3) m → ∃ m', fb [m] = .ok (.bl true) [m']) (ns : List Int) (hns : ns.length ≤ 63) : ∃ fin, runB 11 (law80 fg fw fd fh fs fp fn fr fb) [scriptD ns] = .ok (.bl true) fin := by
  obtain ⟨m0, g1, M0⟩ := hG ns hns
  have oS := script_own ns
  have c0 : callM fg (narM 0 (pur [])) (E11 (some (scriptD ns)) none none none none none none none none none) = .ok m0 (E11 (some (scriptD ns)) none none none none none none none none none) := n_call rfl oS g1
  -- the turns
  let P : Nat → VI.Env → Prop := fun i e => ∃ (K : List KI) (m : D) (t a b c d s u : Option D), K.length = i ∧ (∀ k ∈ K, k.ok) ∧ e = E11 (some (scriptD ns)) (some m) (some (.lst true (K.map KI.toD))) t a b c d s u ∧ Ms (100000 + 10000 * (100 - i)) m
  obtain ⟨e1, s1, K, m1, t1, a1, b1, c1, d1, s1', u1, hK, kK, rfl, M1⟩ := forM_run (gt := gnM 3) (fb := turn80 fw fd fh fs fp fn fr) P (rangeD 0 8) 0 (E11 (some (scriptD ns)) (some m0) (some (.lst true [])) none none none none none none none) ⟨[], m0, _, _, _, _, _, _, _, rfl, by simp, rfl, M0.mono (by omega)⟩
    (fun j d e hd hp => by
      obtain ⟨K, m, t, a, b, c, d', s, u, hK, kK, rfl, M⟩ := hp
      obtain ⟨rfl, hj⟩ := rangeD_get hd
      have hj8 : j < 8 := by omega
      obtain ⟨k, m', a', b', c', d'', e', g', hk, q1, q2⟩ := turn_run hW hD hH hS hP hN hR (n := 100000 + 10000 * (100 - (0 + j + 1))) (sc := scriptD ns) (m := m) (K := K) (t := some (.int (0 + (j : Int)))) (a := a) (b := b) (c := c) (d := d') (e := s) (g := u) (M.mono (by omega)) (by omega)
      refine ⟨rfl, E11 (some (scriptD ns)) (some m) (some (.lst true (K.map KI.toD))) (some (.int (0 + (j : Int)))) a b c d' s u, _, by simp [gnM, Env.put], q1, K ++ [k], m', _, _, _, _, _, _, _, by simp [hK], ?_, rfl, q2⟩
      intro x hx
      rcases List.mem_append.mp hx with hx | hx
      · exact kK x hx
      · simp at hx
        subst hx
        exact hk)
  -- all again
  have oK : ∀ l : List KI, D.owns (l.map KI.toD) = false := fun l => owns_map KI.toD KI.own l
  let P2 : Nat → VI.Env → Prop := fun i e => ∃ (t a b c d s u : Option D), e = E11 (some (scriptD ns)) (some m1) (some (.lst true (K.map KI.toD))) t a b c d s u
  obtain ⟨e2, s2, t2, a2, b2, c2, d2, s2', u2, rfl⟩ := forM_run (gt := gtM 3 (gconsM (gnM 6) (gconsM (gnM 8) (gconsM (gnM 9) (gnilM))))) (fb := again80 fr) P2 ((K.reverse ++ K).map KI.toD) 0 (E11 (some (scriptD ns)) (some m1) (some (.lst true (K.map KI.toD))) t1 a1 b1 c1 d1 s1' u1) ⟨_, _, _, _, _, _, _, rfl⟩
    (fun j d e hd hp => by
      obtain ⟨t, a, b, c, d', s, u, rfl⟩ := hp
      rw [List.getElem?_map] at hd
      cases hx : (K.reverse ++ K)[j]? with
      | none => rw [hx] at hd; cases hd
      | some k =>
        rw [hx] at hd
        cases hd
        have hk : k ∈ K := by
          have := List.mem_of_getElem? hx
          simpa using this
        refine ⟨k.own, E11 (some (scriptD ns)) (some m1) (some (.lst true (K.map KI.toD))) t a b (some k.h.toD) d' (some (stepsD k.ss)) (some (putAll k.h k.ss).toD), _, ?_, again_run hR (kK k hk), _, _, _, _, _, _, _, rfl⟩
        simp [KI.toD, gtM, gconsM, gnilM, gnM, bnd_ap, obind_ok, pur_ap, Env.put])
  have om := M1.own
  obtain ⟨m2, hb⟩ := hB 10 m1 (M1.mono (by omega))
  have y1 := own_call (i := 1) (e := E11 (some (scriptD ns)) (some m1) (some (.lst true (K.map KI.toD))) t2 a2 b2 c2 d2 s2' u2) rfl om hb
  have rv : revD (.lst true (K.map KI.toD)) = some (.lst true (K.reverse.map KI.toD)) := by simp [revD, oK, List.map_reverse]
  have ad : addD (.lst true (K.reverse.map KI.toD)) (.lst true (K.map KI.toD)) = some (.lst true ((K.reverse ++ K).map KI.toD)) := by
    have hl : K.length + K.length ≤ 16777216 := by rw [hK, rangeD_len]; decide
    simp only [addD, oK, Bool.or_false, Bool.false_eq_true, if_false, List.length_map, List.length_reverse, if_pos hl, List.map_append]
  refine ⟨[scriptD ns], ?_⟩
  have e0 : env0 11 [scriptD ns] = E11 (some (scriptD ns)) none none none none none none none none none := by simp [env0, oS, List.replicate]
  have r : law80 fg fw fd fh fs fp fn fr fb (E11 (some (scriptD ns)) none none none none none none none none none) = .ok (.rt (.bl true)) ((E11 (some (scriptD ns)) (some m1) (some (.lst true (K.map KI.toD))) t2 a2 b2 c2 d2 s2' u2).put 1 m2) := by
    unfold law80
    exact o_seq (o_as (i := 1) c0) (o_seq (o_as (i := 2) (o_lst o_pur)) (o_seq (o_for (o_range1 (k := 8) (by rfl) (by decide)) s1) (o_seq (o_for (o_seqI (o_two (o_one (o_var rfl) rv) (o_var rfl) ad) (by simp only [itemsD, oK, Bool.false_eq_true, if_false])) s2) (o_ret y1))))
  rw [runB_ap, e0, r]
  simp [orun, finL, oS, Env.put]
end PL
/-! printed by gen.py -/
namespace LW
open PySem PySem.Spec L2 VI
def top (i : Nat) : Stmt := PySem.Challenge.pw_standhouse_k80_steps_put_round.main.body.getD i (.Pass ⟨0, 0, 0, 0⟩)
def tb_str : List (String × Bool) := [("NoneType", false), ("bool", false), ("int", false), ("str", true), ("tuple", false), ("list", false), ("dict", false)]
def te_str : List (Str × Bool) := [("HandError", false), ("BadDeeds", false), ("BadHand", false), ("BadHouse", false), ("BadMachine", false), ("BadNode", false), ("BadRow", false), ("BadWay", false), ("BadPaper", false), ("NoName", false), ("TooGreat", false), ("BadText", false)]
def tb_tuple : List (String × Bool) := [("NoneType", false), ("bool", false), ("int", false), ("str", false), ("tuple", true), ("list", false), ("dict", false)]
def te_tuple : List (Str × Bool) := [("HandError", false), ("BadDeeds", false), ("BadHand", false), ("BadHouse", false), ("BadMachine", false), ("BadNode", false), ("BadRow", false), ("BadWay", false), ("BadPaper", false), ("NoName", false), ("TooGreat", false), ("BadText", false)]
def tb_BadDeeds_BadHouse_BadMachine_BadNode_BadPaper : List (String × Bool) := [("NoneType", false), ("bool", false), ("int", false), ("str", false), ("tuple", false), ("list", false), ("dict", false)]
def te_BadDeeds_BadHouse_BadMachine_BadNode_BadPaper : List (Str × Bool) := [("HandError", false), ("BadDeeds", true), ("BadHand", false), ("BadHouse", true), ("BadMachine", true), ("BadNode", true), ("BadRow", false), ("BadWay", false), ("BadPaper", true), ("NoName", false), ("TooGreat", false), ("BadText", false)]
def tb_BadRow_BadText_BadWay_NoName_TooGreat : List (String × Bool) := [("NoneType", false), ("bool", false), ("int", false), ("str", false), ("tuple", false), ("list", false), ("dict", false)]
def te_BadRow_BadText_BadWay_NoName_TooGreat : List (Str × Bool) := [("HandError", false), ("BadDeeds", false), ("BadHand", false), ("BadHouse", false), ("BadMachine", false), ("BadNode", false), ("BadRow", true), ("BadWay", true), ("BadPaper", false), ("NoName", true), ("TooGreat", true), ("BadText", true)]
def tb_BadHand : List (String × Bool) := [("NoneType", false), ("bool", false), ("int", false), ("str", false), ("tuple", false), ("list", false), ("dict", false)]
def te_BadHand : List (Str × Bool) := [("HandError", false), ("BadDeeds", false), ("BadHand", true), ("BadHouse", false), ("BadMachine", false), ("BadNode", false), ("BadRow", false), ("BadWay", false), ("BadPaper", false), ("NoName", false), ("TooGreat", false), ("BadText", false)]
def tb_ValueError : List (String × Bool) := [("NoneType", false), ("bool", false), ("int", false), ("str", false), ("tuple", false), ("list", false), ("dict", false)]
def te_ValueError : List (Str × Bool) := [("HandError", true), ("BadDeeds", true), ("BadHand", true), ("BadHouse", true), ("BadMachine", true), ("BadNode", true), ("BadRow", true), ("BadWay", true), ("BadPaper", true), ("NoName", true), ("TooGreat", true), ("BadText", true)]
def em_HandError : List (Str × Bool) := [("HandError", true), ("BadDeeds", true), ("BadHand", true), ("BadHouse", true), ("BadMachine", true), ("BadNode", true), ("BadRow", true), ("BadWay", true), ("BadPaper", true), ("NoName", true), ("TooGreat", true), ("BadText", true)]
def kd_LONG_forms : List (Str × Int) := [("stop", 1), ("spin", 1), ("name", 2), ("then", 3), ("out", 3), ("own", 3), ("beside", 4), ("hide", 3), ("as", 3)]
def kd_LONG_surroundings : List (Str × Int) := [("then", 2), ("out", 2), ("own", 2), ("beside", 3), ("hide", 2), ("as", 2)]
/-- is_word: 0 thing 1 sign -/
def b_0 (Φ : Ph) : M Fl :=
    seqM (iteM (orM (notM (boolM (oneM (varM 0) (isiD tb_str te_str)))) (orM (notM (boolM (chainM leD leD (pur (.int 1)) (oneM (varM 0) lenD) (pur (.int 6))))) (boolM (twoM true (varM 0) (pur (.tup [.str "stop", .str "spin", .str "out", .str "own", .str "beside", .str "hide", .str "as"])) inD)))) (retM (pur (.bl false))) (pur .nx))
    (retM (oneM (compM [1] (seqI (varM 0)) (gnM 1) (pur true) (twoM true (varM 1) (pur (.str "abcdefghijklmnopqrstuvwxyz")) inD)) allD))
/-- is_row: 0 thing 1 deed -/
def b_1 (Φ : Ph) : M Fl :=
    retM (andD (oneM (varM 0) (isiD tb_tuple te_tuple)) (oneM (compM [1] (seqI (varM 0)) (gnM 1) (pur true) (callM (Φ 0) (narM 1 (pur [])))) allD))
/-- is_rising: 0 texts 1 one 2 other -/
def b_2 (Φ : Ph) : M Fl :=
    retM (oneM (compM [1, 2] (zipI true (varM 0) (sliceM true (varM 0) (partM (pur (.int 1))) (pur none))) (gtM 2 (gconsM (gnM 1) (gconsM (gnM 2) (gnilM)))) (pur true) (twoM true (varM 1) (varM 2) ltD)) allD)
/-- is_set: 0 thing -/
def b_3 (Φ : Ph) : M Fl :=
    retM (andD (callM (Φ 1) (narM 0 (pur []))) (andD (twoM true (oneM (varM 0) lenD) (pur (.int 8)) leD) (callM (Φ 2) (narM 0 (pur [])))))
/-- is_pairs: 0 thing 1 pair 2 deed -/
def b_4 (Φ : Ph) : M Fl :=
    seqM (iteM (orM (notM (boolM (oneM (varM 0) (isiD tb_tuple te_tuple)))) (boolM (twoM true (oneM (varM 0) lenD) (pur (.int 8)) gtD))) (retM (pur (.bl false))) (pur .nx))
    (seqM (forS (seqI (varM 0)) (gnM 1) (iteM (orM (notM (boolM (oneM (varM 1) (isiD tb_tuple te_tuple)))) (orM (boolM (twoM true (oneM (varM 1) lenD) (pur (.int 2)) neD)) (notM (boolM (oneM (compM [2] (seqI (varM 1)) (gnM 2) (pur true) (callM (Φ 0) (narM 2 (pur [])))) allD))))) (retM (pur (.bl false))) (pur .nx)))
    (retM (callM (Φ 2) (argM (compM [1] (seqI (varM 0)) (gnM 1) (pur true) (twoM true (varM 1) (pur (.int 0)) ixD)) (pur [])))))
/-- is_form: 0 thing -/
def b_5 (Φ : Ph) : M Fl :=
    seqM (iteM (orM (notM (boolM (oneM (varM 0) (isiD tb_tuple te_tuple)))) (orM (boolM (twoM true (varM 0) (tupM (pur [])) eqD)) (notM (boolM (oneM (twoM true (varM 0) (pur (.int 0)) ixD) (isiD tb_str te_str)))))) (retM (pur (.bl false))) (pur .nx))
    (seqM (iteM (boolM (twoM true (twoM true (twoM true (varM 0) (pur (.int 0)) ixD) (pur (.int 0)) (kgetD kd_LONG_forms)) (oneM (varM 0) lenD) neD)) (retM (pur (.bl false))) (pur .nx))
    (seqM (iteM (boolM (twoM true (twoM true (varM 0) (pur (.int 0)) ixD) (tupM (consM (pur (.str "name")) (consM (pur (.str "then")) (pur [])))) inD)) (retM (callM (Φ 0) (argM (twoM true (varM 0) (pur (.int 1)) ixD) (pur [])))) (pur .nx))
    (seqM (iteM (boolM (twoM true (twoM true (varM 0) (pur (.int 0)) ixD) (tupM (consM (pur (.str "beside")) (consM (pur (.str "hide")) (pur [])))) inD)) (retM (callM (Φ 3) (argM (twoM true (varM 0) (pur (.int 2)) ixD) (pur [])))) (pur .nx))
    (retM (orD (twoM true (twoM true (varM 0) (pur (.int 0)) ixD) (pur (.str "as")) neD) (callM (Φ 4) (argM (twoM true (varM 0) (pur (.int 2)) ixD) (pur []))))))))
/-- beneath: 0 hand -/
def b_6 (Φ : Ph) : M Fl :=
    seqM (iteM (boolM (twoM true (twoM true (varM 0) (pur (.int 0)) ixD) (pur (.str "then")) eqD)) (retM (lstM (consM (twoM true (varM 0) (pur (.int 2)) ixD) (pur [])))) (pur .nx))
    (seqM (iteM (boolM (twoM true (twoM true (varM 0) (pur (.int 0)) ixD) (tupM (consM (pur (.str "out")) (consM (pur (.str "own")) (pur [])))) inD)) (retM (lstM (consM (twoM true (varM 0) (pur (.int 1)) ixD) (consM (twoM true (varM 0) (pur (.int 2)) ixD) (pur []))))) (pur .nx))
    (seqM (iteM (boolM (twoM true (twoM true (varM 0) (pur (.int 0)) ixD) (pur (.str "beside")) eqD)) (retM (lstM (consM (twoM true (varM 0) (pur (.int 1)) ixD) (consM (twoM true (varM 0) (pur (.int 3)) ixD) (pur []))))) (pur .nx))
    (retM (iteM (boolM (twoM true (twoM true (varM 0) (pur (.int 0)) ixD) (tupM (consM (pur (.str "hide")) (consM (pur (.str "as")) (pur [])))) inD)) (lstM (consM (twoM true (varM 0) (pur (.int 1)) ixD) (pur []))) (lstM (pur []))))))
/-- is_hand: 0 thing 1 waiting 2 many 3 here 4 deep 5 part -/
def b_7 (Φ : Ph) : M Fl :=
    seqM (asgM 1 (lstM (consM (tupM (consM (keepM 0) (consM (pur (.int 1)) (pur [])))) (pur []))))
    (seqM (asgM 2 (pur (.int 0)))
    (seqM (whileM 100000 (boolM (twoM true (varM 1) (lstM (pur [])) neD)) (seqM (asgtM (mthM 1 "list" popG (rootM 1) (pur [])) (gtM 2 (gconsM (gnM 3) (gconsM (gnM 4) (gnilM)))))
    (seqM (augM 2 addI (pur (.int 1)))
    (seqM (iteM (orM (boolM (twoM true (varM 2) (pur (.int 200)) gtD)) (orM (boolM (twoM true (varM 4) (pur (.int 40)) gtD)) (notM (boolM (callM (Φ 5) (narM 3 (pur []))))))) (retM (pur (.bl false))) (pur .nx))
    (exprM (mthM 1 "list" extendG (rootM 1) (consM (compM [5] (seqI (callM (Φ 6) (narM 3 (pur [])))) (gnM 5) (pur true) (tupM (consM (keepM 5) (consM (twoM true (varM 4) (pur (.int 1)) addD) (pur []))))) (pur []))))))))
    (retM (pur (.bl true)))))
/-- need_hand: 0 thing -/
def b_8 (Φ : Ph) : M Fl :=
    iteM (notM (boolM (callM (Φ 7) (narM 0 (pur []))))) (raiseM "BadHand" (pur (.str "a hand is wanted"))) (pur .nx)
/-- is_step: 0 thing -/
def b_9 (Φ : Ph) : M Fl :=
    seqM (iteM (orM (notM (boolM (oneM (varM 0) (isiD tb_tuple te_tuple)))) (orM (boolM (twoM true (varM 0) (tupM (pur [])) eqD)) (notM (boolM (oneM (twoM true (varM 0) (pur (.int 0)) ixD) (isiD tb_str te_str)))))) (retM (pur (.bl false))) (pur .nx))
    (seqM (iteM (boolM (twoM true (twoM true (twoM true (varM 0) (pur (.int 0)) ixD) (pur (.int 0)) (kgetD kd_LONG_surroundings)) (oneM (varM 0) lenD) neD)) (retM (pur (.bl false))) (pur .nx))
    (seqM (iteM (boolM (twoM true (twoM true (varM 0) (pur (.int 0)) ixD) (pur (.str "then")) eqD)) (retM (callM (Φ 0) (argM (twoM true (varM 0) (pur (.int 1)) ixD) (pur [])))) (pur .nx))
    (seqM (iteM (boolM (twoM true (twoM true (varM 0) (pur (.int 0)) ixD) (tupM (consM (pur (.str "out")) (consM (pur (.str "own")) (pur [])))) inD)) (retM (callM (Φ 7) (argM (twoM true (varM 0) (pur (.int 1)) ixD) (pur [])))) (pur .nx))
    (seqM (iteM (boolM (twoM true (twoM true (varM 0) (pur (.int 0)) ixD) (pur (.str "as")) eqD)) (retM (callM (Φ 4) (argM (twoM true (varM 0) (pur (.int 1)) ixD) (pur [])))) (pur .nx))
    (retM (andD (callM (Φ 3) (argM (twoM true (varM 0) (pur (.int 1)) ixD) (pur []))) (orD (twoM true (twoM true (varM 0) (pur (.int 0)) ixD) (pur (.str "hide")) eqD) (callM (Φ 7) (argM (twoM true (varM 0) (pur (.int 2)) ixD) (pur []))))))))))
/-- need_surroundings: 0 thing 1 step -/
def b_10 (Φ : Ph) : M Fl :=
    iteM (orM (notM (boolM (oneM (varM 0) (isiD tb_tuple te_tuple)))) (orM (boolM (twoM true (oneM (varM 0) lenD) (pur (.int 10)) gtD)) (notM (boolM (oneM (compM [1] (seqI (varM 0)) (gnM 1) (pur true) (callM (Φ 9) (narM 1 (pur [])))) allD))))) (raiseM "BadHand" (pur (.str "surroundings are wanted"))) (pur .nx)
/-- put_one: 0 hand 1 step -/
def b_11 (Φ : Ph) : M Fl :=
    seqM (iteM (boolM (twoM true (twoM true (varM 1) (pur (.int 0)) ixD) (pur (.str "then")) eqD)) (retM (tupM (consM (pur (.str "then")) (consM (twoM true (varM 1) (pur (.int 1)) ixD) (consM (keepM 0) (pur [])))))) (pur .nx))
    (retM (twoM true (tupM (consM (twoM true (varM 1) (pur (.int 0)) ixD) (consM (keepM 0) (pur [])))) (sliceM true (varM 1) (partM (pur (.int 1))) (pur none)) addD))
/-- put_round: 0 hand 1 steps 2 step -/
def b_12 (Φ : Ph) : M Fl :=
    seqM (exprM (callM (Φ 8) (narM 0 (pur []))))
    (seqM (exprM (callM (Φ 10) (narM 1 (pur []))))
    (seqM (forS (seqI (varM 1)) (gnM 2) (asgM 0 (callM (Φ 11) (narM 0 (narM 2 (pur []))))))
    (seqM (exprM (callM (Φ 8) (narM 0 (pur []))))
    (retM (moveM 0)))))
/-- _law_mixed: 0 _law_cell 1 _law_k 2 _law_number -/
def b_13 (Φ : Ph) : M Fl :=
    seqM (asgM 2 (twoM true (twoM true (twoM true (twoM true (twoM true (varM 0) (twoM true (pur (.int 1)) (twoM true (pur (.int 2)) (varM 1) mulD) addD) mulD) (pur (.int 48271)) mulD) (pur (.int 2147483647)) modD) (twoM true (twoM true (pur (.int 7919)) (varM 1) mulD) (varM 1) mulD) addD) (twoM true (pur (.int 104729)) (varM 1) mulD) addD))
    (retM (twoM true (twoM true (twoM true (varM 2) (pur (.int 69621)) mulD) (pur (.int 2147483629)) modD) (pur (.int 7)) fdivD))
/-- _law_folded: 0 _law_script 1 _law_found 2 _law_k 3 _law_cell -/
def b_14 (Φ : Ph) : M Fl :=
    seqM (asgM 1 (compM [2] (range1I (pur (.int 64))) (gnM 2) (pur true) (twoM true (pur (.int 17)) (varM 2) addD)))
    (seqM (forS (enumI (varM 0)) (gtM 2 (gconsM (gnM 2) (gconsM (gnM 3) (gnilM)))) (storeM 1 (twoM true (twoM true (twoM true (twoM true (varM 1) (twoM true (varM 2) (pur (.int 64)) modD) ixD) (pur (.int 48271)) mulD) (varM 3) addD) (pur (.int 2147483647)) modD) (rootM 1) (twoM true (varM 2) (pur (.int 64)) modD)))
    (seqM (forS (range2I (pur (.int 1)) (pur (.int 64))) (gnM 2) (storeM 1 (twoM true (twoM true (twoM true (varM 1) (varM 2) ixD) (twoM true (twoM true (varM 1) (twoM true (varM 2) (pur (.int 1)) subD) ixD) (pur (.int 16807)) mulD) addD) (pur (.int 2147483647)) modD) (rootM 1) (varM 2)))
    (retM (moveM 1))))
/-- _law_draw: 0 _law_m 1 _law_many 2 _law_k 3 _law_at 4 _law_cell -/
def b_15 (Φ : Ph) : M Fl :=
    seqM (asgM 2 (plainM (getM 0 (pixM 0 (rootM 0) (pur (.str "at"))))))
    (seqM (storeM 0 (twoM true (varM 2) (pur (.int 1)) addD) (rootM 0) (pur (.str "at")))
    (seqM (iteM (boolM (twoM true (getM 0 (pixM 0 (rootM 0) (pur (.str "left")))) (lstM (pur [])) neD)) (seqM (asgM 3 (twoM true (varM 2) (oneM (getM 0 (pixM 0 (rootM 0) (pur (.str "left")))) lenD) modD))
    (seqM (asgM 4 (plainM (getM 0 (pixM 0 (pixM 0 (rootM 0) (pur (.str "left"))) (varM 3)))))
    (iteM (boolM (twoM true (varM 4) (pur (.int 0)) gtD)) (seqM (storeM 0 (twoM true (varM 4) (varM 1) fdivD) (pixM 0 (rootM 0) (pur (.str "left"))) (varM 3))
    (retM (twoM true (varM 4) (varM 1) modD))) (pur .nx)))) (pur .nx))
    (retM (twoM true (callM (Φ 13) (argM (callM (Φ 13) (argM (twoM true (getM 0 (pixM 0 (pixM 0 (rootM 0) (pur (.str "cells"))) (twoM true (varM 2) (pur (.int 64)) modD))) (twoM true (pur (.int 31)) (twoM true (varM 2) (pur (.int 64)) fdivD) mulD) addD) (narM 2 (pur [])))) (argM (twoM true (varM 2) (pur (.int 7)) addD) (pur [])))) (varM 1) modD))))
/-- _law_begun: 0 _law_script 1 _law_m 2 _law_cell -/
def b_16 (Φ : Ph) : M Fl :=
    seqM (asgM 1 (dispM ["cells", "left", "at", "room"] (consM (callM (Φ 14) (narM 0 (pur []))) (consM (lstM (pur [])) (consM (pur (.int 0)) (consM (pur (.int 12)) (pur [])))))))
    (seqM (storeM 1 (compM [2] (seqI (varM 0)) (gnM 2) (pur true) (iteM (boolM (twoM true (varM 2) (twoM true (pur (.int 10)) (pur (.int 18)) powD) geD)) (keepM 2) (pur (.int 0)))) (rootM 1) (pur (.str "left")))
    (retM (moveM 1)))
/-- _law_words: 0 _law_m 1 _law_many 2 _law_letters 3 _law_size 4 _law_at 5 _law_stride 6 _law_base 7 _law_found 8 _law_k 9 _law_bars 10 _law_start 11 _law_way 12 _law_mark 13 _law_word 14 _law_j -/
def b_17 (Φ : Ph) : M Fl :=
    seqM (asgM 2 (pur (.str "abcdefghijklmnopqrstuvwxyz")))
    (seqM (asgtM (tupM (consM (callM (Φ 15) (narM 0 (argM (pur (.int 26)) (pur [])))) (consM (callM (Φ 15) (narM 0 (argM (pur (.int 4)) (pur [])))) (pur [])))) (gtM 2 (gconsM (gnM 10) (gconsM (gnM 11) (gnilM)))))
    (seqM (asgM 3 (twoM true (pur (.int 1)) (callM (Φ 15) (narM 0 (argM (pur (.int 6)) (pur [])))) addD))
    (seqM (asgM 4 (callM (Φ 15) (narM 0 (narM 3 (pur [])))))
    (seqM (asgM 5 (twoM true (lstM (consM (pur (.int 1)) (consM (pur (.int 3)) (consM (pur (.int 7)) (consM (pur (.int 11)) (consM (pur (.int 17)) (consM (pur (.int 25)) (pur [])))))))) (callM (Φ 15) (narM 0 (argM (pur (.int 6)) (pur [])))) ixD))
    (seqM (asgM 6 (joinM (pur (.str "")) (compM [14] (range1I (pur (.int 8))) (gnM 14) (pur true) (twoM true (varM 2) (twoM true (twoM true (varM 10) (twoM true (pur (.int 5)) (varM 14) mulD) addD) (pur (.int 26)) modD) ixD))))
    (seqM (asgM 7 (lstM (pur [])))
    (seqM (forS (range1I (varM 1)) (gnM 8) (seqM (asgM 12 (twoM true (varM 2) (twoM true (twoM true (varM 10) (twoM true (varM 5) (varM 8) mulD) addD) (pur (.int 26)) modD) ixD))
    (iteM (boolM (twoM true (varM 11) (pur (.int 3)) eqD)) (exprM (mthM 7 "list" appendG (rootM 7) (consM (twoM true (varM 12) (sliceM true (varM 6) (pur none) (partM (twoM true (twoM true (varM 8) (varM 5) mulD) (pur (.int 6)) modD))) addD) (pur [])))) (exprM (mthM 7 "list" appendG (rootM 7) (consM (twoM true (twoM true (sliceM true (varM 6) (pur none) (partM (varM 4))) (varM 12) addD) (sliceM true (varM 6) (partM (twoM true (varM 4) (pur (.int 1)) addD)) (partM (varM 3))) addD) (pur [])))))))
    (seqM (asgM 9 (lstM (consM (pur (.str "stop")) (consM (pur (.str "spin")) (consM (pur (.str "out")) (consM (pur (.str "own")) (consM (pur (.str "beside")) (consM (pur (.str "hide")) (consM (pur (.str "as")) (pur []))))))))))
    (retM (compM [13] (seqI (varM 7)) (gnM 13) (pur true) (iteM (boolM (twoM true (varM 13) (varM 9) ninD)) (keepM 13) (twoM true (twoM true (pur (.str "zz")) (sliceM true (varM 13) (pur none) (partM (pur (.int 1)))) addD) (pur (.str "z")) addD))))))))))))
/-- _law_set: 0 _law_m 1 _law_deeds 2 _law_deed -/
def b_18 (Φ : Ph) : M Fl :=
    retM (oneM (oneM (compM [2] (seqI (varM 1)) (gnM 2) (boolM (twoM true (callM (Φ 15) (narM 0 (argM (pur (.int 2)) (pur [])))) (pur (.int 0)) eqD)) (keepM 2)) sortedTx) tupleD)
/-- _law_pairs: 0 _law_m 1 _law_deeds 2 _law_firsts 3 _law_deed -/
def b_19 (Φ : Ph) : M Fl :=
    seqM (asgM 2 (oneM (compM [3] (seqI (varM 1)) (gnM 3) (boolM (twoM true (callM (Φ 15) (narM 0 (argM (pur (.int 2)) (pur [])))) (pur (.int 0)) eqD)) (keepM 3)) sortedTx))
    (retM (oneM (compM [3] (seqI (varM 2)) (gnM 3) (pur true) (tupM (consM (keepM 3) (consM (twoM true (varM 1) (callM (Φ 15) (narM 0 (argM (oneM (varM 1) lenD) (pur [])))) ixD) (pur []))))) tupleD))
/-- _law_hand: 0 _law_m 1 _law_deeds 2 _law_names 3 _law_deep 4 _law_way 5 _law_some 6 _law_one -/
def b_20 (Φ : Ph) : M Fl :=
    seqM (storeM 0 (twoM true (getM 0 (pixM 0 (rootM 0) (pur (.str "room")))) (pur (.int 1)) subD) (rootM 0) (pur (.str "room")))
    (seqM (asgM 4 (iteM (andM (boolM (twoM true (varM 3) (pur (.int 1)) gtD)) (boolM (twoM true (getM 0 (pixM 0 (rootM 0) (pur (.str "room")))) (pur (.int 0)) gtD))) (callM (Φ 15) (narM 0 (argM (pur (.int 13)) (pur [])))) (twoM true (pur (.int 11)) (callM (Φ 15) (narM 0 (argM (pur (.int 2)) (pur [])))) addD)))
    (seqM (iteM (andM (boolM (twoM true (varM 4) (pur (.int 5)) ltD)) (boolM (twoM true (varM 1) (lstM (pur [])) neD))) (retM (tupM (consM (pur (.str "then")) (consM (twoM true (varM 1) (callM (Φ 15) (narM 0 (argM (oneM (varM 1) lenD) (pur [])))) ixD) (consM (callM (Φ 20) (narM 0 (narM 1 (narM 2 (argM (twoM true (varM 3) (pur (.int 1)) subD) (pur [])))))) (pur [])))))) (pur .nx))
    (seqM (iteM (boolM (twoM true (varM 4) (pur (.int 7)) ltD)) (retM (tupM (consM (pur (.str "own")) (consM (callM (Φ 20) (narM 0 (narM 1 (narM 2 (argM (twoM true (varM 3) (pur (.int 1)) subD) (pur [])))))) (consM (callM (Φ 20) (narM 0 (narM 1 (narM 2 (argM (twoM true (varM 3) (pur (.int 1)) subD) (pur [])))))) (pur [])))))) (pur .nx))
    (seqM (iteM (boolM (twoM true (varM 4) (pur (.int 11)) ltD)) (seqM (asgM 5 (iteM (boolM (twoM true (callM (Φ 15) (narM 0 (argM (pur (.int 8)) (pur [])))) (pur (.int 0)) eqD)) (keepM 2) (lstM (pur []))))
    (seqM (asgM 6 (callM (Φ 20) (narM 0 (narM 1 (narM 5 (argM (twoM true (varM 3) (pur (.int 1)) subD) (pur [])))))))
    (seqM (iteM (boolM (twoM true (varM 4) (pur (.int 7)) eqD)) (retM (tupM (consM (pur (.str "out")) (consM (keepM 6) (consM (callM (Φ 20) (narM 0 (narM 1 (narM 5 (argM (twoM true (varM 3) (pur (.int 1)) subD) (pur [])))))) (pur [])))))) (pur .nx))
    (seqM (iteM (boolM (twoM true (varM 4) (pur (.int 8)) eqD)) (retM (tupM (consM (pur (.str "beside")) (consM (keepM 6) (consM (callM (Φ 18) (narM 0 (narM 1 (pur [])))) (consM (callM (Φ 20) (narM 0 (narM 1 (narM 5 (argM (twoM true (varM 3) (pur (.int 1)) subD) (pur [])))))) (pur []))))))) (pur .nx))
    (retM (iteM (boolM (twoM true (varM 4) (pur (.int 9)) eqD)) (tupM (consM (pur (.str "hide")) (consM (keepM 6) (consM (callM (Φ 18) (narM 0 (narM 1 (pur [])))) (pur []))))) (tupM (consM (pur (.str "as")) (consM (keepM 6) (consM (callM (Φ 19) (narM 0 (narM 1 (pur [])))) (pur []))))))))))) (pur .nx))
    (seqM (iteM (andM (boolM (twoM true (varM 2) (lstM (pur [])) neD)) (boolM (twoM true (varM 4) (pur (.int 11)) eqD))) (retM (tupM (consM (pur (.str "name")) (consM (twoM true (varM 2) (callM (Φ 15) (narM 0 (argM (oneM (varM 2) lenD) (pur [])))) ixD) (pur []))))) (pur .nx))
    (retM (iteM (boolM (twoM true (callM (Φ 15) (narM 0 (argM (pur (.int 8)) (pur [])))) (pur (.int 0)) eqD)) (tupM (consM (pur (.str "spin")) (pur []))) (tupM (consM (pur (.str "stop")) (pur []))))))))))
/-- _law_step: 0 _law_m 1 _law_deeds 2 _law_names 3 _law_way 4 _law_hand_here -/
def b_21 (Φ : Ph) : M Fl :=
    seqM (asgM 3 (callM (Φ 15) (narM 0 (argM (pur (.int 6)) (pur [])))))
    (seqM (iteM (andM (boolM (twoM true (varM 3) (pur (.int 0)) eqD)) (boolM (twoM true (varM 1) (lstM (pur [])) neD))) (retM (tupM (consM (pur (.str "then")) (consM (twoM true (varM 1) (callM (Φ 15) (narM 0 (argM (oneM (varM 1) lenD) (pur [])))) ixD) (pur []))))) (pur .nx))
    (seqM (iteM (boolM (twoM true (varM 3) (pur (.int 1)) eqD)) (retM (tupM (consM (pur (.str "hide")) (consM (callM (Φ 18) (narM 0 (narM 1 (pur [])))) (pur []))))) (pur .nx))
    (seqM (iteM (boolM (twoM true (varM 3) (pur (.int 2)) eqD)) (retM (tupM (consM (pur (.str "as")) (consM (callM (Φ 19) (narM 0 (narM 1 (pur [])))) (pur []))))) (pur .nx))
    (seqM (storeM 0 (pur (.int 4)) (rootM 0) (pur (.str "room")))
    (seqM (asgM 4 (callM (Φ 20) (narM 0 (narM 1 (narM 2 (argM (pur (.int 3)) (pur [])))))))
    (seqM (iteM (boolM (twoM true (varM 3) (pur (.int 3)) eqD)) (retM (tupM (consM (pur (.str "beside")) (consM (callM (Φ 18) (narM 0 (narM 1 (pur [])))) (consM (keepM 4) (pur [])))))) (pur .nx))
    (retM (tupM (consM (twoM true (lstM (consM (pur (.str "out")) (consM (pur (.str "own")) (pur [])))) (twoM true (varM 3) (pur (.int 2)) modD) ixD) (consM (keepM 4) (pur [])))))))))))
/-- _law_put: 0 _law_hand_here 1 _law_steps 2 _law_step_here -/
def b_22 (Φ : Ph) : M Fl :=
    seqM (forS (seqI (varM 1)) (gnM 2) (iteM (boolM (twoM true (twoM true (varM 2) (pur (.int 0)) ixD) (pur (.str "then")) eqD)) (asgM 0 (tupM (consM (pur (.str "then")) (consM (twoM true (varM 2) (pur (.int 1)) ixD) (consM (keepM 0) (pur [])))))) (iteM (boolM (twoM true (twoM true (varM 2) (pur (.int 0)) ixD) (pur (.str "beside")) eqD)) (asgM 0 (tupM (consM (pur (.str "beside")) (consM (keepM 0) (consM (twoM true (varM 2) (pur (.int 1)) ixD) (consM (twoM true (varM 2) (pur (.int 2)) ixD) (pur []))))))) (asgM 0 (tupM (consM (twoM true (varM 2) (pur (.int 0)) ixD) (consM (keepM 0) (consM (twoM true (varM 2) (pur (.int 1)) ixD) (pur [])))))))))
    (retM (moveM 0))
/-- _law_is_other: 0 _law_caught -/
def b_23 (Φ : Ph) : M Fl :=
    seqM (iteM (boolM (oneM (varM 0) (isiD tb_BadDeeds_BadHouse_BadMachine_BadNode_BadPaper te_BadDeeds_BadHouse_BadMachine_BadNode_BadPaper))) (retM (pur (.bl true))) (pur .nx))
    (retM (oneM (varM 0) (isiD tb_BadRow_BadText_BadWay_NoName_TooGreat te_BadRow_BadText_BadWay_NoName_TooGreat)))
/-- _law_said: 0 _law_hand_here 1 _law_steps 2 _law_caught 3 _law_found 4 error 5 _law_is_one -/
def b_24 (Φ : Ph) : M Fl :=
    seqM (asgM 2 (pur .non))
    (seqM (asgM 3 (pur .non))
    (seqM (tryM 4 em_HandError (asgM 3 (callM (Φ 12) (narM 0 (narM 1 (pur []))))) (asgM 2 (keepM 4)))
    (seqM (iteM (boolM (twoM true (varM 2) (pur .non) isND)) (retM (moveM 3)) (pur .nx))
    (seqM (asgM 5 (andD (oneM (varM 2) (isiD tb_BadHand te_BadHand)) (andD (oneM (varM 2) (isiD tb_ValueError te_ValueError)) (notD (callM (Φ 23) (narM 2 (pur [])))))))
    (retM (iteM (boolM (varM 5)) (pur (.str "hand")) (pur (.str "else"))))))))
/-- _law_chain: 0 _law_many 1 _law_hand_here 2 _law_turn -/
def b_25 (Φ : Ph) : M Fl :=
    seqM (asgM 1 (tupM (consM (pur (.str "stop")) (pur []))))
    (seqM (forS (range1I (varM 0)) (gnM 2) (asgM 1 (tupM (consM (pur (.str "then")) (consM (pur (.str "a")) (consM (keepM 1) (pur [])))))))
    (retM (moveM 1)))
/-- _law_bush: 0 _law_many -/
def b_26 (Φ : Ph) : M Fl :=
    seqM (iteM (boolM (twoM true (varM 0) (pur (.int 2)) ltD)) (retM (tupM (consM (pur (.str "stop")) (pur [])))) (pur .nx))
    (retM (tupM (consM (pur (.str "own")) (consM (callM (Φ 26) (argM (twoM true (varM 0) (pur (.int 2)) fdivD) (pur []))) (consM (callM (Φ 26) (argM (twoM true (varM 0) (twoM true (varM 0) (pur (.int 2)) fdivD) subD) (pur []))) (pur []))))))
/-- _law_bounds_right: 0 _law_m 1 _law_many 2 _law_led 3 _law_bush_here 4 _law_some 5 _law_one 6 _law_two -/
def b_27 (Φ : Ph) : M Fl :=
    seqM (asgM 1 (callM (Φ 15) (narM 0 (argM (pur (.int 10)) (pur [])))))
    (seqM (asgM 2 (twoM true (tupM (consM (tupM (consM (pur (.str "then")) (consM (pur (.str "b")) (pur [])))) (pur []))) (varM 1) mulD))
    (seqM (iteM (boolM (twoM true (oneM (callM (Φ 24) (argM (callM (Φ 25) (argM (twoM true (pur (.int 39)) (varM 1) subD) (pur []))) (narM 2 (pur [])))) reprD) (oneM (callM (Φ 22) (argM (callM (Φ 25) (argM (twoM true (pur (.int 39)) (varM 1) subD) (pur []))) (narM 2 (pur [])))) reprD) neD)) (retM (pur (.bl false))) (pur .nx))
    (seqM (iteM (boolM (twoM true (callM (Φ 24) (argM (callM (Φ 25) (argM (twoM true (pur (.int 40)) (varM 1) subD) (pur []))) (narM 2 (pur [])))) (pur (.str "hand")) neD)) (retM (pur (.bl false))) (pur .nx))
    (seqM (asgM 3 (callM (Φ 26) (argM (pur (.int 100)) (pur []))))
    (seqM (asgM 4 (twoM true (lstM (consM (tupM (consM (tupM (consM (pur (.str "hide")) (consM (tupM (pur [])) (pur [])))) (pur []))) (consM (tupM (consM (tupM (consM (pur (.str "as")) (consM (tupM (pur [])) (pur [])))) (pur []))) (consM (tupM (consM (tupM (consM (pur (.str "then")) (consM (pur (.str "x")) (pur [])))) (pur []))) (consM (tupM (consM (tupM (consM (pur (.str "hide")) (consM (tupM (consM (pur (.str "a")) (consM (pur (.str "b")) (pur [])))) (pur [])))) (pur []))) (pur [])))))) (callM (Φ 15) (narM 0 (argM (pur (.int 4)) (pur [])))) ixD))
    (seqM (iteM (orM (boolM (twoM true (oneM (callM (Φ 24) (narM 3 (narM 4 (pur [])))) reprD) (oneM (callM (Φ 22) (narM 3 (narM 4 (pur [])))) reprD) neD)) (boolM (twoM true (callM (Φ 24) (narM 3 (argM (twoM true (varM 4) (varM 4) addD) (pur [])))) (pur (.str "hand")) neD))) (retM (pur (.bl false))) (pur .nx))
    (seqM (asgM 5 (tupM (consM (twoM true (lstM (consM (pur (.str "out")) (consM (pur (.str "own")) (pur [])))) (callM (Φ 15) (narM 0 (argM (pur (.int 2)) (pur [])))) ixD) (consM (tupM (consM (pur (.str "stop")) (pur []))) (pur [])))))
    (seqM (asgM 6 (tupM (consM (pur (.str "beside")) (consM (tupM (consM (pur (.str "a")) (pur []))) (consM (tupM (consM (pur (.str "spin")) (pur []))) (pur []))))))
    (retM (andD (twoM true (callM (Φ 24) (narM 3 (argM (tupM (consM (keepM 5) (pur []))) (pur [])))) (pur (.str "hand")) eqD) (twoM true (callM (Φ 24) (narM 3 (argM (tupM (consM (keepM 6) (pur []))) (pur [])))) (pur (.str "hand")) eqD)))))))))))
/-- law: 0 _law_script 1 _law_m 2 _law_known 3 _law_turn 4 _law_deeds 5 _law_names 6 _law_hand_here 7 _law_many 8 _law_steps 9 _law_due 10 _law_k -/
def b_28 (Φ : Ph) : M Fl :=
    seqM (asgM 1 (callM (Φ 16) (narM 0 (pur []))))
    (seqM (asgM 2 (lstM (pur [])))
    (seqM (forS (range1I (pur (.int 8))) (gnM 3) (seqM (asgM 4 (callM (Φ 17) (narM 1 (argM (twoM true (lstM (consM (pur (.int 0)) (consM (pur (.int 1)) (consM (pur (.int 2)) (consM (pur (.int 2)) (consM (pur (.int 3)) (consM (pur (.int 8)) (pur [])))))))) (callM (Φ 15) (narM 1 (argM (pur (.int 6)) (pur [])))) ixD) (pur [])))))
    (seqM (asgM 5 (callM (Φ 17) (narM 1 (argM (pur (.int 2)) (pur [])))))
    (seqM (storeM 1 (pur (.int 12)) (rootM 1) (pur (.str "room")))
    (seqM (asgM 6 (callM (Φ 20) (narM 1 (narM 4 (narM 5 (argM (twoM true (pur (.int 2)) (callM (Φ 15) (narM 1 (argM (pur (.int 4)) (pur [])))) addD) (pur [])))))))
    (seqM (asgM 7 (twoM true (lstM (consM (pur (.int 0)) (consM (pur (.int 1)) (consM (pur (.int 1)) (consM (pur (.int 2)) (consM (pur (.int 3)) (consM (pur (.int 10)) (pur [])))))))) (callM (Φ 15) (narM 1 (argM (pur (.int 6)) (pur [])))) ixD))
    (seqM (asgM 8 (oneM (compM [10] (range1I (varM 7)) (gnM 10) (pur true) (callM (Φ 21) (narM 1 (narM 4 (narM 5 (pur [])))))) tupleD))
    (seqM (asgM 9 (callM (Φ 22) (narM 6 (narM 8 (pur [])))))
    (seqM (iteM (orM (boolM (twoM true (callM (Φ 10) (narM 8 (pur []))) (pur .non) notND)) (boolM (twoM true (oneM (callM (Φ 24) (narM 6 (narM 8 (pur [])))) reprD) (oneM (varM 9) reprD) neD))) (retM (pur (.bl false))) (pur .nx))
    (exprM (mthM 2 "list" appendG (rootM 2) (consM (tupM (consM (keepM 6) (consM (keepM 8) (consM (keepM 9) (pur []))))) (pur [])))))))))))))
    (seqM (forS (seqI (twoM true (oneM (varM 2) revD) (varM 2) addD)) (gtM 3 (gconsM (gnM 6) (gconsM (gnM 8) (gconsM (gnM 9) (gnilM))))) (iteM (orM (boolM (twoM true (oneM (callM (Φ 24) (narM 6 (narM 8 (pur [])))) reprD) (oneM (varM 9) reprD) neD)) (boolM (twoM true (oneM (callM (Φ 24) (narM 6 (argM (tupM (pur [])) (pur [])))) reprD) (oneM (varM 6) reprD) neD))) (retM (pur (.bl false))) (pur .nx)))
    (retM (callM (Φ 27) (narM 1 (pur [])))))))
abbrev s_0 : Stmt := top 18
abbrev d_0 : DefI := ⟨"is_word", "is_word", s_0, ["thing", "sign"], ["thing"], b_0⟩
abbrev s_1 : Stmt := top 19
abbrev d_1 : DefI := ⟨"is_row", "is_row", s_1, ["thing", "deed"], ["thing"], b_1⟩
abbrev s_2 : Stmt := top 20
abbrev d_2 : DefI := ⟨"is_rising", "is_rising", s_2, ["texts", "one", "other"], ["texts"], b_2⟩
abbrev s_3 : Stmt := top 21
abbrev d_3 : DefI := ⟨"is_set", "is_set", s_3, ["thing"], ["thing"], b_3⟩
abbrev s_4 : Stmt := top 26
abbrev d_4 : DefI := ⟨"is_pairs", "is_pairs", s_4, ["thing", "pair", "deed"], ["thing"], b_4⟩
abbrev s_5 : Stmt := top 27
abbrev d_5 : DefI := ⟨"is_form", "is_form", s_5, ["thing"], ["thing"], b_5⟩
abbrev s_6 : Stmt := top 28
abbrev d_6 : DefI := ⟨"beneath", "beneath", s_6, ["hand"], ["hand"], b_6⟩
abbrev s_7 : Stmt := top 29
abbrev d_7 : DefI := ⟨"is_hand", "is_hand", s_7, ["thing", "waiting", "many", "here", "deep", "part"], ["thing"], b_7⟩
abbrev s_8 : Stmt := top 30
abbrev d_8 : DefI := ⟨"need_hand", "need_hand", s_8, ["thing"], ["thing"], b_8⟩
abbrev s_9 : Stmt := top 34
abbrev d_9 : DefI := ⟨"is_step", "is_step", s_9, ["thing"], ["thing"], b_9⟩
abbrev s_10 : Stmt := top 35
abbrev d_10 : DefI := ⟨"need_surroundings", "need_surroundings", s_10, ["thing", "step"], ["thing"], b_10⟩
abbrev s_11 : Stmt := top 36
abbrev d_11 : DefI := ⟨"put_one", "put_one", s_11, ["hand", "step"], ["hand", "step"], b_11⟩
abbrev s_12 : Stmt := top 37
abbrev d_12 : DefI := ⟨"put_round", "put_round", s_12, ["hand", "steps", "step"], ["hand", "steps"], b_12⟩
abbrev s_13 : Stmt := top 39
abbrev d_13 : DefI := ⟨"_law_mixed", "_law_mixed", s_13, ["_law_cell", "_law_k", "_law_number"], ["_law_cell", "_law_k"], b_13⟩
abbrev s_14 : Stmt := top 40
abbrev d_14 : DefI := ⟨"_law_folded", "_law_folded", s_14, ["_law_script", "_law_found", "_law_k", "_law_cell"], ["_law_script"], b_14⟩
abbrev s_15 : Stmt := top 41
abbrev d_15 : DefI := ⟨"_law_draw", "_law_draw", s_15, ["_law_m", "_law_many", "_law_k", "_law_at", "_law_cell"], ["_law_m", "_law_many"], b_15⟩
abbrev s_16 : Stmt := top 42
abbrev d_16 : DefI := ⟨"_law_begun", "_law_begun", s_16, ["_law_script", "_law_m", "_law_cell"], ["_law_script"], b_16⟩
abbrev s_17 : Stmt := top 43
abbrev d_17 : DefI := ⟨"_law_words", "_law_words", s_17, ["_law_m", "_law_many", "_law_letters", "_law_size", "_law_at", "_law_stride", "_law_base", "_law_found", "_law_k", "_law_bars", "_law_start", "_law_way", "_law_mark", "_law_word", "_law_j"], ["_law_m", "_law_many"], b_17⟩
abbrev s_18 : Stmt := top 44
abbrev d_18 : DefI := ⟨"_law_set", "_law_set", s_18, ["_law_m", "_law_deeds", "_law_deed"], ["_law_m", "_law_deeds"], b_18⟩
abbrev s_19 : Stmt := top 45
abbrev d_19 : DefI := ⟨"_law_pairs", "_law_pairs", s_19, ["_law_m", "_law_deeds", "_law_firsts", "_law_deed"], ["_law_m", "_law_deeds"], b_19⟩
abbrev s_20 : Stmt := top 46
abbrev d_20 : DefI := ⟨"_law_hand", "_law_hand", s_20, ["_law_m", "_law_deeds", "_law_names", "_law_deep", "_law_way", "_law_some", "_law_one"], ["_law_m", "_law_deeds", "_law_names", "_law_deep"], b_20⟩
abbrev s_21 : Stmt := top 47
abbrev d_21 : DefI := ⟨"_law_step", "_law_step", s_21, ["_law_m", "_law_deeds", "_law_names", "_law_way", "_law_hand_here"], ["_law_m", "_law_deeds", "_law_names"], b_21⟩
abbrev s_22 : Stmt := top 48
abbrev d_22 : DefI := ⟨"_law_put", "_law_put", s_22, ["_law_hand_here", "_law_steps", "_law_step_here"], ["_law_hand_here", "_law_steps"], b_22⟩
abbrev s_23 : Stmt := top 49
abbrev d_23 : DefI := ⟨"_law_is_other", "_law_is_other", s_23, ["_law_caught"], ["_law_caught"], b_23⟩
abbrev s_24 : Stmt := top 50
abbrev d_24 : DefI := ⟨"_law_said", "_law_said", s_24, ["_law_hand_here", "_law_steps", "_law_caught", "_law_found", "error", "_law_is_one"], ["_law_hand_here", "_law_steps"], b_24⟩
abbrev s_25 : Stmt := top 51
abbrev d_25 : DefI := ⟨"_law_chain", "_law_chain", s_25, ["_law_many", "_law_hand_here", "_law_turn"], ["_law_many"], b_25⟩
abbrev s_26 : Stmt := top 52
abbrev d_26 : DefI := ⟨"_law_bush", "_law_bush", s_26, ["_law_many"], ["_law_many"], b_26⟩
abbrev s_27 : Stmt := top 53
abbrev d_27 : DefI := ⟨"_law_bounds_right", "_law_bounds_right", s_27, ["_law_m", "_law_many", "_law_led", "_law_bush_here", "_law_some", "_law_one", "_law_two"], ["_law_m"], b_27⟩
abbrev s_28 : Stmt := top 54
abbrev d_28 : DefI := ⟨"law", "law", s_28, ["_law_script", "_law_m", "_law_known", "_law_turn", "_law_deeds", "_law_names", "_law_hand_here", "_law_many", "_law_steps", "_law_due", "_law_k"], ["_law_script"], b_28⟩
abbrev DL : List DefI := [d_0, d_1, d_2, d_3, d_4, d_5, d_6, d_7, d_8, d_9, d_10, d_11, d_12, d_13, d_14, d_15, d_16, d_17, d_18, d_19, d_20, d_21, d_22, d_23, d_24, d_25, d_26, d_27, d_28]
theorem phi_0 (n : Nat) (ds : List D) : PhiN DL (n + 1) 0 ds = runB 2 (b_0 (PhiN DL n)) ds := rfl
theorem sc_0 : FnScope ["thing", "sign"] ["thing"] (defScope s_0) := ⟨rfl, rfl, rfl, by decide +kernel, rfl, by decide +kernel, by decide +kernel⟩
theorem phi_1 (n : Nat) (ds : List D) : PhiN DL (n + 1) 1 ds = runB 2 (b_1 (PhiN DL n)) ds := rfl
theorem sc_1 : FnScope ["thing", "deed"] ["thing"] (defScope s_1) := ⟨rfl, rfl, rfl, by decide +kernel, rfl, by decide +kernel, by decide +kernel⟩
theorem phi_2 (n : Nat) (ds : List D) : PhiN DL (n + 1) 2 ds = runB 3 (b_2 (PhiN DL n)) ds := rfl
theorem sc_2 : FnScope ["texts", "one", "other"] ["texts"] (defScope s_2) := ⟨rfl, rfl, rfl, by decide +kernel, rfl, by decide +kernel, by decide +kernel⟩
theorem phi_3 (n : Nat) (ds : List D) : PhiN DL (n + 1) 3 ds = runB 1 (b_3 (PhiN DL n)) ds := rfl
theorem sc_3 : FnScope ["thing"] ["thing"] (defScope s_3) := ⟨rfl, rfl, rfl, by decide +kernel, rfl, by decide +kernel, by decide +kernel⟩
theorem phi_4 (n : Nat) (ds : List D) : PhiN DL (n + 1) 4 ds = runB 3 (b_4 (PhiN DL n)) ds := rfl
theorem sc_4 : FnScope ["thing", "pair", "deed"] ["thing"] (defScope s_4) := ⟨rfl, rfl, rfl, by decide +kernel, rfl, by decide +kernel, by decide +kernel⟩
theorem phi_5 (n : Nat) (ds : List D) : PhiN DL (n + 1) 5 ds = runB 1 (b_5 (PhiN DL n)) ds := rfl
theorem sc_5 : FnScope ["thing"] ["thing"] (defScope s_5) := ⟨rfl, rfl, rfl, by decide +kernel, rfl, by decide +kernel, by decide +kernel⟩
theorem phi_6 (n : Nat) (ds : List D) : PhiN DL (n + 1) 6 ds = runB 1 (b_6 (PhiN DL n)) ds := rfl
theorem sc_6 : FnScope ["hand"] ["hand"] (defScope s_6) := ⟨rfl, rfl, rfl, by decide +kernel, rfl, by decide +kernel, by decide +kernel⟩
theorem phi_7 (n : Nat) (ds : List D) : PhiN DL (n + 1) 7 ds = runB 6 (b_7 (PhiN DL n)) ds := rfl
theorem sc_7 : FnScope ["thing", "waiting", "many", "here", "deep", "part"] ["thing"] (defScope s_7) := ⟨rfl, rfl, rfl, by decide +kernel, rfl, by decide +kernel, by decide +kernel⟩
theorem phi_8 (n : Nat) (ds : List D) : PhiN DL (n + 1) 8 ds = runB 1 (b_8 (PhiN DL n)) ds := rfl
theorem sc_8 : FnScope ["thing"] ["thing"] (defScope s_8) := ⟨rfl, rfl, rfl, by decide +kernel, rfl, by decide +kernel, by decide +kernel⟩
theorem phi_9 (n : Nat) (ds : List D) : PhiN DL (n + 1) 9 ds = runB 1 (b_9 (PhiN DL n)) ds := rfl
theorem sc_9 : FnScope ["thing"] ["thing"] (defScope s_9) := ⟨rfl, rfl, rfl, by decide +kernel, rfl, by decide +kernel, by decide +kernel⟩
theorem phi_10 (n : Nat) (ds : List D) : PhiN DL (n + 1) 10 ds = runB 2 (b_10 (PhiN DL n)) ds := rfl
theorem sc_10 : FnScope ["thing", "step"] ["thing"] (defScope s_10) := ⟨rfl, rfl, rfl, by decide +kernel, rfl, by decide +kernel, by decide +kernel⟩
theorem phi_11 (n : Nat) (ds : List D) : PhiN DL (n + 1) 11 ds = runB 2 (b_11 (PhiN DL n)) ds := rfl
theorem sc_11 : FnScope ["hand", "step"] ["hand", "step"] (defScope s_11) := ⟨rfl, rfl, rfl, by decide +kernel, rfl, by decide +kernel, by decide +kernel⟩
theorem phi_12 (n : Nat) (ds : List D) : PhiN DL (n + 1) 12 ds = runB 3 (b_12 (PhiN DL n)) ds := rfl
theorem sc_12 : FnScope ["hand", "steps", "step"] ["hand", "steps"] (defScope s_12) := ⟨rfl, rfl, rfl, by decide +kernel, rfl, by decide +kernel, by decide +kernel⟩
theorem phi_13 (n : Nat) (ds : List D) : PhiN DL (n + 1) 13 ds = runB 3 (b_13 (PhiN DL n)) ds := rfl
theorem sc_13 : FnScope ["_law_cell", "_law_k", "_law_number"] ["_law_cell", "_law_k"] (defScope s_13) := ⟨rfl, rfl, rfl, by decide +kernel, rfl, by decide +kernel, by decide +kernel⟩
theorem phi_14 (n : Nat) (ds : List D) : PhiN DL (n + 1) 14 ds = runB 4 (b_14 (PhiN DL n)) ds := rfl
theorem sc_14 : FnScope ["_law_script", "_law_found", "_law_k", "_law_cell"] ["_law_script"] (defScope s_14) := ⟨rfl, rfl, rfl, by decide +kernel, rfl, by decide +kernel, by decide +kernel⟩
theorem phi_15 (n : Nat) (ds : List D) : PhiN DL (n + 1) 15 ds = runB 5 (b_15 (PhiN DL n)) ds := rfl
theorem sc_15 : FnScope ["_law_m", "_law_many", "_law_k", "_law_at", "_law_cell"] ["_law_m", "_law_many"] (defScope s_15) := ⟨rfl, rfl, rfl, by decide +kernel, rfl, by decide +kernel, by decide +kernel⟩
theorem phi_16 (n : Nat) (ds : List D) : PhiN DL (n + 1) 16 ds = runB 3 (b_16 (PhiN DL n)) ds := rfl
theorem sc_16 : FnScope ["_law_script", "_law_m", "_law_cell"] ["_law_script"] (defScope s_16) := ⟨rfl, rfl, rfl, by decide +kernel, rfl, by decide +kernel, by decide +kernel⟩
theorem phi_17 (n : Nat) (ds : List D) : PhiN DL (n + 1) 17 ds = runB 15 (b_17 (PhiN DL n)) ds := rfl
theorem sc_17 : FnScope ["_law_m", "_law_many", "_law_letters", "_law_size", "_law_at", "_law_stride", "_law_base", "_law_found", "_law_k", "_law_bars", "_law_start", "_law_way", "_law_mark", "_law_word", "_law_j"] ["_law_m", "_law_many"] (defScope s_17) := ⟨rfl, rfl, rfl, by decide +kernel, rfl, by decide +kernel, by decide +kernel⟩
theorem phi_18 (n : Nat) (ds : List D) : PhiN DL (n + 1) 18 ds = runB 3 (b_18 (PhiN DL n)) ds := rfl
theorem sc_18 : FnScope ["_law_m", "_law_deeds", "_law_deed"] ["_law_m", "_law_deeds"] (defScope s_18) := ⟨rfl, rfl, rfl, by decide +kernel, rfl, by decide +kernel, by decide +kernel⟩
theorem phi_19 (n : Nat) (ds : List D) : PhiN DL (n + 1) 19 ds = runB 4 (b_19 (PhiN DL n)) ds := rfl
theorem sc_19 : FnScope ["_law_m", "_law_deeds", "_law_firsts", "_law_deed"] ["_law_m", "_law_deeds"] (defScope s_19) := ⟨rfl, rfl, rfl, by decide +kernel, rfl, by decide +kernel, by decide +kernel⟩
theorem phi_20 (n : Nat) (ds : List D) : PhiN DL (n + 1) 20 ds = runB 7 (b_20 (PhiN DL n)) ds := rfl
theorem sc_20 : FnScope ["_law_m", "_law_deeds", "_law_names", "_law_deep", "_law_way", "_law_some", "_law_one"] ["_law_m", "_law_deeds", "_law_names", "_law_deep"] (defScope s_20) := ⟨rfl, rfl, rfl, by decide +kernel, rfl, by decide +kernel, by decide +kernel⟩
theorem phi_21 (n : Nat) (ds : List D) : PhiN DL (n + 1) 21 ds = runB 5 (b_21 (PhiN DL n)) ds := rfl
theorem sc_21 : FnScope ["_law_m", "_law_deeds", "_law_names", "_law_way", "_law_hand_here"] ["_law_m", "_law_deeds", "_law_names"] (defScope s_21) := ⟨rfl, rfl, rfl, by decide +kernel, rfl, by decide +kernel, by decide +kernel⟩
theorem phi_22 (n : Nat) (ds : List D) : PhiN DL (n + 1) 22 ds = runB 3 (b_22 (PhiN DL n)) ds := rfl
theorem sc_22 : FnScope ["_law_hand_here", "_law_steps", "_law_step_here"] ["_law_hand_here", "_law_steps"] (defScope s_22) := ⟨rfl, rfl, rfl, by decide +kernel, rfl, by decide +kernel, by decide +kernel⟩
theorem phi_23 (n : Nat) (ds : List D) : PhiN DL (n + 1) 23 ds = runB 1 (b_23 (PhiN DL n)) ds := rfl
theorem sc_23 : FnScope ["_law_caught"] ["_law_caught"] (defScope s_23) := ⟨rfl, rfl, rfl, by decide +kernel, rfl, by decide +kernel, by decide +kernel⟩
theorem phi_24 (n : Nat) (ds : List D) : PhiN DL (n + 1) 24 ds = runB 6 (b_24 (PhiN DL n)) ds := rfl
theorem sc_24 : FnScope ["_law_hand_here", "_law_steps", "_law_caught", "_law_found", "error", "_law_is_one"] ["_law_hand_here", "_law_steps"] (defScope s_24) := ⟨rfl, rfl, rfl, by decide +kernel, rfl, by decide +kernel, by decide +kernel⟩
theorem phi_25 (n : Nat) (ds : List D) : PhiN DL (n + 1) 25 ds = runB 3 (b_25 (PhiN DL n)) ds := rfl
theorem sc_25 : FnScope ["_law_many", "_law_hand_here", "_law_turn"] ["_law_many"] (defScope s_25) := ⟨rfl, rfl, rfl, by decide +kernel, rfl, by decide +kernel, by decide +kernel⟩
theorem phi_26 (n : Nat) (ds : List D) : PhiN DL (n + 1) 26 ds = runB 1 (b_26 (PhiN DL n)) ds := rfl
theorem sc_26 : FnScope ["_law_many"] ["_law_many"] (defScope s_26) := ⟨rfl, rfl, rfl, by decide +kernel, rfl, by decide +kernel, by decide +kernel⟩
theorem phi_27 (n : Nat) (ds : List D) : PhiN DL (n + 1) 27 ds = runB 7 (b_27 (PhiN DL n)) ds := rfl
theorem sc_27 : FnScope ["_law_m", "_law_many", "_law_led", "_law_bush_here", "_law_some", "_law_one", "_law_two"] ["_law_m"] (defScope s_27) := ⟨rfl, rfl, rfl, by decide +kernel, rfl, by decide +kernel, by decide +kernel⟩
theorem phi_28 (n : Nat) (ds : List D) : PhiN DL (n + 1) 28 ds = runB 11 (b_28 (PhiN DL n)) ds := rfl
theorem sc_28 : FnScope ["_law_script", "_law_m", "_law_known", "_law_turn", "_law_deeds", "_law_names", "_law_hand_here", "_law_many", "_law_steps", "_law_due", "_law_k"] ["_law_script"] (defScope s_28) := ⟨rfl, rfl, rfl, by decide +kernel, rfl, by decide +kernel, by decide +kernel⟩
structure MF (P : Program) (w : World) (K : PySem.W.Frag) (mg : Mg) (base : Heap) (C_HandError C_BadDeeds C_BadHand C_BadHouse C_BadMachine C_BadNode C_BadRow C_BadWay C_BadPaper C_NoName C_TooGreat C_BadText : Addr) : Prop where
  b_ValueError : mg "ValueError" = none
  b_all : mg "all" = none
  b_enumerate : mg "enumerate" = none
  b_isinstance : mg "isinstance" = none
  b_len : mg "len" = none
  b_range : mg "range" = none
  b_repr : mg "repr" = none
  b_sorted : mg "sorted" = none
  b_str : mg "str" = none
  b_tuple : mg "tuple" = none
  b_zip : mg "zip" = none
  g_HandError : mg "HandError" = some (.ref C_HandError)
  k_HandError : PySem.W.keepIn K (.ref C_HandError) = true
  q_HandError : PySem.W.excIn K C_HandError [.type "ValueError", .type "Exception", .type "BaseException", .type "object"] "ValueError.__new__" = true
  g_BadDeeds : mg "BadDeeds" = some (.ref C_BadDeeds)
  k_BadDeeds : PySem.W.keepIn K (.ref C_BadDeeds) = true
  q_BadDeeds : PySem.W.excIn K C_BadDeeds [.type "ValueError", .type "Exception", .type "BaseException", .type "object"] "ValueError.__new__" = true
  g_BadHand : mg "BadHand" = some (.ref C_BadHand)
  k_BadHand : PySem.W.keepIn K (.ref C_BadHand) = true
  q_BadHand : PySem.W.excIn K C_BadHand [.type "ValueError", .type "Exception", .type "BaseException", .type "object"] "ValueError.__new__" = true
  g_BadHouse : mg "BadHouse" = some (.ref C_BadHouse)
  k_BadHouse : PySem.W.keepIn K (.ref C_BadHouse) = true
  q_BadHouse : PySem.W.excIn K C_BadHouse [.type "ValueError", .type "Exception", .type "BaseException", .type "object"] "ValueError.__new__" = true
  g_BadMachine : mg "BadMachine" = some (.ref C_BadMachine)
  k_BadMachine : PySem.W.keepIn K (.ref C_BadMachine) = true
  q_BadMachine : PySem.W.excIn K C_BadMachine [.type "ValueError", .type "Exception", .type "BaseException", .type "object"] "ValueError.__new__" = true
  g_BadNode : mg "BadNode" = some (.ref C_BadNode)
  k_BadNode : PySem.W.keepIn K (.ref C_BadNode) = true
  q_BadNode : PySem.W.excIn K C_BadNode [.type "ValueError", .type "Exception", .type "BaseException", .type "object"] "ValueError.__new__" = true
  g_BadRow : mg "BadRow" = some (.ref C_BadRow)
  k_BadRow : PySem.W.keepIn K (.ref C_BadRow) = true
  q_BadRow : PySem.W.excIn K C_BadRow [.type "ValueError", .type "Exception", .type "BaseException", .type "object"] "ValueError.__new__" = true
  g_BadWay : mg "BadWay" = some (.ref C_BadWay)
  k_BadWay : PySem.W.keepIn K (.ref C_BadWay) = true
  q_BadWay : PySem.W.excIn K C_BadWay [.type "ValueError", .type "Exception", .type "BaseException", .type "object"] "ValueError.__new__" = true
  g_BadPaper : mg "BadPaper" = some (.ref C_BadPaper)
  k_BadPaper : PySem.W.keepIn K (.ref C_BadPaper) = true
  q_BadPaper : PySem.W.excIn K C_BadPaper [.type "ValueError", .type "Exception", .type "BaseException", .type "object"] "ValueError.__new__" = true
  g_NoName : mg "NoName" = some (.ref C_NoName)
  k_NoName : PySem.W.keepIn K (.ref C_NoName) = true
  q_NoName : PySem.W.excIn K C_NoName [.type "ValueError", .type "Exception", .type "BaseException", .type "object"] "ValueError.__new__" = true
  g_TooGreat : mg "TooGreat" = some (.ref C_TooGreat)
  k_TooGreat : PySem.W.keepIn K (.ref C_TooGreat) = true
  q_TooGreat : PySem.W.excIn K C_TooGreat [.type "ValueError", .type "Exception", .type "BaseException", .type "object"] "ValueError.__new__" = true
  g_BadText : mg "BadText" = some (.ref C_BadText)
  k_BadText : PySem.W.keepIn K (.ref C_BadText) = true
  tb_str : ∀ p ∈ tb_str, PySem.W.kitOne K (.type p.1) (.type "str") = some p.2
  te_str : ∀ p ∈ te_str, ∀ C, mg p.1 = some (.ref C) → ExcC K C ∧ PySem.W.kitOne K (.ref C) (.type "str") = some p.2
  tb_tuple : ∀ p ∈ tb_tuple, PySem.W.kitOne K (.type p.1) (.type "tuple") = some p.2
  te_tuple : ∀ p ∈ te_tuple, ∀ C, mg p.1 = some (.ref C) → ExcC K C ∧ PySem.W.kitOne K (.ref C) (.type "tuple") = some p.2
  tb_BadDeeds_BadHouse_BadMachine_BadNode_BadPaper : ∀ p ∈ tb_BadDeeds_BadHouse_BadMachine_BadNode_BadPaper, PySem.W.kitAny K (.type p.1) [.ref C_BadDeeds, .ref C_BadHouse, .ref C_BadMachine, .ref C_BadNode, .ref C_BadPaper] = some p.2
  te_BadDeeds_BadHouse_BadMachine_BadNode_BadPaper : ∀ p ∈ te_BadDeeds_BadHouse_BadMachine_BadNode_BadPaper, ∀ C, mg p.1 = some (.ref C) → ExcC K C ∧ PySem.W.kitAny K (.ref C) [.ref C_BadDeeds, .ref C_BadHouse, .ref C_BadMachine, .ref C_BadNode, .ref C_BadPaper] = some p.2
  tb_BadRow_BadText_BadWay_NoName_TooGreat : ∀ p ∈ tb_BadRow_BadText_BadWay_NoName_TooGreat, PySem.W.kitAny K (.type p.1) [.ref C_BadRow, .ref C_BadText, .ref C_BadWay, .ref C_NoName, .ref C_TooGreat] = some p.2
  te_BadRow_BadText_BadWay_NoName_TooGreat : ∀ p ∈ te_BadRow_BadText_BadWay_NoName_TooGreat, ∀ C, mg p.1 = some (.ref C) → ExcC K C ∧ PySem.W.kitAny K (.ref C) [.ref C_BadRow, .ref C_BadText, .ref C_BadWay, .ref C_NoName, .ref C_TooGreat] = some p.2
  tb_BadHand : ∀ p ∈ tb_BadHand, PySem.W.kitOne K (.type p.1) (.ref C_BadHand) = some p.2
  te_BadHand : ∀ p ∈ te_BadHand, ∀ C, mg p.1 = some (.ref C) → ExcC K C ∧ PySem.W.kitOne K (.ref C) (.ref C_BadHand) = some p.2
  tb_ValueError : ∀ p ∈ tb_ValueError, PySem.W.kitOne K (.type p.1) (.type "ValueError") = some p.2
  te_ValueError : ∀ p ∈ te_ValueError, ∀ C, mg p.1 = some (.ref C) → ExcC K C ∧ PySem.W.kitOne K (.ref C) (.type "ValueError") = some p.2
  c_MOST_LETTERS : ∃ u, mg "MOST_LETTERS" = some u ∧ flatVB (.int 6) u = true
  c_BARS : ∃ a, mg "BARS" = some (.ref a) ∧ tupB K a [.str "stop", .str "spin", .str "out", .str "own", .str "beside", .str "hide", .str "as"] = true
  c_LETTERS : ∃ u, mg "LETTERS" = some u ∧ flatVB (.str "abcdefghijklmnopqrstuvwxyz") u = true
  c_MOST_DEEDS : ∃ u, mg "MOST_DEEDS" = some u ∧ flatVB (.int 8) u = true
  c_LONG_forms : ∃ a, mg "LONG_forms" = some (.ref a) ∧ KDictOk K w a kd_LONG_forms
  c_MOST_SIZE : ∃ u, mg "MOST_SIZE" = some u ∧ flatVB (.int 200) u = true
  c_MOST_DEEP : ∃ u, mg "MOST_DEEP" = some u ∧ flatVB (.int 40) u = true
  c_LONG_surroundings : ∃ a, mg "LONG_surroundings" = some (.ref a) ∧ KDictOk K w a kd_LONG_surroundings
  c_MOST_STEPS : ∃ u, mg "MOST_STEPS" = some u ∧ flatVB (.int 10) u = true
  r_BadHand : RaiOk K mg "BadHand"
  e_HandError : ExmOk K mg "HandError" em_HandError
section
variable {P : Program} {w : World} {K : PySem.W.Frag} {mg : Mg} {base : Heap} {C_HandError C_BadDeeds C_BadHand C_BadHouse C_BadMachine C_BadNode C_BadRow C_BadWay C_BadPaper C_NoName C_TooGreat C_BadText : Addr}
theorem ok_0 (M : MF P w K mg base C_HandError C_BadDeeds C_BadHand C_BadHouse C_BadMachine C_BadNode C_BadRow C_BadWay C_BadPaper C_NoName C_TooGreat C_BadText) : BodyG P w K mg base DL d_0 := by
  intro k Φ h3 C f cdv A outer s H E hgd hr
  have hr2 := hr.mono (show 2 ≤ k by omega)
  have nd := sc_0.nd
  have hu := hu_of hr
  have hu2 := lt150 hr
  have hp : ∀ W, Takes (cxOf (L2.CX P w) P w K mg base d_0.N d_0.qual (defScope d_0.st) f cdv A outer s H E) W → PassesOwn (model P w) (A.deeper (PyProof.Rows.envOfC d_0.qual (defScope d_0.st) s.heap.objs.size f cdv)) (PyProof.Rows.envOfC d_0.qual (defScope d_0.st) s.heap.objs.size f cdv) (cxOf (L2.CX P w) P w K mg base d_0.N d_0.qual (defScope d_0.st) f cdv A outer s H E).xe := fun W tk => passes_of rfl
  exact ⟨_, vss_cons (vs_if (VW.vt (vw_or (vt_not (vt_val (ve_isi rfl M.b_isinstance (ev 0) (pe_bltn (v := .ty "str") rfl M.b_str (by decide +kernel) rfl) (.ty _) M.tb_str M.te_str PyProof.Rows.boot_isinstance))) (vw_or (vt_not (vt_chain od_le od_le (ve_int) (eb1 c1_len M.b_len (by decide +kernel) (ev 0)) (ekint M.c_MOST_LETTERS))) (vw_or1 (tcmp true (od_in hu2) (ev 0) (ektup M.c_BARS)))))) (vss_one (vs_ret (ve_bl))) (vss_nil))
    (vss_one (vs_ret (eb1 (c1_all rfl) M.b_all (by decide +kernel) (elc [("sign", 1)] nd (vi_seq (ev 0)) (fun _ _ _ _ _ => gnm (i := 1) nd) (fun _ _ _ _ _ => vts_nil) (fun _ _ _ _ _ => ecmp true (od_in hu2) (ev 1) (ekstr M.c_LETTERS))))))⟩
theorem ok_1 (M : MF P w K mg base C_HandError C_BadDeeds C_BadHand C_BadHouse C_BadMachine C_BadNode C_BadRow C_BadWay C_BadPaper C_NoName C_TooGreat C_BadText) : BodyG P w K mg base DL d_1 := by
  intro k Φ h3 C f cdv A outer s H E hgd hr
  have hr2 := hr.mono (show 2 ≤ k by omega)
  have nd := sc_1.nd
  have hu := hu_of hr
  have hu2 := lt150 hr
  have hp : ∀ W, Takes (cxOf (L2.CX P w) P w K mg base d_1.N d_1.qual (defScope d_1.st) f cdv A outer s H E) W → PassesOwn (model P w) (A.deeper (PyProof.Rows.envOfC d_1.qual (defScope d_1.st) s.heap.objs.size f cdv)) (PyProof.Rows.envOfC d_1.qual (defScope d_1.st) s.heap.objs.size f cdv) (cxOf (L2.CX P w) P w K mg base d_1.N d_1.qual (defScope d_1.st) f cdv A outer s H E).xe := fun W tk => passes_of rfl
  exact ⟨_, vss_one (vs_ret (ve_and (ve_isi rfl M.b_isinstance (ev 0) (pe_bltn (v := .ty "tuple") rfl M.b_tuple (by decide +kernel) rfl) (.ty _) M.tb_tuple M.te_tuple PyProof.Rows.boot_isinstance) (ve_one (eb1 (c1_all rfl) M.b_all (by decide +kernel) (elc [("deed", 1)] nd (vi_seq (ev 0)) (fun _ _ _ _ _ => gnm (i := 1) nd) (fun _ _ _ _ _ => vts_nil) (fun _ _ _ _ _ => ecallG (d := d_0) (C 0 d_0 rfl) hgd hr (gn 1 (vg_nil)) (glen_nar (glen_nil))))))))⟩
theorem ok_2 (M : MF P w K mg base C_HandError C_BadDeeds C_BadHand C_BadHouse C_BadMachine C_BadNode C_BadRow C_BadWay C_BadPaper C_NoName C_TooGreat C_BadText) : BodyG P w K mg base DL d_2 := by
  intro k Φ h3 C f cdv A outer s H E hgd hr
  have hr2 := hr.mono (show 2 ≤ k by omega)
  have nd := sc_2.nd
  have hu := hu_of hr
  have hu2 := lt150 hr
  have hp : ∀ W, Takes (cxOf (L2.CX P w) P w K mg base d_2.N d_2.qual (defScope d_2.st) f cdv A outer s H E) W → PassesOwn (model P w) (A.deeper (PyProof.Rows.envOfC d_2.qual (defScope d_2.st) s.heap.objs.size f cdv)) (PyProof.Rows.envOfC d_2.qual (defScope d_2.st) s.heap.objs.size f cdv) (cxOf (L2.CX P w) P w K mg base d_2.N d_2.qual (defScope d_2.st) f cdv A outer s H E).xe := fun W tk => passes_of rfl
  exact ⟨_, vss_one (vs_ret (eb1 (c1_all rfl) M.b_all (by decide +kernel) (elc [("one", 1), ("other", 2)] nd (vi_zip true rfl M.b_zip (ev 0) (ve_slice true (ev 0) (vo_some (ve_int)) (vo_none) (by first | (intro h; exact Bool.noConfusion h) | (intro _ i h; cases h; rfl) | (intro _ i h; cases h))) (by first | (intro h; exact Bool.noConfusion h) | (intro _ i h; cases h; rfl) | (intro _ i h; cases h))) (fun _ _ _ _ _ => vg_tt rfl (vg_tcons (gnm (i := 1) nd) (vg_tcons (gnm (i := 2) nd) (vg_tnil)))) (fun _ _ _ _ _ => vts_nil) (fun _ _ _ _ _ => ecmp true od_lt (ev 1) (ev 2)))))⟩
theorem ok_3 (M : MF P w K mg base C_HandError C_BadDeeds C_BadHand C_BadHouse C_BadMachine C_BadNode C_BadRow C_BadWay C_BadPaper C_NoName C_TooGreat C_BadText) : BodyG P w K mg base DL d_3 := by
  intro k Φ h3 C f cdv A outer s H E hgd hr
  have hr2 := hr.mono (show 2 ≤ k by omega)
  have nd := sc_3.nd
  have hu := hu_of hr
  have hu2 := lt150 hr
  have hp : ∀ W, Takes (cxOf (L2.CX P w) P w K mg base d_3.N d_3.qual (defScope d_3.st) f cdv A outer s H E) W → PassesOwn (model P w) (A.deeper (PyProof.Rows.envOfC d_3.qual (defScope d_3.st) s.heap.objs.size f cdv)) (PyProof.Rows.envOfC d_3.qual (defScope d_3.st) s.heap.objs.size f cdv) (cxOf (L2.CX P w) P w K mg base d_3.N d_3.qual (defScope d_3.st) f cdv A outer s H E).xe := fun W tk => passes_of rfl
  exact ⟨_, vss_one (vs_ret (ve_and (ecallG (d := d_1) (C 1 d_1 rfl) hgd hr (gn 0 (vg_nil)) (glen_nar (glen_nil))) (ve_and (ecmp true od_le (eb1 c1_len M.b_len (by decide +kernel) (ev 0)) (ekint M.c_MOST_DEEDS)) (ve_one (ecallG (d := d_2) (C 2 d_2 rfl) hgd hr (gn 0 (vg_nil)) (glen_nar (glen_nil)))))))⟩
theorem ok_4 (M : MF P w K mg base C_HandError C_BadDeeds C_BadHand C_BadHouse C_BadMachine C_BadNode C_BadRow C_BadWay C_BadPaper C_NoName C_TooGreat C_BadText) : BodyG P w K mg base DL d_4 := by
  intro k Φ h3 C f cdv A outer s H E hgd hr
  have hr2 := hr.mono (show 2 ≤ k by omega)
  have nd := sc_4.nd
  have hu := hu_of hr
  have hu2 := lt150 hr
  have hp : ∀ W, Takes (cxOf (L2.CX P w) P w K mg base d_4.N d_4.qual (defScope d_4.st) f cdv A outer s H E) W → PassesOwn (model P w) (A.deeper (PyProof.Rows.envOfC d_4.qual (defScope d_4.st) s.heap.objs.size f cdv)) (PyProof.Rows.envOfC d_4.qual (defScope d_4.st) s.heap.objs.size f cdv) (cxOf (L2.CX P w) P w K mg base d_4.N d_4.qual (defScope d_4.st) f cdv A outer s H E).xe := fun W tk => passes_of rfl
  exact ⟨_, vss_cons (vs_if (VW.vt (vw_or (vt_not (vt_val (ve_isi rfl M.b_isinstance (ev 0) (pe_bltn (v := .ty "tuple") rfl M.b_tuple (by decide +kernel) rfl) (.ty _) M.tb_tuple M.te_tuple PyProof.Rows.boot_isinstance))) (vw_or1 (tcmp true od_gt (eb1 c1_len M.b_len (by decide +kernel) (ev 0)) (ekint M.c_MOST_DEEDS))))) (vss_one (vs_ret (ve_bl))) (vss_nil))
    (vss_cons (sfor (vi_seq (ev 0)) (gnm (i := 1) nd) (vss_one (vs_if (VW.vt (vw_or (vt_not (vt_val (ve_isi rfl M.b_isinstance (ev 1) (pe_bltn (v := .ty "tuple") rfl M.b_tuple (by decide +kernel) rfl) (.ty _) M.tb_tuple M.te_tuple PyProof.Rows.boot_isinstance))) (vw_or (tcmp true (od_ne hu2) (eb1 c1_len M.b_len (by decide +kernel) (ev 1)) (ve_int)) (vw_or1 (vt_not (vt_val (eb1 (c1_all rfl) M.b_all (by decide +kernel) (elc [("deed", 2)] nd (vi_seq (ev 1)) (fun _ _ _ _ _ => gnm (i := 2) nd) (fun _ _ _ _ _ => vts_nil) (fun _ _ _ _ _ => ecallG (d := d_0) (C 0 d_0 rfl) hgd hr (gn 2 (vg_nil)) (glen_nar (glen_nil))))))))))) (vss_one (vs_ret (ve_bl))) (vss_nil))) hp)
    (vss_one (vs_ret (ecallG (d := d_2) (C 2 d_2 rfl) hgd hr (ga1 (elc [("pair", 1)] nd (vi_seq (ev 0)) (fun _ _ _ _ _ => gnm (i := 1) nd) (fun _ _ _ _ _ => vts_nil) (fun _ _ _ _ _ => eix true (ev 1) (ve_int))) (vg_nil)) (glen_arg (glen_nil))))))⟩
theorem ok_5 (M : MF P w K mg base C_HandError C_BadDeeds C_BadHand C_BadHouse C_BadMachine C_BadNode C_BadRow C_BadWay C_BadPaper C_NoName C_TooGreat C_BadText) : BodyG P w K mg base DL d_5 := by
  intro k Φ h3 C f cdv A outer s H E hgd hr
  have hr2 := hr.mono (show 2 ≤ k by omega)
  have nd := sc_5.nd
  have hu := hu_of hr
  have hu2 := lt150 hr
  have hp : ∀ W, Takes (cxOf (L2.CX P w) P w K mg base d_5.N d_5.qual (defScope d_5.st) f cdv A outer s H E) W → PassesOwn (model P w) (A.deeper (PyProof.Rows.envOfC d_5.qual (defScope d_5.st) s.heap.objs.size f cdv)) (PyProof.Rows.envOfC d_5.qual (defScope d_5.st) s.heap.objs.size f cdv) (cxOf (L2.CX P w) P w K mg base d_5.N d_5.qual (defScope d_5.st) f cdv A outer s H E).xe := fun W tk => passes_of rfl
  exact ⟨_, vss_cons (vs_if (VW.vt (vw_or (vt_not (vt_val (ve_isi rfl M.b_isinstance (ev 0) (pe_bltn (v := .ty "tuple") rfl M.b_tuple (by decide +kernel) rfl) (.ty _) M.tb_tuple M.te_tuple PyProof.Rows.boot_isinstance))) (vw_or (tcmp true (od_eq hu2) (ev 0) (ve_tup (va_nil))) (vw_or1 (vt_not (vt_val (ve_isi rfl M.b_isinstance (eix true (ev 0) (ve_int)) (pe_bltn (v := .ty "str") rfl M.b_str (by decide +kernel) rfl) (.ty _) M.tb_str M.te_str PyProof.Rows.boot_isinstance))))))) (vss_one (vs_ret (ve_bl))) (vss_nil))
    (vss_cons (vs_if (tcmp true (od_ne hu2) (ekget true M.c_LONG_forms (eix true (ev 0) (ve_int)) (ve_int)) (eb1 c1_len M.b_len (by decide +kernel) (ev 0))) (vss_one (vs_ret (ve_bl))) (vss_nil))
    (vss_cons (vs_if (tcmp true (od_in hu2) (eix true (ev 0) (ve_int)) (ve_tup (va_cons (ve_str) (va_cons (ve_str) (va_nil))))) (vss_one (vs_ret (ecallG (d := d_0) (C 0 d_0 rfl) hgd hr (ga1 (eix true (ev 0) (ve_int)) (vg_nil)) (glen_arg (glen_nil))))) (vss_nil))
    (vss_cons (vs_if (tcmp true (od_in hu2) (eix true (ev 0) (ve_int)) (ve_tup (va_cons (ve_str) (va_cons (ve_str) (va_nil))))) (vss_one (vs_ret (ecallG (d := d_3) (C 3 d_3 rfl) hgd hr (ga1 (eix true (ev 0) (ve_int)) (vg_nil)) (glen_arg (glen_nil))))) (vss_nil))
    (vss_one (vs_ret (ve_or (ecmp true (od_ne hu2) (eix true (ev 0) (ve_int)) (ve_str)) (ve_one (ecallG (d := d_4) (C 4 d_4 rfl) hgd hr (ga1 (eix true (ev 0) (ve_int)) (vg_nil)) (glen_arg (glen_nil))))))))))⟩
theorem ok_6 (M : MF P w K mg base C_HandError C_BadDeeds C_BadHand C_BadHouse C_BadMachine C_BadNode C_BadRow C_BadWay C_BadPaper C_NoName C_TooGreat C_BadText) : BodyG P w K mg base DL d_6 := by
  intro k Φ h3 C f cdv A outer s H E hgd hr
  have hr2 := hr.mono (show 2 ≤ k by omega)
  have nd := sc_6.nd
  have hu := hu_of hr
  have hu2 := lt150 hr
  have hp : ∀ W, Takes (cxOf (L2.CX P w) P w K mg base d_6.N d_6.qual (defScope d_6.st) f cdv A outer s H E) W → PassesOwn (model P w) (A.deeper (PyProof.Rows.envOfC d_6.qual (defScope d_6.st) s.heap.objs.size f cdv)) (PyProof.Rows.envOfC d_6.qual (defScope d_6.st) s.heap.objs.size f cdv) (cxOf (L2.CX P w) P w K mg base d_6.N d_6.qual (defScope d_6.st) f cdv A outer s H E).xe := fun W tk => passes_of rfl
  exact ⟨_, vss_cons (vs_if (tcmp true (od_eq hu2) (eix true (ev 0) (ve_int)) (ve_str)) (vss_one (vs_ret (ve_lst (va_cons (eix true (ev 0) (ve_int)) (va_nil))))) (vss_nil))
    (vss_cons (vs_if (tcmp true (od_in hu2) (eix true (ev 0) (ve_int)) (ve_tup (va_cons (ve_str) (va_cons (ve_str) (va_nil))))) (vss_one (vs_ret (ve_lst (va_cons (eix true (ev 0) (ve_int)) (va_cons (eix true (ev 0) (ve_int)) (va_nil)))))) (vss_nil))
    (vss_cons (vs_if (tcmp true (od_eq hu2) (eix true (ev 0) (ve_int)) (ve_str)) (vss_one (vs_ret (ve_lst (va_cons (eix true (ev 0) (ve_int)) (va_cons (eix true (ev 0) (ve_int)) (va_nil)))))) (vss_nil))
    (vss_one (vs_ret (ve_if (tcmp true (od_in hu2) (eix true (ev 0) (ve_int)) (ve_tup (va_cons (ve_str) (va_cons (ve_str) (va_nil))))) (ve_lst (va_cons (eix true (ev 0) (ve_int)) (va_nil))) (ve_lst (va_nil)))))))⟩
theorem ok_7 (M : MF P w K mg base C_HandError C_BadDeeds C_BadHand C_BadHouse C_BadMachine C_BadNode C_BadRow C_BadWay C_BadPaper C_NoName C_TooGreat C_BadText) : BodyG P w K mg base DL d_7 := by
  intro k Φ h3 C f cdv A outer s H E hgd hr
  have hr2 := hr.mono (show 2 ≤ k by omega)
  have nd := sc_7.nd
  have hu := hu_of hr
  have hu2 := lt150 hr
  have hp : ∀ W, Takes (cxOf (L2.CX P w) P w K mg base d_7.N d_7.qual (defScope d_7.st) f cdv A outer s H E) W → PassesOwn (model P w) (A.deeper (PyProof.Rows.envOfC d_7.qual (defScope d_7.st) s.heap.objs.size f cdv)) (PyProof.Rows.envOfC d_7.qual (defScope d_7.st) s.heap.objs.size f cdv) (cxOf (L2.CX P w) P w K mg base d_7.N d_7.qual (defScope d_7.st) f cdv A outer s H E).xe := fun W tk => passes_of rfl
  exact ⟨_, vss_cons (sasg (i := 1) nd (ve_lst (va_cons (ve_tup (va_cons (ek 0) (va_cons (ve_int) (va_nil)))) (va_nil))))
    (vss_cons (sasg (i := 2) nd (ve_int))
    (vss_cons (vs_while 100000 hp (tcmp true (od_ne hu2) (ev 1) (ve_lst (va_nil))) (vss_cons (vs_asgt (ve_mth0 md_pop PySem.F.plainAttrs_list PySem.F.slot_list_pop PySem.F.type_list_pop (ep 1)) (vg_tt rfl (vg_tcons (gnm (i := 3) nd) (vg_tcons (gnm (i := 4) nd) (vg_tnil)))))
    (vss_cons (vs_aug (i := 2) oi_add nd rfl (by first | exact Or.inl rfl | exact Or.inr rfl) (ve_int))
    (vss_cons (vs_if (VW.vt (vw_or (tcmp true od_gt (ev 2) (ekint M.c_MOST_SIZE)) (vw_or (tcmp true od_gt (ev 4) (ekint M.c_MOST_DEEP)) (vw_or1 (vt_not (vt_val (ecallG (d := d_5) (C 5 d_5 rfl) hgd hr (gn 3 (vg_nil)) (glen_nar (glen_nil))))))))) (vss_one (vs_ret (ve_bl))) (vss_nil))
    (vss_one (vs_expr (ve_mth md_extend PySem.F.plainAttrs_list PySem.F.slot_list_extend PySem.F.type_list_extend (ep 1) (va_cons (elc [("part", 5)] nd (vi_seq (ecallG (d := d_6) (C 6 d_6 rfl) hgd hr (gn 3 (vg_nil)) (glen_nar (glen_nil)))) (fun _ _ _ _ _ => gnm (i := 5) nd) (fun _ _ _ _ _ => vts_nil) (fun _ _ _ _ _ => ve_tup (va_cons (ek 5) (va_cons (ebin true od_add (ev 4) (ve_int)) (va_nil))))) (va_nil)) rfl)))))))
    (vss_one (vs_ret (ve_bl)))))⟩
theorem ok_8 (M : MF P w K mg base C_HandError C_BadDeeds C_BadHand C_BadHouse C_BadMachine C_BadNode C_BadRow C_BadWay C_BadPaper C_NoName C_TooGreat C_BadText) : BodyG P w K mg base DL d_8 := by
  intro k Φ h3 C f cdv A outer s H E hgd hr
  have hr2 := hr.mono (show 2 ≤ k by omega)
  have nd := sc_8.nd
  have hu := hu_of hr
  have hu2 := lt150 hr
  have hp : ∀ W, Takes (cxOf (L2.CX P w) P w K mg base d_8.N d_8.qual (defScope d_8.st) f cdv A outer s H E) W → PassesOwn (model P w) (A.deeper (PyProof.Rows.envOfC d_8.qual (defScope d_8.st) s.heap.objs.size f cdv)) (PyProof.Rows.envOfC d_8.qual (defScope d_8.st) s.heap.objs.size f cdv) (cxOf (L2.CX P w) P w K mg base d_8.N d_8.qual (defScope d_8.st) f cdv A outer s H E).xe := fun W tk => passes_of rfl
  exact ⟨_, vss_one (vs_if (vt_not (vt_val (ecallG (d := d_7) (C 7 d_7 rfl) hgd hr (gn 0 (vg_nil)) (glen_nar (glen_nil))))) (vss_one (vrai M.r_BadHand (ve_str))) (vss_nil))⟩
theorem ok_9 (M : MF P w K mg base C_HandError C_BadDeeds C_BadHand C_BadHouse C_BadMachine C_BadNode C_BadRow C_BadWay C_BadPaper C_NoName C_TooGreat C_BadText) : BodyG P w K mg base DL d_9 := by
  intro k Φ h3 C f cdv A outer s H E hgd hr
  have hr2 := hr.mono (show 2 ≤ k by omega)
  have nd := sc_9.nd
  have hu := hu_of hr
  have hu2 := lt150 hr
  have hp : ∀ W, Takes (cxOf (L2.CX P w) P w K mg base d_9.N d_9.qual (defScope d_9.st) f cdv A outer s H E) W → PassesOwn (model P w) (A.deeper (PyProof.Rows.envOfC d_9.qual (defScope d_9.st) s.heap.objs.size f cdv)) (PyProof.Rows.envOfC d_9.qual (defScope d_9.st) s.heap.objs.size f cdv) (cxOf (L2.CX P w) P w K mg base d_9.N d_9.qual (defScope d_9.st) f cdv A outer s H E).xe := fun W tk => passes_of rfl
  exact ⟨_, vss_cons (vs_if (VW.vt (vw_or (vt_not (vt_val (ve_isi rfl M.b_isinstance (ev 0) (pe_bltn (v := .ty "tuple") rfl M.b_tuple (by decide +kernel) rfl) (.ty _) M.tb_tuple M.te_tuple PyProof.Rows.boot_isinstance))) (vw_or (tcmp true (od_eq hu2) (ev 0) (ve_tup (va_nil))) (vw_or1 (vt_not (vt_val (ve_isi rfl M.b_isinstance (eix true (ev 0) (ve_int)) (pe_bltn (v := .ty "str") rfl M.b_str (by decide +kernel) rfl) (.ty _) M.tb_str M.te_str PyProof.Rows.boot_isinstance))))))) (vss_one (vs_ret (ve_bl))) (vss_nil))
    (vss_cons (vs_if (tcmp true (od_ne hu2) (ekget true M.c_LONG_surroundings (eix true (ev 0) (ve_int)) (ve_int)) (eb1 c1_len M.b_len (by decide +kernel) (ev 0))) (vss_one (vs_ret (ve_bl))) (vss_nil))
    (vss_cons (vs_if (tcmp true (od_eq hu2) (eix true (ev 0) (ve_int)) (ve_str)) (vss_one (vs_ret (ecallG (d := d_0) (C 0 d_0 rfl) hgd hr (ga1 (eix true (ev 0) (ve_int)) (vg_nil)) (glen_arg (glen_nil))))) (vss_nil))
    (vss_cons (vs_if (tcmp true (od_in hu2) (eix true (ev 0) (ve_int)) (ve_tup (va_cons (ve_str) (va_cons (ve_str) (va_nil))))) (vss_one (vs_ret (ecallG (d := d_7) (C 7 d_7 rfl) hgd hr (ga1 (eix true (ev 0) (ve_int)) (vg_nil)) (glen_arg (glen_nil))))) (vss_nil))
    (vss_cons (vs_if (tcmp true (od_eq hu2) (eix true (ev 0) (ve_int)) (ve_str)) (vss_one (vs_ret (ecallG (d := d_4) (C 4 d_4 rfl) hgd hr (ga1 (eix true (ev 0) (ve_int)) (vg_nil)) (glen_arg (glen_nil))))) (vss_nil))
    (vss_one (vs_ret (ve_and (ecallG (d := d_3) (C 3 d_3 rfl) hgd hr (ga1 (eix true (ev 0) (ve_int)) (vg_nil)) (glen_arg (glen_nil))) (ve_one (ve_or (ecmp true (od_eq hu2) (eix true (ev 0) (ve_int)) (ve_str)) (ve_one (ecallG (d := d_7) (C 7 d_7 rfl) hgd hr (ga1 (eix true (ev 0) (ve_int)) (vg_nil)) (glen_arg (glen_nil)))))))))))))⟩
theorem ok_10 (M : MF P w K mg base C_HandError C_BadDeeds C_BadHand C_BadHouse C_BadMachine C_BadNode C_BadRow C_BadWay C_BadPaper C_NoName C_TooGreat C_BadText) : BodyG P w K mg base DL d_10 := by
  intro k Φ h3 C f cdv A outer s H E hgd hr
  have hr2 := hr.mono (show 2 ≤ k by omega)
  have nd := sc_10.nd
  have hu := hu_of hr
  have hu2 := lt150 hr
  have hp : ∀ W, Takes (cxOf (L2.CX P w) P w K mg base d_10.N d_10.qual (defScope d_10.st) f cdv A outer s H E) W → PassesOwn (model P w) (A.deeper (PyProof.Rows.envOfC d_10.qual (defScope d_10.st) s.heap.objs.size f cdv)) (PyProof.Rows.envOfC d_10.qual (defScope d_10.st) s.heap.objs.size f cdv) (cxOf (L2.CX P w) P w K mg base d_10.N d_10.qual (defScope d_10.st) f cdv A outer s H E).xe := fun W tk => passes_of rfl
  exact ⟨_, vss_one (vs_if (VW.vt (vw_or (vt_not (vt_val (ve_isi rfl M.b_isinstance (ev 0) (pe_bltn (v := .ty "tuple") rfl M.b_tuple (by decide +kernel) rfl) (.ty _) M.tb_tuple M.te_tuple PyProof.Rows.boot_isinstance))) (vw_or (tcmp true od_gt (eb1 c1_len M.b_len (by decide +kernel) (ev 0)) (ekint M.c_MOST_STEPS)) (vw_or1 (vt_not (vt_val (eb1 (c1_all rfl) M.b_all (by decide +kernel) (elc [("step", 1)] nd (vi_seq (ev 0)) (fun _ _ _ _ _ => gnm (i := 1) nd) (fun _ _ _ _ _ => vts_nil) (fun _ _ _ _ _ => ecallG (d := d_9) (C 9 d_9 rfl) hgd hr (gn 1 (vg_nil)) (glen_nar (glen_nil))))))))))) (vss_one (vrai M.r_BadHand (ve_str))) (vss_nil))⟩
theorem ok_11 (M : MF P w K mg base C_HandError C_BadDeeds C_BadHand C_BadHouse C_BadMachine C_BadNode C_BadRow C_BadWay C_BadPaper C_NoName C_TooGreat C_BadText) : BodyG P w K mg base DL d_11 := by
  intro k Φ h3 C f cdv A outer s H E hgd hr
  have hr2 := hr.mono (show 2 ≤ k by omega)
  have nd := sc_11.nd
  have hu := hu_of hr
  have hu2 := lt150 hr
  have hp : ∀ W, Takes (cxOf (L2.CX P w) P w K mg base d_11.N d_11.qual (defScope d_11.st) f cdv A outer s H E) W → PassesOwn (model P w) (A.deeper (PyProof.Rows.envOfC d_11.qual (defScope d_11.st) s.heap.objs.size f cdv)) (PyProof.Rows.envOfC d_11.qual (defScope d_11.st) s.heap.objs.size f cdv) (cxOf (L2.CX P w) P w K mg base d_11.N d_11.qual (defScope d_11.st) f cdv A outer s H E).xe := fun W tk => passes_of rfl
  exact ⟨_, vss_cons (vs_if (tcmp true (od_eq hu2) (eix true (ev 1) (ve_int)) (ve_str)) (vss_one (vs_ret (ve_tup (va_cons (ve_str) (va_cons (eix true (ev 1) (ve_int)) (va_cons (ek 0) (va_nil))))))) (vss_nil))
    (vss_one (vs_ret (ebin true od_add (ve_tup (va_cons (eix true (ev 1) (ve_int)) (va_cons (ek 0) (va_nil)))) (ve_slice true (ev 1) (vo_some (ve_int)) (vo_none) (by first | (intro h; exact Bool.noConfusion h) | (intro _ i h; cases h; rfl) | (intro _ i h; cases h))))))⟩
theorem ok_12 (M : MF P w K mg base C_HandError C_BadDeeds C_BadHand C_BadHouse C_BadMachine C_BadNode C_BadRow C_BadWay C_BadPaper C_NoName C_TooGreat C_BadText) : BodyG P w K mg base DL d_12 := by
  intro k Φ h3 C f cdv A outer s H E hgd hr
  have hr2 := hr.mono (show 2 ≤ k by omega)
  have nd := sc_12.nd
  have hu := hu_of hr
  have hu2 := lt150 hr
  have hp : ∀ W, Takes (cxOf (L2.CX P w) P w K mg base d_12.N d_12.qual (defScope d_12.st) f cdv A outer s H E) W → PassesOwn (model P w) (A.deeper (PyProof.Rows.envOfC d_12.qual (defScope d_12.st) s.heap.objs.size f cdv)) (PyProof.Rows.envOfC d_12.qual (defScope d_12.st) s.heap.objs.size f cdv) (cxOf (L2.CX P w) P w K mg base d_12.N d_12.qual (defScope d_12.st) f cdv A outer s H E).xe := fun W tk => passes_of rfl
  exact ⟨_, vss_cons (vs_expr (ecallG (d := d_8) (C 8 d_8 rfl) hgd hr (gn 0 (vg_nil)) (glen_nar (glen_nil))))
    (vss_cons (vs_expr (ecallG (d := d_10) (C 10 d_10 rfl) hgd hr (gn 1 (vg_nil)) (glen_nar (glen_nil))))
    (vss_cons (sfor (vi_seq (ev 1)) (gnm (i := 2) nd) (vss_one (sasg (i := 0) nd (ecallG (d := d_11) (C 11 d_11 rfl) hgd hr (gn 0 (gn 2 (vg_nil))) (glen_nar (glen_nar (glen_nil)))))) hp)
    (vss_cons (vs_expr (ecallG (d := d_8) (C 8 d_8 rfl) hgd hr (gn 0 (vg_nil)) (glen_nar (glen_nil))))
    (vss_one (vs_ret (em 0))))))⟩
theorem ok_13 (M : MF P w K mg base C_HandError C_BadDeeds C_BadHand C_BadHouse C_BadMachine C_BadNode C_BadRow C_BadWay C_BadPaper C_NoName C_TooGreat C_BadText) : BodyG P w K mg base DL d_13 := by
  intro k Φ h3 C f cdv A outer s H E hgd hr
  have hr2 := hr.mono (show 2 ≤ k by omega)
  have nd := sc_13.nd
  have hu := hu_of hr
  have hu2 := lt150 hr
  have hp : ∀ W, Takes (cxOf (L2.CX P w) P w K mg base d_13.N d_13.qual (defScope d_13.st) f cdv A outer s H E) W → PassesOwn (model P w) (A.deeper (PyProof.Rows.envOfC d_13.qual (defScope d_13.st) s.heap.objs.size f cdv)) (PyProof.Rows.envOfC d_13.qual (defScope d_13.st) s.heap.objs.size f cdv) (cxOf (L2.CX P w) P w K mg base d_13.N d_13.qual (defScope d_13.st) f cdv A outer s H E).xe := fun W tk => passes_of rfl
  exact ⟨_, vss_cons (sasg (i := 2) nd (ebin true od_add (ebin true od_add (ebin true od_mod (ebin true od_mul (ebin true od_mul (ev 0) (ebin true od_add (ve_int) (ebin true od_mul (ve_int) (ev 1)))) (ve_int)) (ve_int)) (ebin true od_mul (ebin true od_mul (ve_int) (ev 1)) (ev 1))) (ebin true od_mul (ve_int) (ev 1))))
    (vss_one (vs_ret (ebin true od_fdiv (ebin true od_mod (ebin true od_mul (ev 2) (ve_int)) (ve_int)) (ve_int))))⟩
theorem ok_14 (M : MF P w K mg base C_HandError C_BadDeeds C_BadHand C_BadHouse C_BadMachine C_BadNode C_BadRow C_BadWay C_BadPaper C_NoName C_TooGreat C_BadText) : BodyG P w K mg base DL d_14 := by
  intro k Φ h3 C f cdv A outer s H E hgd hr
  have hr2 := hr.mono (show 2 ≤ k by omega)
  have nd := sc_14.nd
  have hu := hu_of hr
  have hu2 := lt150 hr
  have hp : ∀ W, Takes (cxOf (L2.CX P w) P w K mg base d_14.N d_14.qual (defScope d_14.st) f cdv A outer s H E) W → PassesOwn (model P w) (A.deeper (PyProof.Rows.envOfC d_14.qual (defScope d_14.st) s.heap.objs.size f cdv)) (PyProof.Rows.envOfC d_14.qual (defScope d_14.st) s.heap.objs.size f cdv) (cxOf (L2.CX P w) P w K mg base d_14.N d_14.qual (defScope d_14.st) f cdv A outer s H E).xe := fun W tk => passes_of rfl
  exact ⟨_, vss_cons (slc (i := 1) [("_law_k", 2)] nd (irange1 M.b_range (ve_int)) (fun _ _ _ _ _ => gnm (i := 2) nd) (fun _ _ _ _ _ => vts_nil) (fun _ _ _ _ _ => ebin true od_add (ve_int) (ev 2)))
    (vss_cons (sfor (ienum M.b_enumerate (ev 0)) (vg_tt rfl (vg_tcons (gnm (i := 2) nd) (vg_tcons (gnm (i := 3) nd) (vg_tnil)))) (vss_one (vs_store (i := 1) hu (ebin true od_mod (ebin true od_add (ebin true od_mul (eix true (ev 1) (ebin true od_mod (ev 2) (ve_int))) (ve_int)) (ev 3)) (ve_int)) (ep 1) (ebin true od_mod (ev 2) (ve_int)) rfl)) hp)
    (vss_cons (sfor (irange2 M.b_range (ve_int) (ve_int)) (gnm (i := 2) nd) (vss_one (vs_store (i := 1) hu (ebin true od_mod (ebin true od_add (eix true (ev 1) (ev 2)) (ebin true od_mul (eix true (ev 1) (ebin true od_sub (ev 2) (ve_int))) (ve_int))) (ve_int)) (ep 1) (ev 2) rfl)) hp)
    (vss_one (vs_ret (em 1)))))⟩
theorem ok_15 (M : MF P w K mg base C_HandError C_BadDeeds C_BadHand C_BadHouse C_BadMachine C_BadNode C_BadRow C_BadWay C_BadPaper C_NoName C_TooGreat C_BadText) : BodyG P w K mg base DL d_15 := by
  intro k Φ h3 C f cdv A outer s H E hgd hr
  have hr2 := hr.mono (show 2 ≤ k by omega)
  have nd := sc_15.nd
  have hu := hu_of hr
  have hu2 := lt150 hr
  have hp : ∀ W, Takes (cxOf (L2.CX P w) P w K mg base d_15.N d_15.qual (defScope d_15.st) f cdv A outer s H E) W → PassesOwn (model P w) (A.deeper (PyProof.Rows.envOfC d_15.qual (defScope d_15.st) s.heap.objs.size f cdv)) (PyProof.Rows.envOfC d_15.qual (defScope d_15.st) s.heap.objs.size f cdv) (cxOf (L2.CX P w) P w K mg base d_15.N d_15.qual (defScope d_15.st) f cdv A outer s H E).xe := fun W tk => passes_of rfl
  exact ⟨_, vss_cons (sasg (i := 2) nd (ve_plain (ve_path (pix hu (ep 0) (ve_str)))))
    (vss_cons (vs_store (i := 0) hu (ebin true od_add (ev 2) (ve_int)) (ep 0) (ve_str) rfl)
    (vss_cons (vs_if (tcmp true (od_ne hu2) (ve_path (pix hu (ep 0) (ve_str))) (ve_lst (va_nil))) (vss_cons (sasg (i := 3) nd (ebin true od_mod (ev 2) (eb1 c1_len M.b_len (by decide +kernel) (ve_path (pix hu (ep 0) (ve_str))))))
    (vss_cons (sasg (i := 4) nd (ve_plain (ve_path (pix hu (pix hu (ep 0) (ve_str)) (ev 3)))))
    (vss_one (vs_if (tcmp true od_gt (ev 4) (ve_int)) (vss_cons (vs_store (i := 0) hu (ebin true od_fdiv (ev 4) (ev 1)) (pix hu (ep 0) (ve_str)) (ev 3) rfl)
    (vss_one (vs_ret (ebin true od_mod (ev 4) (ev 1))))) (vss_nil))))) (vss_nil))
    (vss_one (vs_ret (ebin true od_mod (ecallG (d := d_13) (C 13 d_13 rfl) hgd hr (ga1 (ecallG (d := d_13) (C 13 d_13 rfl) hgd hr (ga1 (ebin true od_add (ve_path (pix hu (pix hu (ep 0) (ve_str)) (ebin true od_mod (ev 2) (ve_int)))) (ebin true od_mul (ve_int) (ebin true od_fdiv (ev 2) (ve_int)))) (gn 2 (vg_nil))) (glen_arg (glen_nar (glen_nil)))) (ga1 (ebin true od_add (ev 2) (ve_int)) (vg_nil))) (glen_arg (glen_arg (glen_nil)))) (ev 1))))))⟩
theorem ok_16 (M : MF P w K mg base C_HandError C_BadDeeds C_BadHand C_BadHouse C_BadMachine C_BadNode C_BadRow C_BadWay C_BadPaper C_NoName C_TooGreat C_BadText) : BodyG P w K mg base DL d_16 := by
  intro k Φ h3 C f cdv A outer s H E hgd hr
  have hr2 := hr.mono (show 2 ≤ k by omega)
  have nd := sc_16.nd
  have hu := hu_of hr
  have hu2 := lt150 hr
  have hp : ∀ W, Takes (cxOf (L2.CX P w) P w K mg base d_16.N d_16.qual (defScope d_16.st) f cdv A outer s H E) W → PassesOwn (model P w) (A.deeper (PyProof.Rows.envOfC d_16.qual (defScope d_16.st) s.heap.objs.size f cdv)) (PyProof.Rows.envOfC d_16.qual (defScope d_16.st) s.heap.objs.size f cdv) (cxOf (L2.CX P w) P w K mg base d_16.N d_16.qual (defScope d_16.st) f cdv A outer s H E).xe := fun W tk => passes_of rfl
  exact ⟨_, vss_cons (sasg (i := 1) nd (ve_disp (vd_cons (ecallG (d := d_14) (C 14 d_14 rfl) hgd hr (gn 0 (vg_nil)) (glen_nar (glen_nil))) (vd_cons (ve_lst (va_nil)) (vd_cons (ve_int) (vd_cons (ve_int) (vd_nil))))) (by decide) rfl rfl (by simp) (by decide) (by decide)))
    (vss_cons (vs_store (i := 1) hu (elc [("_law_cell", 2)] nd (vi_seq (ev 0)) (fun _ _ _ _ _ => gnm (i := 2) nd) (fun _ _ _ _ _ => vts_nil) (fun _ _ _ _ _ => ve_if (tcmp true od_ge (ev 2) (ebin true od_pow (ve_int) (ve_int))) (ek 2) (ve_int))) (ep 1) (ve_str) rfl)
    (vss_one (vs_ret (em 1))))⟩
theorem ok_17 (M : MF P w K mg base C_HandError C_BadDeeds C_BadHand C_BadHouse C_BadMachine C_BadNode C_BadRow C_BadWay C_BadPaper C_NoName C_TooGreat C_BadText) : BodyG P w K mg base DL d_17 := by
  intro k Φ h3 C f cdv A outer s H E hgd hr
  have hr2 := hr.mono (show 2 ≤ k by omega)
  have nd := sc_17.nd
  have hu := hu_of hr
  have hu2 := lt150 hr
  have hp : ∀ W, Takes (cxOf (L2.CX P w) P w K mg base d_17.N d_17.qual (defScope d_17.st) f cdv A outer s H E) W → PassesOwn (model P w) (A.deeper (PyProof.Rows.envOfC d_17.qual (defScope d_17.st) s.heap.objs.size f cdv)) (PyProof.Rows.envOfC d_17.qual (defScope d_17.st) s.heap.objs.size f cdv) (cxOf (L2.CX P w) P w K mg base d_17.N d_17.qual (defScope d_17.st) f cdv A outer s H E).xe := fun W tk => passes_of rfl
  exact ⟨_, vss_cons (sasg (i := 2) nd (ve_str))
    (vss_cons (vs_asgt (ve_tup (va_cons (ecallG (d := d_15) (C 15 d_15 rfl) hgd hr (gn 0 (ga1 (ve_int) (vg_nil))) (glen_nar (glen_arg (glen_nil)))) (va_cons (ecallG (d := d_15) (C 15 d_15 rfl) hgd hr (gn 0 (ga1 (ve_int) (vg_nil))) (glen_nar (glen_arg (glen_nil)))) (va_nil)))) (vg_tt rfl (vg_tcons (gnm (i := 10) nd) (vg_tcons (gnm (i := 11) nd) (vg_tnil)))))
    (vss_cons (sasg (i := 3) nd (ebin true od_add (ve_int) (ecallG (d := d_15) (C 15 d_15 rfl) hgd hr (gn 0 (ga1 (ve_int) (vg_nil))) (glen_nar (glen_arg (glen_nil))))))
    (vss_cons (sasg (i := 4) nd (ecallG (d := d_15) (C 15 d_15 rfl) hgd hr (gn 0 (gn 3 (vg_nil))) (glen_nar (glen_nar (glen_nil)))))
    (vss_cons (sasg (i := 5) nd (eix true (ve_lst (va_cons (ve_int) (va_cons (ve_int) (va_cons (ve_int) (va_cons (ve_int) (va_cons (ve_int) (va_cons (ve_int) (va_nil)))))))) (ecallG (d := d_15) (C 15 d_15 rfl) hgd hr (gn 0 (ga1 (ve_int) (vg_nil))) (glen_nar (glen_arg (glen_nil))))))
    (vss_cons (sasg (i := 6) nd (ve_join (ve_str) (elc [("_law_j", 14)] nd (irange1 M.b_range (ve_int)) (fun _ _ _ _ _ => gnm (i := 14) nd) (fun _ _ _ _ _ => vts_nil) (fun _ _ _ _ _ => eix true (ev 2) (ebin true od_mod (ebin true od_add (ev 10) (ebin true od_mul (ve_int) (ev 14))) (ve_int))))))
    (vss_cons (sasg (i := 7) nd (ve_lst (va_nil)))
    (vss_cons (sfor (irange1 M.b_range (ev 1)) (gnm (i := 8) nd) (vss_cons (sasg (i := 12) nd (eix true (ev 2) (ebin true od_mod (ebin true od_add (ev 10) (ebin true od_mul (ev 5) (ev 8))) (ve_int))))
    (vss_one (vs_if (tcmp true (od_eq hu2) (ev 11) (ve_int)) (vss_one (vs_expr (ve_mth md_append PySem.F.plainAttrs_list PySem.F.slot_list_append PySem.F.type_list_append (ep 7) (va_cons (ebin true od_add (ev 12) (ve_slice true (ev 6) (vo_none) (vo_some (ebin true od_mod (ebin true od_mul (ev 8) (ev 5)) (ve_int))) (by first | (intro h; exact Bool.noConfusion h) | (intro _ i h; cases h; rfl) | (intro _ i h; cases h)))) (va_nil)) rfl))) (vss_one (vs_expr (ve_mth md_append PySem.F.plainAttrs_list PySem.F.slot_list_append PySem.F.type_list_append (ep 7) (va_cons (ebin true od_add (ebin true od_add (ve_slice true (ev 6) (vo_none) (vo_some (ev 4)) (by first | (intro h; exact Bool.noConfusion h) | (intro _ i h; cases h; rfl) | (intro _ i h; cases h))) (ev 12)) (ve_slice true (ev 6) (vo_some (ebin true od_add (ev 4) (ve_int))) (vo_some (ev 3)) (by first | (intro h; exact Bool.noConfusion h) | (intro _ i h; cases h; rfl) | (intro _ i h; cases h)))) (va_nil)) rfl)))))) hp)
    (vss_cons (sasg (i := 9) nd (ve_lst (va_cons (ve_str) (va_cons (ve_str) (va_cons (ve_str) (va_cons (ve_str) (va_cons (ve_str) (va_cons (ve_str) (va_cons (ve_str) (va_nil))))))))))
    (vss_one (vs_ret (elc [("_law_word", 13)] nd (vi_seq (ev 7)) (fun _ _ _ _ _ => gnm (i := 13) nd) (fun _ _ _ _ _ => vts_nil) (fun _ _ _ _ _ => ve_if (tcmp true (od_nin hu2) (ev 13) (ev 9)) (ek 13) (ebin true od_add (ebin true od_add (ve_str) (ve_slice true (ev 13) (vo_none) (vo_some (ve_int)) (by first | (intro h; exact Bool.noConfusion h) | (intro _ i h; cases h; rfl) | (intro _ i h; cases h)))) (ve_str))))))))))))))⟩
theorem ok_18 (M : MF P w K mg base C_HandError C_BadDeeds C_BadHand C_BadHouse C_BadMachine C_BadNode C_BadRow C_BadWay C_BadPaper C_NoName C_TooGreat C_BadText) : BodyG P w K mg base DL d_18 := by
  intro k Φ h3 C f cdv A outer s H E hgd hr
  have hr2 := hr.mono (show 2 ≤ k by omega)
  have nd := sc_18.nd
  have hu := hu_of hr
  have hu2 := lt150 hr
  have hp : ∀ W, Takes (cxOf (L2.CX P w) P w K mg base d_18.N d_18.qual (defScope d_18.st) f cdv A outer s H E) W → PassesOwn (model P w) (A.deeper (PyProof.Rows.envOfC d_18.qual (defScope d_18.st) s.heap.objs.size f cdv)) (PyProof.Rows.envOfC d_18.qual (defScope d_18.st) s.heap.objs.size f cdv) (cxOf (L2.CX P w) P w K mg base d_18.N d_18.qual (defScope d_18.st) f cdv A outer s H E).xe := fun W tk => passes_of rfl
  exact ⟨_, vss_one (vs_ret (et1 c1_tuple M.b_tuple (by decide +kernel) (eb1 c1_sortS M.b_sorted (by decide +kernel) (elc [("_law_deed", 2)] nd (vi_seq (ev 1)) (fun _ _ _ _ _ => gnm (i := 2) nd) (fun _ _ _ _ _ => vts_one (tcmp true (od_eq hu2) (ecallG (d := d_15) (C 15 d_15 rfl) hgd hr (gn 0 (ga1 (ve_int) (vg_nil))) (glen_nar (glen_arg (glen_nil)))) (ve_int))) (fun _ _ _ _ _ => ek 2)))))⟩
theorem ok_19 (M : MF P w K mg base C_HandError C_BadDeeds C_BadHand C_BadHouse C_BadMachine C_BadNode C_BadRow C_BadWay C_BadPaper C_NoName C_TooGreat C_BadText) : BodyG P w K mg base DL d_19 := by
  intro k Φ h3 C f cdv A outer s H E hgd hr
  have hr2 := hr.mono (show 2 ≤ k by omega)
  have nd := sc_19.nd
  have hu := hu_of hr
  have hu2 := lt150 hr
  have hp : ∀ W, Takes (cxOf (L2.CX P w) P w K mg base d_19.N d_19.qual (defScope d_19.st) f cdv A outer s H E) W → PassesOwn (model P w) (A.deeper (PyProof.Rows.envOfC d_19.qual (defScope d_19.st) s.heap.objs.size f cdv)) (PyProof.Rows.envOfC d_19.qual (defScope d_19.st) s.heap.objs.size f cdv) (cxOf (L2.CX P w) P w K mg base d_19.N d_19.qual (defScope d_19.st) f cdv A outer s H E).xe := fun W tk => passes_of rfl
  exact ⟨_, vss_cons (sasg (i := 2) nd (eb1 c1_sortS M.b_sorted (by decide +kernel) (elc [("_law_deed", 3)] nd (vi_seq (ev 1)) (fun _ _ _ _ _ => gnm (i := 3) nd) (fun _ _ _ _ _ => vts_one (tcmp true (od_eq hu2) (ecallG (d := d_15) (C 15 d_15 rfl) hgd hr (gn 0 (ga1 (ve_int) (vg_nil))) (glen_nar (glen_arg (glen_nil)))) (ve_int))) (fun _ _ _ _ _ => ek 3))))
    (vss_one (vs_ret (et1 c1_tuple M.b_tuple (by decide +kernel) (elc [("_law_deed", 3)] nd (vi_seq (ev 2)) (fun _ _ _ _ _ => gnm (i := 3) nd) (fun _ _ _ _ _ => vts_nil) (fun _ _ _ _ _ => ve_tup (va_cons (ek 3) (va_cons (eix true (ev 1) (ecallG (d := d_15) (C 15 d_15 rfl) hgd hr (gn 0 (ga1 (eb1 c1_len M.b_len (by decide +kernel) (ev 1)) (vg_nil))) (glen_nar (glen_arg (glen_nil))))) (va_nil))))))))⟩
theorem ok_20 (M : MF P w K mg base C_HandError C_BadDeeds C_BadHand C_BadHouse C_BadMachine C_BadNode C_BadRow C_BadWay C_BadPaper C_NoName C_TooGreat C_BadText) : BodyG P w K mg base DL d_20 := by
  intro k Φ h3 C f cdv A outer s H E hgd hr
  have hr2 := hr.mono (show 2 ≤ k by omega)
  have nd := sc_20.nd
  have hu := hu_of hr
  have hu2 := lt150 hr
  have hp : ∀ W, Takes (cxOf (L2.CX P w) P w K mg base d_20.N d_20.qual (defScope d_20.st) f cdv A outer s H E) W → PassesOwn (model P w) (A.deeper (PyProof.Rows.envOfC d_20.qual (defScope d_20.st) s.heap.objs.size f cdv)) (PyProof.Rows.envOfC d_20.qual (defScope d_20.st) s.heap.objs.size f cdv) (cxOf (L2.CX P w) P w K mg base d_20.N d_20.qual (defScope d_20.st) f cdv A outer s H E).xe := fun W tk => passes_of rfl
  exact ⟨_, vss_cons (vs_store (i := 0) hu (ebin true od_sub (ve_path (pix hu (ep 0) (ve_str))) (ve_int)) (ep 0) (ve_str) rfl)
    (vss_cons (sasg (i := 4) nd (ve_if (VW.vt (vw_and (tcmp true od_gt (ev 3) (ve_int)) (vw_and1 (tcmp true od_gt (ve_path (pix hu (ep 0) (ve_str))) (ve_int))))) (ecallG (d := d_15) (C 15 d_15 rfl) hgd hr (gn 0 (ga1 (ve_int) (vg_nil))) (glen_nar (glen_arg (glen_nil)))) (ebin true od_add (ve_int) (ecallG (d := d_15) (C 15 d_15 rfl) hgd hr (gn 0 (ga1 (ve_int) (vg_nil))) (glen_nar (glen_arg (glen_nil)))))))
    (vss_cons (vs_if (VW.vt (vw_and (tcmp true od_lt (ev 4) (ve_int)) (vw_and1 (tcmp true (od_ne hu2) (ev 1) (ve_lst (va_nil)))))) (vss_one (vs_ret (ve_tup (va_cons (ve_str) (va_cons (eix true (ev 1) (ecallG (d := d_15) (C 15 d_15 rfl) hgd hr (gn 0 (ga1 (eb1 c1_len M.b_len (by decide +kernel) (ev 1)) (vg_nil))) (glen_nar (glen_arg (glen_nil))))) (va_cons (ecallG (d := d_20) (C 20 d_20 rfl) hgd hr (gn 0 (gn 1 (gn 2 (ga1 (ebin true od_sub (ev 3) (ve_int)) (vg_nil))))) (glen_nar (glen_nar (glen_nar (glen_arg (glen_nil)))))) (va_nil))))))) (vss_nil))
    (vss_cons (vs_if (tcmp true od_lt (ev 4) (ve_int)) (vss_one (vs_ret (ve_tup (va_cons (ve_str) (va_cons (ecallG (d := d_20) (C 20 d_20 rfl) hgd hr (gn 0 (gn 1 (gn 2 (ga1 (ebin true od_sub (ev 3) (ve_int)) (vg_nil))))) (glen_nar (glen_nar (glen_nar (glen_arg (glen_nil)))))) (va_cons (ecallG (d := d_20) (C 20 d_20 rfl) hgd hr (gn 0 (gn 1 (gn 2 (ga1 (ebin true od_sub (ev 3) (ve_int)) (vg_nil))))) (glen_nar (glen_nar (glen_nar (glen_arg (glen_nil)))))) (va_nil))))))) (vss_nil))
    (vss_cons (vs_if (tcmp true od_lt (ev 4) (ve_int)) (vss_cons (sasg (i := 5) nd (ve_if (tcmp true (od_eq hu2) (ecallG (d := d_15) (C 15 d_15 rfl) hgd hr (gn 0 (ga1 (ve_int) (vg_nil))) (glen_nar (glen_arg (glen_nil)))) (ve_int)) (ek 2) (ve_lst (va_nil))))
    (vss_cons (sasg (i := 6) nd (ecallG (d := d_20) (C 20 d_20 rfl) hgd hr (gn 0 (gn 1 (gn 5 (ga1 (ebin true od_sub (ev 3) (ve_int)) (vg_nil))))) (glen_nar (glen_nar (glen_nar (glen_arg (glen_nil)))))))
    (vss_cons (vs_if (tcmp true (od_eq hu2) (ev 4) (ve_int)) (vss_one (vs_ret (ve_tup (va_cons (ve_str) (va_cons (ek 6) (va_cons (ecallG (d := d_20) (C 20 d_20 rfl) hgd hr (gn 0 (gn 1 (gn 5 (ga1 (ebin true od_sub (ev 3) (ve_int)) (vg_nil))))) (glen_nar (glen_nar (glen_nar (glen_arg (glen_nil)))))) (va_nil))))))) (vss_nil))
    (vss_cons (vs_if (tcmp true (od_eq hu2) (ev 4) (ve_int)) (vss_one (vs_ret (ve_tup (va_cons (ve_str) (va_cons (ek 6) (va_cons (ecallG (d := d_18) (C 18 d_18 rfl) hgd hr (gn 0 (gn 1 (vg_nil))) (glen_nar (glen_nar (glen_nil)))) (va_cons (ecallG (d := d_20) (C 20 d_20 rfl) hgd hr (gn 0 (gn 1 (gn 5 (ga1 (ebin true od_sub (ev 3) (ve_int)) (vg_nil))))) (glen_nar (glen_nar (glen_nar (glen_arg (glen_nil)))))) (va_nil)))))))) (vss_nil))
    (vss_one (vs_ret (ve_if (tcmp true (od_eq hu2) (ev 4) (ve_int)) (ve_tup (va_cons (ve_str) (va_cons (ek 6) (va_cons (ecallG (d := d_18) (C 18 d_18 rfl) hgd hr (gn 0 (gn 1 (vg_nil))) (glen_nar (glen_nar (glen_nil)))) (va_nil))))) (ve_tup (va_cons (ve_str) (va_cons (ek 6) (va_cons (ecallG (d := d_19) (C 19 d_19 rfl) hgd hr (gn 0 (gn 1 (vg_nil))) (glen_nar (glen_nar (glen_nil)))) (va_nil)))))))))))) (vss_nil))
    (vss_cons (vs_if (VW.vt (vw_and (tcmp true (od_ne hu2) (ev 2) (ve_lst (va_nil))) (vw_and1 (tcmp true (od_eq hu2) (ev 4) (ve_int))))) (vss_one (vs_ret (ve_tup (va_cons (ve_str) (va_cons (eix true (ev 2) (ecallG (d := d_15) (C 15 d_15 rfl) hgd hr (gn 0 (ga1 (eb1 c1_len M.b_len (by decide +kernel) (ev 2)) (vg_nil))) (glen_nar (glen_arg (glen_nil))))) (va_nil)))))) (vss_nil))
    (vss_one (vs_ret (ve_if (tcmp true (od_eq hu2) (ecallG (d := d_15) (C 15 d_15 rfl) hgd hr (gn 0 (ga1 (ve_int) (vg_nil))) (glen_nar (glen_arg (glen_nil)))) (ve_int)) (ve_tup (va_cons (ve_str) (va_nil))) (ve_tup (va_cons (ve_str) (va_nil)))))))))))⟩
theorem ok_21 (M : MF P w K mg base C_HandError C_BadDeeds C_BadHand C_BadHouse C_BadMachine C_BadNode C_BadRow C_BadWay C_BadPaper C_NoName C_TooGreat C_BadText) : BodyG P w K mg base DL d_21 := by
  intro k Φ h3 C f cdv A outer s H E hgd hr
  have hr2 := hr.mono (show 2 ≤ k by omega)
  have nd := sc_21.nd
  have hu := hu_of hr
  have hu2 := lt150 hr
  have hp : ∀ W, Takes (cxOf (L2.CX P w) P w K mg base d_21.N d_21.qual (defScope d_21.st) f cdv A outer s H E) W → PassesOwn (model P w) (A.deeper (PyProof.Rows.envOfC d_21.qual (defScope d_21.st) s.heap.objs.size f cdv)) (PyProof.Rows.envOfC d_21.qual (defScope d_21.st) s.heap.objs.size f cdv) (cxOf (L2.CX P w) P w K mg base d_21.N d_21.qual (defScope d_21.st) f cdv A outer s H E).xe := fun W tk => passes_of rfl
  exact ⟨_, vss_cons (sasg (i := 3) nd (ecallG (d := d_15) (C 15 d_15 rfl) hgd hr (gn 0 (ga1 (ve_int) (vg_nil))) (glen_nar (glen_arg (glen_nil)))))
    (vss_cons (vs_if (VW.vt (vw_and (tcmp true (od_eq hu2) (ev 3) (ve_int)) (vw_and1 (tcmp true (od_ne hu2) (ev 1) (ve_lst (va_nil)))))) (vss_one (vs_ret (ve_tup (va_cons (ve_str) (va_cons (eix true (ev 1) (ecallG (d := d_15) (C 15 d_15 rfl) hgd hr (gn 0 (ga1 (eb1 c1_len M.b_len (by decide +kernel) (ev 1)) (vg_nil))) (glen_nar (glen_arg (glen_nil))))) (va_nil)))))) (vss_nil))
    (vss_cons (vs_if (tcmp true (od_eq hu2) (ev 3) (ve_int)) (vss_one (vs_ret (ve_tup (va_cons (ve_str) (va_cons (ecallG (d := d_18) (C 18 d_18 rfl) hgd hr (gn 0 (gn 1 (vg_nil))) (glen_nar (glen_nar (glen_nil)))) (va_nil)))))) (vss_nil))
    (vss_cons (vs_if (tcmp true (od_eq hu2) (ev 3) (ve_int)) (vss_one (vs_ret (ve_tup (va_cons (ve_str) (va_cons (ecallG (d := d_19) (C 19 d_19 rfl) hgd hr (gn 0 (gn 1 (vg_nil))) (glen_nar (glen_nar (glen_nil)))) (va_nil)))))) (vss_nil))
    (vss_cons (vs_store (i := 0) hu (ve_int) (ep 0) (ve_str) rfl)
    (vss_cons (sasg (i := 4) nd (ecallG (d := d_20) (C 20 d_20 rfl) hgd hr (gn 0 (gn 1 (gn 2 (ga1 (ve_int) (vg_nil))))) (glen_nar (glen_nar (glen_nar (glen_arg (glen_nil)))))))
    (vss_cons (vs_if (tcmp true (od_eq hu2) (ev 3) (ve_int)) (vss_one (vs_ret (ve_tup (va_cons (ve_str) (va_cons (ecallG (d := d_18) (C 18 d_18 rfl) hgd hr (gn 0 (gn 1 (vg_nil))) (glen_nar (glen_nar (glen_nil)))) (va_cons (ek 4) (va_nil))))))) (vss_nil))
    (vss_one (vs_ret (ve_tup (va_cons (eix true (ve_lst (va_cons (ve_str) (va_cons (ve_str) (va_nil)))) (ebin true od_mod (ev 3) (ve_int))) (va_cons (ek 4) (va_nil))))))))))))⟩
theorem ok_22 (M : MF P w K mg base C_HandError C_BadDeeds C_BadHand C_BadHouse C_BadMachine C_BadNode C_BadRow C_BadWay C_BadPaper C_NoName C_TooGreat C_BadText) : BodyG P w K mg base DL d_22 := by
  intro k Φ h3 C f cdv A outer s H E hgd hr
  have hr2 := hr.mono (show 2 ≤ k by omega)
  have nd := sc_22.nd
  have hu := hu_of hr
  have hu2 := lt150 hr
  have hp : ∀ W, Takes (cxOf (L2.CX P w) P w K mg base d_22.N d_22.qual (defScope d_22.st) f cdv A outer s H E) W → PassesOwn (model P w) (A.deeper (PyProof.Rows.envOfC d_22.qual (defScope d_22.st) s.heap.objs.size f cdv)) (PyProof.Rows.envOfC d_22.qual (defScope d_22.st) s.heap.objs.size f cdv) (cxOf (L2.CX P w) P w K mg base d_22.N d_22.qual (defScope d_22.st) f cdv A outer s H E).xe := fun W tk => passes_of rfl
  exact ⟨_, vss_cons (sfor (vi_seq (ev 1)) (gnm (i := 2) nd) (vss_one (vs_if (tcmp true (od_eq hu2) (eix true (ev 2) (ve_int)) (ve_str)) (vss_one (sasg (i := 0) nd (ve_tup (va_cons (ve_str) (va_cons (eix true (ev 2) (ve_int)) (va_cons (ek 0) (va_nil))))))) (vss_one (vs_if (tcmp true (od_eq hu2) (eix true (ev 2) (ve_int)) (ve_str)) (vss_one (sasg (i := 0) nd (ve_tup (va_cons (ve_str) (va_cons (ek 0) (va_cons (eix true (ev 2) (ve_int)) (va_cons (eix true (ev 2) (ve_int)) (va_nil)))))))) (vss_one (sasg (i := 0) nd (ve_tup (va_cons (eix true (ev 2) (ve_int)) (va_cons (ek 0) (va_cons (eix true (ev 2) (ve_int)) (va_nil))))))))))) hp)
    (vss_one (vs_ret (em 0)))⟩
theorem ok_23 (M : MF P w K mg base C_HandError C_BadDeeds C_BadHand C_BadHouse C_BadMachine C_BadNode C_BadRow C_BadWay C_BadPaper C_NoName C_TooGreat C_BadText) : BodyG P w K mg base DL d_23 := by
  intro k Φ h3 C f cdv A outer s H E hgd hr
  have hr2 := hr.mono (show 2 ≤ k by omega)
  have nd := sc_23.nd
  have hu := hu_of hr
  have hu2 := lt150 hr
  have hp : ∀ W, Takes (cxOf (L2.CX P w) P w K mg base d_23.N d_23.qual (defScope d_23.st) f cdv A outer s H E) W → PassesOwn (model P w) (A.deeper (PyProof.Rows.envOfC d_23.qual (defScope d_23.st) s.heap.objs.size f cdv)) (PyProof.Rows.envOfC d_23.qual (defScope d_23.st) s.heap.objs.size f cdv) (cxOf (L2.CX P w) P w K mg base d_23.N d_23.qual (defScope d_23.st) f cdv A outer s H E).xe := fun W tk => passes_of rfl
  exact ⟨_, vss_cons (vs_if (vt_val (ve_isiT rfl M.b_isinstance (ev 0) (vcs_cons (pe_glob (v := .ref C_BadDeeds) rfl M.g_BadDeeds rfl) (.own _) (vcs_cons (pe_glob (v := .ref C_BadHouse) rfl M.g_BadHouse rfl) (.own _) (vcs_cons (pe_glob (v := .ref C_BadMachine) rfl M.g_BadMachine rfl) (.own _) (vcs_cons (pe_glob (v := .ref C_BadNode) rfl M.g_BadNode rfl) (.own _) (vcs_cons (pe_glob (v := .ref C_BadPaper) rfl M.g_BadPaper rfl) (.own _) (vcs_nil)))))) (by simp) M.tb_BadDeeds_BadHouse_BadMachine_BadNode_BadPaper M.te_BadDeeds_BadHouse_BadMachine_BadNode_BadPaper PyProof.Rows.boot_isinstance)) (vss_one (vs_ret (ve_bl))) (vss_nil))
    (vss_one (vs_ret (ve_isiT rfl M.b_isinstance (ev 0) (vcs_cons (pe_glob (v := .ref C_BadRow) rfl M.g_BadRow rfl) (.own _) (vcs_cons (pe_glob (v := .ref C_BadText) rfl M.g_BadText rfl) (.own _) (vcs_cons (pe_glob (v := .ref C_BadWay) rfl M.g_BadWay rfl) (.own _) (vcs_cons (pe_glob (v := .ref C_NoName) rfl M.g_NoName rfl) (.own _) (vcs_cons (pe_glob (v := .ref C_TooGreat) rfl M.g_TooGreat rfl) (.own _) (vcs_nil)))))) (by simp) M.tb_BadRow_BadText_BadWay_NoName_TooGreat M.te_BadRow_BadText_BadWay_NoName_TooGreat PyProof.Rows.boot_isinstance)))⟩
theorem ok_24 (M : MF P w K mg base C_HandError C_BadDeeds C_BadHand C_BadHouse C_BadMachine C_BadNode C_BadRow C_BadWay C_BadPaper C_NoName C_TooGreat C_BadText) : BodyG P w K mg base DL d_24 := by
  intro k Φ h3 C f cdv A outer s H E hgd hr
  have hr2 := hr.mono (show 2 ≤ k by omega)
  have nd := sc_24.nd
  have hu := hu_of hr
  have hu2 := lt150 hr
  have hp : ∀ W, Takes (cxOf (L2.CX P w) P w K mg base d_24.N d_24.qual (defScope d_24.st) f cdv A outer s H E) W → PassesOwn (model P w) (A.deeper (PyProof.Rows.envOfC d_24.qual (defScope d_24.st) s.heap.objs.size f cdv)) (PyProof.Rows.envOfC d_24.qual (defScope d_24.st) s.heap.objs.size f cdv) (cxOf (L2.CX P w) P w K mg base d_24.N d_24.qual (defScope d_24.st) f cdv A outer s H E).xe := fun W tk => passes_of rfl
  exact ⟨_, vss_cons (sasg (i := 2) nd (ve_non))
    (vss_cons (sasg (i := 3) nd (ve_non))
    (vss_cons (vtry (i := 4) M.e_HandError nd (fun pn xe hxe => vss_one (sasg (i := 3) nd (ecallG (d := d_12) (C 12 d_12 rfl) hgd hr (gn 0 (gn 1 (vg_nil))) (glen_nar (glen_nar (glen_nil)))))) (fun a pn => vss_one (sasg (i := 2) nd (ek 4))))
    (vss_cons (vs_if (tcmp true od_isN (ev 2) (ve_non)) (vss_one (vs_ret (em 3))) (vss_nil))
    (vss_cons (sasg (i := 5) nd (ve_and (ve_isi rfl M.b_isinstance (ev 2) (pe_glob (v := .ref C_BadHand) rfl M.g_BadHand rfl) (.own _) M.tb_BadHand M.te_BadHand PyProof.Rows.boot_isinstance) (ve_and (ve_isi rfl M.b_isinstance (ev 2) (pe_bltn (v := .ty "ValueError") rfl M.b_ValueError (by decide +kernel) rfl) (.ty _) M.tb_ValueError M.te_ValueError PyProof.Rows.boot_isinstance) (ve_one (ve_not (ecallG (d := d_23) (C 23 d_23 rfl) hgd hr (gn 2 (vg_nil)) (glen_nar (glen_nil))))))))
    (vss_one (vs_ret (ve_if (vt_val (ev 5)) (ve_str) (ve_str))))))))⟩
theorem ok_25 (M : MF P w K mg base C_HandError C_BadDeeds C_BadHand C_BadHouse C_BadMachine C_BadNode C_BadRow C_BadWay C_BadPaper C_NoName C_TooGreat C_BadText) : BodyG P w K mg base DL d_25 := by
  intro k Φ h3 C f cdv A outer s H E hgd hr
  have hr2 := hr.mono (show 2 ≤ k by omega)
  have nd := sc_25.nd
  have hu := hu_of hr
  have hu2 := lt150 hr
  have hp : ∀ W, Takes (cxOf (L2.CX P w) P w K mg base d_25.N d_25.qual (defScope d_25.st) f cdv A outer s H E) W → PassesOwn (model P w) (A.deeper (PyProof.Rows.envOfC d_25.qual (defScope d_25.st) s.heap.objs.size f cdv)) (PyProof.Rows.envOfC d_25.qual (defScope d_25.st) s.heap.objs.size f cdv) (cxOf (L2.CX P w) P w K mg base d_25.N d_25.qual (defScope d_25.st) f cdv A outer s H E).xe := fun W tk => passes_of rfl
  exact ⟨_, vss_cons (sasg (i := 1) nd (ve_tup (va_cons (ve_str) (va_nil))))
    (vss_cons (sfor (irange1 M.b_range (ev 0)) (gnm (i := 2) nd) (vss_one (sasg (i := 1) nd (ve_tup (va_cons (ve_str) (va_cons (ve_str) (va_cons (ek 1) (va_nil))))))) hp)
    (vss_one (vs_ret (em 1))))⟩
theorem ok_26 (M : MF P w K mg base C_HandError C_BadDeeds C_BadHand C_BadHouse C_BadMachine C_BadNode C_BadRow C_BadWay C_BadPaper C_NoName C_TooGreat C_BadText) : BodyG P w K mg base DL d_26 := by
  intro k Φ h3 C f cdv A outer s H E hgd hr
  have hr2 := hr.mono (show 2 ≤ k by omega)
  have nd := sc_26.nd
  have hu := hu_of hr
  have hu2 := lt150 hr
  have hp : ∀ W, Takes (cxOf (L2.CX P w) P w K mg base d_26.N d_26.qual (defScope d_26.st) f cdv A outer s H E) W → PassesOwn (model P w) (A.deeper (PyProof.Rows.envOfC d_26.qual (defScope d_26.st) s.heap.objs.size f cdv)) (PyProof.Rows.envOfC d_26.qual (defScope d_26.st) s.heap.objs.size f cdv) (cxOf (L2.CX P w) P w K mg base d_26.N d_26.qual (defScope d_26.st) f cdv A outer s H E).xe := fun W tk => passes_of rfl
  exact ⟨_, vss_cons (vs_if (tcmp true od_lt (ev 0) (ve_int)) (vss_one (vs_ret (ve_tup (va_cons (ve_str) (va_nil))))) (vss_nil))
    (vss_one (vs_ret (ve_tup (va_cons (ve_str) (va_cons (ecallG (d := d_26) (C 26 d_26 rfl) hgd hr (ga1 (ebin true od_fdiv (ev 0) (ve_int)) (vg_nil)) (glen_arg (glen_nil))) (va_cons (ecallG (d := d_26) (C 26 d_26 rfl) hgd hr (ga1 (ebin true od_sub (ev 0) (ebin true od_fdiv (ev 0) (ve_int))) (vg_nil)) (glen_arg (glen_nil))) (va_nil)))))))⟩
theorem ok_27 (M : MF P w K mg base C_HandError C_BadDeeds C_BadHand C_BadHouse C_BadMachine C_BadNode C_BadRow C_BadWay C_BadPaper C_NoName C_TooGreat C_BadText) : BodyG P w K mg base DL d_27 := by
  intro k Φ h3 C f cdv A outer s H E hgd hr
  have hr2 := hr.mono (show 2 ≤ k by omega)
  have nd := sc_27.nd
  have hu := hu_of hr
  have hu2 := lt150 hr
  have hp : ∀ W, Takes (cxOf (L2.CX P w) P w K mg base d_27.N d_27.qual (defScope d_27.st) f cdv A outer s H E) W → PassesOwn (model P w) (A.deeper (PyProof.Rows.envOfC d_27.qual (defScope d_27.st) s.heap.objs.size f cdv)) (PyProof.Rows.envOfC d_27.qual (defScope d_27.st) s.heap.objs.size f cdv) (cxOf (L2.CX P w) P w K mg base d_27.N d_27.qual (defScope d_27.st) f cdv A outer s H E).xe := fun W tk => passes_of rfl
  exact ⟨_, vss_cons (sasg (i := 1) nd (ecallG (d := d_15) (C 15 d_15 rfl) hgd hr (gn 0 (ga1 (ve_int) (vg_nil))) (glen_nar (glen_arg (glen_nil)))))
    (vss_cons (sasg (i := 2) nd (ebin true od_mul (ve_tup (va_cons (ve_tup (va_cons (ve_str) (va_cons (ve_str) (va_nil)))) (va_nil))) (ev 1)))
    (vss_cons (vs_if (tcmp true (od_ne hu2) (eb1 (c1_repr hgd hu2) M.b_repr (by decide +kernel) (ecallG (d := d_24) (C 24 d_24 rfl) hgd hr (ga1 (ecallG (d := d_25) (C 25 d_25 rfl) hgd hr (ga1 (ebin true od_sub (ve_int) (ev 1)) (vg_nil)) (glen_arg (glen_nil))) (gn 2 (vg_nil))) (glen_arg (glen_nar (glen_nil))))) (eb1 (c1_repr hgd hu2) M.b_repr (by decide +kernel) (ecallG (d := d_22) (C 22 d_22 rfl) hgd hr (ga1 (ecallG (d := d_25) (C 25 d_25 rfl) hgd hr (ga1 (ebin true od_sub (ve_int) (ev 1)) (vg_nil)) (glen_arg (glen_nil))) (gn 2 (vg_nil))) (glen_arg (glen_nar (glen_nil)))))) (vss_one (vs_ret (ve_bl))) (vss_nil))
    (vss_cons (vs_if (tcmp true (od_ne hu2) (ecallG (d := d_24) (C 24 d_24 rfl) hgd hr (ga1 (ecallG (d := d_25) (C 25 d_25 rfl) hgd hr (ga1 (ebin true od_sub (ve_int) (ev 1)) (vg_nil)) (glen_arg (glen_nil))) (gn 2 (vg_nil))) (glen_arg (glen_nar (glen_nil)))) (ve_str)) (vss_one (vs_ret (ve_bl))) (vss_nil))
    (vss_cons (sasg (i := 3) nd (ecallG (d := d_26) (C 26 d_26 rfl) hgd hr (ga1 (ve_int) (vg_nil)) (glen_arg (glen_nil))))
    (vss_cons (sasg (i := 4) nd (eix true (ve_lst (va_cons (ve_tup (va_cons (ve_tup (va_cons (ve_str) (va_cons (ve_tup (va_nil)) (va_nil)))) (va_nil))) (va_cons (ve_tup (va_cons (ve_tup (va_cons (ve_str) (va_cons (ve_tup (va_nil)) (va_nil)))) (va_nil))) (va_cons (ve_tup (va_cons (ve_tup (va_cons (ve_str) (va_cons (ve_str) (va_nil)))) (va_nil))) (va_cons (ve_tup (va_cons (ve_tup (va_cons (ve_str) (va_cons (ve_tup (va_cons (ve_str) (va_cons (ve_str) (va_nil)))) (va_nil)))) (va_nil))) (va_nil)))))) (ecallG (d := d_15) (C 15 d_15 rfl) hgd hr (gn 0 (ga1 (ve_int) (vg_nil))) (glen_nar (glen_arg (glen_nil))))))
    (vss_cons (vs_if (VW.vt (vw_or (tcmp true (od_ne hu2) (eb1 (c1_repr hgd hu2) M.b_repr (by decide +kernel) (ecallG (d := d_24) (C 24 d_24 rfl) hgd hr (gn 3 (gn 4 (vg_nil))) (glen_nar (glen_nar (glen_nil))))) (eb1 (c1_repr hgd hu2) M.b_repr (by decide +kernel) (ecallG (d := d_22) (C 22 d_22 rfl) hgd hr (gn 3 (gn 4 (vg_nil))) (glen_nar (glen_nar (glen_nil)))))) (vw_or1 (tcmp true (od_ne hu2) (ecallG (d := d_24) (C 24 d_24 rfl) hgd hr (gn 3 (ga1 (ebin true od_add (ev 4) (ev 4)) (vg_nil))) (glen_nar (glen_arg (glen_nil)))) (ve_str))))) (vss_one (vs_ret (ve_bl))) (vss_nil))
    (vss_cons (sasg (i := 5) nd (ve_tup (va_cons (eix true (ve_lst (va_cons (ve_str) (va_cons (ve_str) (va_nil)))) (ecallG (d := d_15) (C 15 d_15 rfl) hgd hr (gn 0 (ga1 (ve_int) (vg_nil))) (glen_nar (glen_arg (glen_nil))))) (va_cons (ve_tup (va_cons (ve_str) (va_nil))) (va_nil)))))
    (vss_cons (sasg (i := 6) nd (ve_tup (va_cons (ve_str) (va_cons (ve_tup (va_cons (ve_str) (va_nil))) (va_cons (ve_tup (va_cons (ve_str) (va_nil))) (va_nil))))))
    (vss_one (vs_ret (ve_and (ecmp true (od_eq hu2) (ecallG (d := d_24) (C 24 d_24 rfl) hgd hr (gn 3 (ga1 (ve_tup (va_cons (ek 5) (va_nil))) (vg_nil))) (glen_nar (glen_arg (glen_nil)))) (ve_str)) (ve_one (ecmp true (od_eq hu2) (ecallG (d := d_24) (C 24 d_24 rfl) hgd hr (gn 3 (ga1 (ve_tup (va_cons (ek 6) (va_nil))) (vg_nil))) (glen_nar (glen_arg (glen_nil)))) (ve_str))))))))))))))⟩
theorem ok_28 (M : MF P w K mg base C_HandError C_BadDeeds C_BadHand C_BadHouse C_BadMachine C_BadNode C_BadRow C_BadWay C_BadPaper C_NoName C_TooGreat C_BadText) : BodyG P w K mg base DL d_28 := by
  intro k Φ h3 C f cdv A outer s H E hgd hr
  have hr2 := hr.mono (show 2 ≤ k by omega)
  have nd := sc_28.nd
  have hu := hu_of hr
  have hu2 := lt150 hr
  have hp : ∀ W, Takes (cxOf (L2.CX P w) P w K mg base d_28.N d_28.qual (defScope d_28.st) f cdv A outer s H E) W → PassesOwn (model P w) (A.deeper (PyProof.Rows.envOfC d_28.qual (defScope d_28.st) s.heap.objs.size f cdv)) (PyProof.Rows.envOfC d_28.qual (defScope d_28.st) s.heap.objs.size f cdv) (cxOf (L2.CX P w) P w K mg base d_28.N d_28.qual (defScope d_28.st) f cdv A outer s H E).xe := fun W tk => passes_of rfl
  exact ⟨_, vss_cons (sasg (i := 1) nd (ecallG (d := d_16) (C 16 d_16 rfl) hgd hr (gn 0 (vg_nil)) (glen_nar (glen_nil))))
    (vss_cons (sasg (i := 2) nd (ve_lst (va_nil)))
    (vss_cons (sfor (irange1 M.b_range (ve_int)) (gnm (i := 3) nd) (vss_cons (sasg (i := 4) nd (ecallG (d := d_17) (C 17 d_17 rfl) hgd hr (gn 1 (ga1 (eix true (ve_lst (va_cons (ve_int) (va_cons (ve_int) (va_cons (ve_int) (va_cons (ve_int) (va_cons (ve_int) (va_cons (ve_int) (va_nil)))))))) (ecallG (d := d_15) (C 15 d_15 rfl) hgd hr (gn 1 (ga1 (ve_int) (vg_nil))) (glen_nar (glen_arg (glen_nil))))) (vg_nil))) (glen_nar (glen_arg (glen_nil)))))
    (vss_cons (sasg (i := 5) nd (ecallG (d := d_17) (C 17 d_17 rfl) hgd hr (gn 1 (ga1 (ve_int) (vg_nil))) (glen_nar (glen_arg (glen_nil)))))
    (vss_cons (vs_store (i := 1) hu (ve_int) (ep 1) (ve_str) rfl)
    (vss_cons (sasg (i := 6) nd (ecallG (d := d_20) (C 20 d_20 rfl) hgd hr (gn 1 (gn 4 (gn 5 (ga1 (ebin true od_add (ve_int) (ecallG (d := d_15) (C 15 d_15 rfl) hgd hr (gn 1 (ga1 (ve_int) (vg_nil))) (glen_nar (glen_arg (glen_nil))))) (vg_nil))))) (glen_nar (glen_nar (glen_nar (glen_arg (glen_nil)))))))
    (vss_cons (sasg (i := 7) nd (eix true (ve_lst (va_cons (ve_int) (va_cons (ve_int) (va_cons (ve_int) (va_cons (ve_int) (va_cons (ve_int) (va_cons (ve_int) (va_nil)))))))) (ecallG (d := d_15) (C 15 d_15 rfl) hgd hr (gn 1 (ga1 (ve_int) (vg_nil))) (glen_nar (glen_arg (glen_nil))))))
    (vss_cons (sasg (i := 8) nd (et1 c1_tuple M.b_tuple (by decide +kernel) (elc [("_law_k", 10)] nd (irange1 M.b_range (ev 7)) (fun _ _ _ _ _ => gnm (i := 10) nd) (fun _ _ _ _ _ => vts_nil) (fun _ _ _ _ _ => ecallG (d := d_21) (C 21 d_21 rfl) hgd hr (gn 1 (gn 4 (gn 5 (vg_nil)))) (glen_nar (glen_nar (glen_nar (glen_nil))))))))
    (vss_cons (sasg (i := 9) nd (ecallG (d := d_22) (C 22 d_22 rfl) hgd hr (gn 6 (gn 8 (vg_nil))) (glen_nar (glen_nar (glen_nil)))))
    (vss_cons (vs_if (VW.vt (vw_or (tcmp true od_notN (ecallG (d := d_10) (C 10 d_10 rfl) hgd hr (gn 8 (vg_nil)) (glen_nar (glen_nil))) (ve_non)) (vw_or1 (tcmp true (od_ne hu2) (eb1 (c1_repr hgd hu2) M.b_repr (by decide +kernel) (ecallG (d := d_24) (C 24 d_24 rfl) hgd hr (gn 6 (gn 8 (vg_nil))) (glen_nar (glen_nar (glen_nil))))) (eb1 (c1_repr hgd hu2) M.b_repr (by decide +kernel) (ev 9)))))) (vss_one (vs_ret (ve_bl))) (vss_nil))
    (vss_one (vs_expr (ve_mth md_append PySem.F.plainAttrs_list PySem.F.slot_list_append PySem.F.type_list_append (ep 2) (va_cons (ve_tup (va_cons (ek 6) (va_cons (ek 8) (va_cons (ek 9) (va_nil))))) (va_nil)) rfl))))))))))) hp)
    (vss_cons (sfor (vi_seq (ebin true od_add (ve_rev (ev 2)) (ev 2))) (vg_tt rfl (vg_tcons (gnm (i := 6) nd) (vg_tcons (gnm (i := 8) nd) (vg_tcons (gnm (i := 9) nd) (vg_tnil))))) (vss_one (vs_if (VW.vt (vw_or (tcmp true (od_ne hu2) (eb1 (c1_repr hgd hu2) M.b_repr (by decide +kernel) (ecallG (d := d_24) (C 24 d_24 rfl) hgd hr (gn 6 (gn 8 (vg_nil))) (glen_nar (glen_nar (glen_nil))))) (eb1 (c1_repr hgd hu2) M.b_repr (by decide +kernel) (ev 9))) (vw_or1 (tcmp true (od_ne hu2) (eb1 (c1_repr hgd hu2) M.b_repr (by decide +kernel) (ecallG (d := d_24) (C 24 d_24 rfl) hgd hr (gn 6 (ga1 (ve_tup (va_nil)) (vg_nil))) (glen_nar (glen_arg (glen_nil))))) (eb1 (c1_repr hgd hu2) M.b_repr (by decide +kernel) (ev 6)))))) (vss_one (vs_ret (ve_bl))) (vss_nil))) hp)
    (vss_one (vs_ret (ecallG (d := d_27) (C 27 d_27 rfl) hgd hr (gn 1 (vg_nil)) (glen_nar (glen_nil))))))))⟩
end
theorem all_mk {l : PySem.W.OpenLaw} {w : World} {K : PySem.W.Frag} {h : Heap} {mg : Mg} {fa f_0 f_1 f_2 f_3 f_4 f_5 f_6 f_7 f_8 f_9 f_10 f_11 f_12 f_13 f_14 f_15 f_16 f_17 f_18 f_19 f_20 f_21 f_22 f_23 f_24 f_25 f_26 f_27 f_28 C_HandError C_BadDeeds C_BadHand C_BadHouse C_BadMachine C_BadNode C_BadRow C_BadWay C_BadPaper C_NoName C_TooGreat C_BadText : Addr} {oc_0 kV_0 dc_0 pm_0 cd_0 ct_0 oc_1 kV_1 dc_1 pm_1 cd_1 ct_1 oc_2 kV_2 dc_2 pm_2 cd_2 ct_2 oc_3 kV_3 dc_3 pm_3 cd_3 ct_3 oc_4 kV_4 dc_4 pm_4 cd_4 ct_4 oc_5 kV_5 dc_5 pm_5 cd_5 ct_5 oc_6 kV_6 dc_6 pm_6 cd_6 ct_6 oc_7 kV_7 dc_7 pm_7 cd_7 ct_7 oc_8 kV_8 dc_8 pm_8 cd_8 ct_8 oc_9 kV_9 dc_9 pm_9 cd_9 ct_9 oc_10 kV_10 dc_10 pm_10 cd_10 ct_10 oc_11 kV_11 dc_11 pm_11 cd_11 ct_11 oc_12 kV_12 dc_12 pm_12 cd_12 ct_12 oc_13 kV_13 dc_13 pm_13 cd_13 ct_13 oc_14 kV_14 dc_14 pm_14 cd_14 ct_14 oc_15 kV_15 dc_15 pm_15 cd_15 ct_15 oc_16 kV_16 dc_16 pm_16 cd_16 ct_16 oc_17 kV_17 dc_17 pm_17 cd_17 ct_17 oc_18 kV_18 dc_18 pm_18 cd_18 ct_18 oc_19 kV_19 dc_19 pm_19 cd_19 ct_19 oc_20 kV_20 dc_20 pm_20 cd_20 ct_20 oc_21 kV_21 dc_21 pm_21 cd_21 ct_21 oc_22 kV_22 dc_22 pm_22 cd_22 ct_22 oc_23 kV_23 dc_23 pm_23 cd_23 ct_23 oc_24 kV_24 dc_24 pm_24 cd_24 ct_24 oc_25 kV_25 dc_25 pm_25 cd_25 ct_25 oc_26 kV_26 dc_26 pm_26 cd_26 ct_26 oc_27 kV_27 dc_27 pm_27 cd_27 ct_27 oc_28 kV_28 dc_28 pm_28 cd_28 ct_28 : Value} {od_0 an_0 od_1 an_1 od_2 an_2 od_3 an_3 od_4 an_4 od_5 an_5 od_6 an_6 od_7 an_7 od_8 an_8 od_9 an_9 od_10 an_10 od_11 an_11 od_12 an_12 od_13 an_13 od_14 an_14 od_15 an_15 od_16 an_16 od_17 an_17 od_18 an_18 od_19 an_19 od_20 an_20 od_21 an_21 od_22 an_22 od_23 an_23 od_24 an_24 od_25 an_25 od_26 an_26 od_27 an_27 od_28 an_28 : Option Addr} {sl_0 sl_1 sl_2 sl_3 sl_4 sl_5 sl_6 sl_7 sl_8 sl_9 sl_10 sl_11 sl_12 sl_13 sl_14 sl_15 sl_16 sl_17 sl_18 sl_19 sl_20 sl_21 sl_22 sl_23 sl_24 sl_25 sl_26 sl_27 sl_28 : Array (Option Value)} {K_BARS K_LONG_forms K_LONG_surroundings : Addr} {U_MOST_LETTERS U_LETTERS U_MOST_DEEDS U_MOST_SIZE U_MOST_DEEP U_MOST_STEPS : Value} {es_LONG_forms : Array DictEntry} {en_LONG_forms : Nat} {es_LONG_surroundings : Array DictEntry} {en_LONG_surroundings : Nat} (X : K.In h) (G : h.Ns mainGlobals mg) (hfa : mg "law" = some (.ref fa))
    (aC_HandError : PySem.W.nsIn K mainGlobals "HandError" = some (some (.ref C_HandError)))
    (aC_BadDeeds : PySem.W.nsIn K mainGlobals "BadDeeds" = some (some (.ref C_BadDeeds)))
    (aC_BadHand : PySem.W.nsIn K mainGlobals "BadHand" = some (some (.ref C_BadHand)))
    (aC_BadHouse : PySem.W.nsIn K mainGlobals "BadHouse" = some (some (.ref C_BadHouse)))
    (aC_BadMachine : PySem.W.nsIn K mainGlobals "BadMachine" = some (some (.ref C_BadMachine)))
    (aC_BadNode : PySem.W.nsIn K mainGlobals "BadNode" = some (some (.ref C_BadNode)))
    (aC_BadRow : PySem.W.nsIn K mainGlobals "BadRow" = some (some (.ref C_BadRow)))
    (aC_BadWay : PySem.W.nsIn K mainGlobals "BadWay" = some (some (.ref C_BadWay)))
    (aC_BadPaper : PySem.W.nsIn K mainGlobals "BadPaper" = some (some (.ref C_BadPaper)))
    (aC_NoName : PySem.W.nsIn K mainGlobals "NoName" = some (some (.ref C_NoName)))
    (aC_TooGreat : PySem.W.nsIn K mainGlobals "TooGreat" = some (some (.ref C_TooGreat)))
    (aC_BadText : PySem.W.nsIn K mainGlobals "BadText" = some (some (.ref C_BadText)))
    (a_0 : PySem.W.nsIn K mainGlobals "is_word" = some (some (.ref f_0)))
    (l_0 : K.lookup f_0 = some ⟨oc_0, od_0, .func (PySem.W.fnOf "is_word" "is_word" (defArgs s_0) (defBody s_0) (defScope s_0) .none kV_0 dc_0 pm_0 an_0 cd_0 ct_0), sl_0⟩)
    (c_0 : PySem.W.codeIn K cd_0 "is_word" = true)
    (k_0 : PySem.W.keepIn K (.ref f_0) = true)
    (a_1 : PySem.W.nsIn K mainGlobals "is_row" = some (some (.ref f_1)))
    (l_1 : K.lookup f_1 = some ⟨oc_1, od_1, .func (PySem.W.fnOf "is_row" "is_row" (defArgs s_1) (defBody s_1) (defScope s_1) .none kV_1 dc_1 pm_1 an_1 cd_1 ct_1), sl_1⟩)
    (c_1 : PySem.W.codeIn K cd_1 "is_row" = true)
    (k_1 : PySem.W.keepIn K (.ref f_1) = true)
    (a_2 : PySem.W.nsIn K mainGlobals "is_rising" = some (some (.ref f_2)))
    (l_2 : K.lookup f_2 = some ⟨oc_2, od_2, .func (PySem.W.fnOf "is_rising" "is_rising" (defArgs s_2) (defBody s_2) (defScope s_2) .none kV_2 dc_2 pm_2 an_2 cd_2 ct_2), sl_2⟩)
    (c_2 : PySem.W.codeIn K cd_2 "is_rising" = true)
    (k_2 : PySem.W.keepIn K (.ref f_2) = true)
    (a_3 : PySem.W.nsIn K mainGlobals "is_set" = some (some (.ref f_3)))
    (l_3 : K.lookup f_3 = some ⟨oc_3, od_3, .func (PySem.W.fnOf "is_set" "is_set" (defArgs s_3) (defBody s_3) (defScope s_3) .none kV_3 dc_3 pm_3 an_3 cd_3 ct_3), sl_3⟩)
    (c_3 : PySem.W.codeIn K cd_3 "is_set" = true)
    (k_3 : PySem.W.keepIn K (.ref f_3) = true)
    (a_4 : PySem.W.nsIn K mainGlobals "is_pairs" = some (some (.ref f_4)))
    (l_4 : K.lookup f_4 = some ⟨oc_4, od_4, .func (PySem.W.fnOf "is_pairs" "is_pairs" (defArgs s_4) (defBody s_4) (defScope s_4) .none kV_4 dc_4 pm_4 an_4 cd_4 ct_4), sl_4⟩)
    (c_4 : PySem.W.codeIn K cd_4 "is_pairs" = true)
    (k_4 : PySem.W.keepIn K (.ref f_4) = true)
    (a_5 : PySem.W.nsIn K mainGlobals "is_form" = some (some (.ref f_5)))
    (l_5 : K.lookup f_5 = some ⟨oc_5, od_5, .func (PySem.W.fnOf "is_form" "is_form" (defArgs s_5) (defBody s_5) (defScope s_5) .none kV_5 dc_5 pm_5 an_5 cd_5 ct_5), sl_5⟩)
    (c_5 : PySem.W.codeIn K cd_5 "is_form" = true)
    (k_5 : PySem.W.keepIn K (.ref f_5) = true)
    (a_6 : PySem.W.nsIn K mainGlobals "beneath" = some (some (.ref f_6)))
    (l_6 : K.lookup f_6 = some ⟨oc_6, od_6, .func (PySem.W.fnOf "beneath" "beneath" (defArgs s_6) (defBody s_6) (defScope s_6) .none kV_6 dc_6 pm_6 an_6 cd_6 ct_6), sl_6⟩)
    (c_6 : PySem.W.codeIn K cd_6 "beneath" = true)
    (k_6 : PySem.W.keepIn K (.ref f_6) = true)
    (a_7 : PySem.W.nsIn K mainGlobals "is_hand" = some (some (.ref f_7)))
    (l_7 : K.lookup f_7 = some ⟨oc_7, od_7, .func (PySem.W.fnOf "is_hand" "is_hand" (defArgs s_7) (defBody s_7) (defScope s_7) .none kV_7 dc_7 pm_7 an_7 cd_7 ct_7), sl_7⟩)
    (c_7 : PySem.W.codeIn K cd_7 "is_hand" = true)
    (k_7 : PySem.W.keepIn K (.ref f_7) = true)
    (a_8 : PySem.W.nsIn K mainGlobals "need_hand" = some (some (.ref f_8)))
    (l_8 : K.lookup f_8 = some ⟨oc_8, od_8, .func (PySem.W.fnOf "need_hand" "need_hand" (defArgs s_8) (defBody s_8) (defScope s_8) .none kV_8 dc_8 pm_8 an_8 cd_8 ct_8), sl_8⟩)
    (c_8 : PySem.W.codeIn K cd_8 "need_hand" = true)
    (k_8 : PySem.W.keepIn K (.ref f_8) = true)
    (a_9 : PySem.W.nsIn K mainGlobals "is_step" = some (some (.ref f_9)))
    (l_9 : K.lookup f_9 = some ⟨oc_9, od_9, .func (PySem.W.fnOf "is_step" "is_step" (defArgs s_9) (defBody s_9) (defScope s_9) .none kV_9 dc_9 pm_9 an_9 cd_9 ct_9), sl_9⟩)
    (c_9 : PySem.W.codeIn K cd_9 "is_step" = true)
    (k_9 : PySem.W.keepIn K (.ref f_9) = true)
    (a_10 : PySem.W.nsIn K mainGlobals "need_surroundings" = some (some (.ref f_10)))
    (l_10 : K.lookup f_10 = some ⟨oc_10, od_10, .func (PySem.W.fnOf "need_surroundings" "need_surroundings" (defArgs s_10) (defBody s_10) (defScope s_10) .none kV_10 dc_10 pm_10 an_10 cd_10 ct_10), sl_10⟩)
    (c_10 : PySem.W.codeIn K cd_10 "need_surroundings" = true)
    (k_10 : PySem.W.keepIn K (.ref f_10) = true)
    (a_11 : PySem.W.nsIn K mainGlobals "put_one" = some (some (.ref f_11)))
    (l_11 : K.lookup f_11 = some ⟨oc_11, od_11, .func (PySem.W.fnOf "put_one" "put_one" (defArgs s_11) (defBody s_11) (defScope s_11) .none kV_11 dc_11 pm_11 an_11 cd_11 ct_11), sl_11⟩)
    (c_11 : PySem.W.codeIn K cd_11 "put_one" = true)
    (k_11 : PySem.W.keepIn K (.ref f_11) = true)
    (a_12 : PySem.W.nsIn K mainGlobals "put_round" = some (some (.ref f_12)))
    (l_12 : K.lookup f_12 = some ⟨oc_12, od_12, .func (PySem.W.fnOf "put_round" "put_round" (defArgs s_12) (defBody s_12) (defScope s_12) .none kV_12 dc_12 pm_12 an_12 cd_12 ct_12), sl_12⟩)
    (c_12 : PySem.W.codeIn K cd_12 "put_round" = true)
    (k_12 : PySem.W.keepIn K (.ref f_12) = true)
    (a_13 : PySem.W.nsIn K mainGlobals "_law_mixed" = some (some (.ref f_13)))
    (l_13 : K.lookup f_13 = some ⟨oc_13, od_13, .func (PySem.W.fnOf "_law_mixed" "_law_mixed" (defArgs s_13) (defBody s_13) (defScope s_13) .none kV_13 dc_13 pm_13 an_13 cd_13 ct_13), sl_13⟩)
    (c_13 : PySem.W.codeIn K cd_13 "_law_mixed" = true)
    (k_13 : PySem.W.keepIn K (.ref f_13) = true)
    (a_14 : PySem.W.nsIn K mainGlobals "_law_folded" = some (some (.ref f_14)))
    (l_14 : K.lookup f_14 = some ⟨oc_14, od_14, .func (PySem.W.fnOf "_law_folded" "_law_folded" (defArgs s_14) (defBody s_14) (defScope s_14) .none kV_14 dc_14 pm_14 an_14 cd_14 ct_14), sl_14⟩)
    (c_14 : PySem.W.codeIn K cd_14 "_law_folded" = true)
    (k_14 : PySem.W.keepIn K (.ref f_14) = true)
    (a_15 : PySem.W.nsIn K mainGlobals "_law_draw" = some (some (.ref f_15)))
    (l_15 : K.lookup f_15 = some ⟨oc_15, od_15, .func (PySem.W.fnOf "_law_draw" "_law_draw" (defArgs s_15) (defBody s_15) (defScope s_15) .none kV_15 dc_15 pm_15 an_15 cd_15 ct_15), sl_15⟩)
    (c_15 : PySem.W.codeIn K cd_15 "_law_draw" = true)
    (k_15 : PySem.W.keepIn K (.ref f_15) = true)
    (a_16 : PySem.W.nsIn K mainGlobals "_law_begun" = some (some (.ref f_16)))
    (l_16 : K.lookup f_16 = some ⟨oc_16, od_16, .func (PySem.W.fnOf "_law_begun" "_law_begun" (defArgs s_16) (defBody s_16) (defScope s_16) .none kV_16 dc_16 pm_16 an_16 cd_16 ct_16), sl_16⟩)
    (c_16 : PySem.W.codeIn K cd_16 "_law_begun" = true)
    (k_16 : PySem.W.keepIn K (.ref f_16) = true)
    (a_17 : PySem.W.nsIn K mainGlobals "_law_words" = some (some (.ref f_17)))
    (l_17 : K.lookup f_17 = some ⟨oc_17, od_17, .func (PySem.W.fnOf "_law_words" "_law_words" (defArgs s_17) (defBody s_17) (defScope s_17) .none kV_17 dc_17 pm_17 an_17 cd_17 ct_17), sl_17⟩)
    (c_17 : PySem.W.codeIn K cd_17 "_law_words" = true)
    (k_17 : PySem.W.keepIn K (.ref f_17) = true)
    (a_18 : PySem.W.nsIn K mainGlobals "_law_set" = some (some (.ref f_18)))
    (l_18 : K.lookup f_18 = some ⟨oc_18, od_18, .func (PySem.W.fnOf "_law_set" "_law_set" (defArgs s_18) (defBody s_18) (defScope s_18) .none kV_18 dc_18 pm_18 an_18 cd_18 ct_18), sl_18⟩)
    (c_18 : PySem.W.codeIn K cd_18 "_law_set" = true)
    (k_18 : PySem.W.keepIn K (.ref f_18) = true)
    (a_19 : PySem.W.nsIn K mainGlobals "_law_pairs" = some (some (.ref f_19)))
    (l_19 : K.lookup f_19 = some ⟨oc_19, od_19, .func (PySem.W.fnOf "_law_pairs" "_law_pairs" (defArgs s_19) (defBody s_19) (defScope s_19) .none kV_19 dc_19 pm_19 an_19 cd_19 ct_19), sl_19⟩)
    (c_19 : PySem.W.codeIn K cd_19 "_law_pairs" = true)
    (k_19 : PySem.W.keepIn K (.ref f_19) = true)
    (a_20 : PySem.W.nsIn K mainGlobals "_law_hand" = some (some (.ref f_20)))
    (l_20 : K.lookup f_20 = some ⟨oc_20, od_20, .func (PySem.W.fnOf "_law_hand" "_law_hand" (defArgs s_20) (defBody s_20) (defScope s_20) .none kV_20 dc_20 pm_20 an_20 cd_20 ct_20), sl_20⟩)
    (c_20 : PySem.W.codeIn K cd_20 "_law_hand" = true)
    (k_20 : PySem.W.keepIn K (.ref f_20) = true)
    (a_21 : PySem.W.nsIn K mainGlobals "_law_step" = some (some (.ref f_21)))
    (l_21 : K.lookup f_21 = some ⟨oc_21, od_21, .func (PySem.W.fnOf "_law_step" "_law_step" (defArgs s_21) (defBody s_21) (defScope s_21) .none kV_21 dc_21 pm_21 an_21 cd_21 ct_21), sl_21⟩)
    (c_21 : PySem.W.codeIn K cd_21 "_law_step" = true)
    (k_21 : PySem.W.keepIn K (.ref f_21) = true)
    (a_22 : PySem.W.nsIn K mainGlobals "_law_put" = some (some (.ref f_22)))
    (l_22 : K.lookup f_22 = some ⟨oc_22, od_22, .func (PySem.W.fnOf "_law_put" "_law_put" (defArgs s_22) (defBody s_22) (defScope s_22) .none kV_22 dc_22 pm_22 an_22 cd_22 ct_22), sl_22⟩)
    (c_22 : PySem.W.codeIn K cd_22 "_law_put" = true)
    (k_22 : PySem.W.keepIn K (.ref f_22) = true)
    (a_23 : PySem.W.nsIn K mainGlobals "_law_is_other" = some (some (.ref f_23)))
    (l_23 : K.lookup f_23 = some ⟨oc_23, od_23, .func (PySem.W.fnOf "_law_is_other" "_law_is_other" (defArgs s_23) (defBody s_23) (defScope s_23) .none kV_23 dc_23 pm_23 an_23 cd_23 ct_23), sl_23⟩)
    (c_23 : PySem.W.codeIn K cd_23 "_law_is_other" = true)
    (k_23 : PySem.W.keepIn K (.ref f_23) = true)
    (a_24 : PySem.W.nsIn K mainGlobals "_law_said" = some (some (.ref f_24)))
    (l_24 : K.lookup f_24 = some ⟨oc_24, od_24, .func (PySem.W.fnOf "_law_said" "_law_said" (defArgs s_24) (defBody s_24) (defScope s_24) .none kV_24 dc_24 pm_24 an_24 cd_24 ct_24), sl_24⟩)
    (c_24 : PySem.W.codeIn K cd_24 "_law_said" = true)
    (k_24 : PySem.W.keepIn K (.ref f_24) = true)
    (a_25 : PySem.W.nsIn K mainGlobals "_law_chain" = some (some (.ref f_25)))
    (l_25 : K.lookup f_25 = some ⟨oc_25, od_25, .func (PySem.W.fnOf "_law_chain" "_law_chain" (defArgs s_25) (defBody s_25) (defScope s_25) .none kV_25 dc_25 pm_25 an_25 cd_25 ct_25), sl_25⟩)
    (c_25 : PySem.W.codeIn K cd_25 "_law_chain" = true)
    (k_25 : PySem.W.keepIn K (.ref f_25) = true)
    (a_26 : PySem.W.nsIn K mainGlobals "_law_bush" = some (some (.ref f_26)))
    (l_26 : K.lookup f_26 = some ⟨oc_26, od_26, .func (PySem.W.fnOf "_law_bush" "_law_bush" (defArgs s_26) (defBody s_26) (defScope s_26) .none kV_26 dc_26 pm_26 an_26 cd_26 ct_26), sl_26⟩)
    (c_26 : PySem.W.codeIn K cd_26 "_law_bush" = true)
    (k_26 : PySem.W.keepIn K (.ref f_26) = true)
    (a_27 : PySem.W.nsIn K mainGlobals "_law_bounds_right" = some (some (.ref f_27)))
    (l_27 : K.lookup f_27 = some ⟨oc_27, od_27, .func (PySem.W.fnOf "_law_bounds_right" "_law_bounds_right" (defArgs s_27) (defBody s_27) (defScope s_27) .none kV_27 dc_27 pm_27 an_27 cd_27 ct_27), sl_27⟩)
    (c_27 : PySem.W.codeIn K cd_27 "_law_bounds_right" = true)
    (k_27 : PySem.W.keepIn K (.ref f_27) = true)
    (a_28 : PySem.W.nsIn K mainGlobals "law" = some (some (.ref f_28)))
    (l_28 : K.lookup f_28 = some ⟨oc_28, od_28, .func (PySem.W.fnOf "law" "law" (defArgs s_28) (defBody s_28) (defScope s_28) .none kV_28 dc_28 pm_28 an_28 cd_28 ct_28), sl_28⟩)
    (c_28 : PySem.W.codeIn K cd_28 "law" = true)
    (k_28 : PySem.W.keepIn K (.ref f_28) = true)
    (kC_HandError : PySem.W.keepIn K (.ref C_HandError) = true)
    (qC_HandError : PySem.W.excIn K C_HandError [.type "ValueError", .type "Exception", .type "BaseException", .type "object"] "ValueError.__new__" = true)
    (kC_BadDeeds : PySem.W.keepIn K (.ref C_BadDeeds) = true)
    (qC_BadDeeds : PySem.W.excIn K C_BadDeeds [.type "ValueError", .type "Exception", .type "BaseException", .type "object"] "ValueError.__new__" = true)
    (kC_BadHand : PySem.W.keepIn K (.ref C_BadHand) = true)
    (qC_BadHand : PySem.W.excIn K C_BadHand [.type "ValueError", .type "Exception", .type "BaseException", .type "object"] "ValueError.__new__" = true)
    (kC_BadHouse : PySem.W.keepIn K (.ref C_BadHouse) = true)
    (qC_BadHouse : PySem.W.excIn K C_BadHouse [.type "ValueError", .type "Exception", .type "BaseException", .type "object"] "ValueError.__new__" = true)
    (kC_BadMachine : PySem.W.keepIn K (.ref C_BadMachine) = true)
    (qC_BadMachine : PySem.W.excIn K C_BadMachine [.type "ValueError", .type "Exception", .type "BaseException", .type "object"] "ValueError.__new__" = true)
    (kC_BadNode : PySem.W.keepIn K (.ref C_BadNode) = true)
    (qC_BadNode : PySem.W.excIn K C_BadNode [.type "ValueError", .type "Exception", .type "BaseException", .type "object"] "ValueError.__new__" = true)
    (kC_BadRow : PySem.W.keepIn K (.ref C_BadRow) = true)
    (qC_BadRow : PySem.W.excIn K C_BadRow [.type "ValueError", .type "Exception", .type "BaseException", .type "object"] "ValueError.__new__" = true)
    (kC_BadWay : PySem.W.keepIn K (.ref C_BadWay) = true)
    (qC_BadWay : PySem.W.excIn K C_BadWay [.type "ValueError", .type "Exception", .type "BaseException", .type "object"] "ValueError.__new__" = true)
    (kC_BadPaper : PySem.W.keepIn K (.ref C_BadPaper) = true)
    (qC_BadPaper : PySem.W.excIn K C_BadPaper [.type "ValueError", .type "Exception", .type "BaseException", .type "object"] "ValueError.__new__" = true)
    (kC_NoName : PySem.W.keepIn K (.ref C_NoName) = true)
    (qC_NoName : PySem.W.excIn K C_NoName [.type "ValueError", .type "Exception", .type "BaseException", .type "object"] "ValueError.__new__" = true)
    (kC_TooGreat : PySem.W.keepIn K (.ref C_TooGreat) = true)
    (qC_TooGreat : PySem.W.excIn K C_TooGreat [.type "ValueError", .type "Exception", .type "BaseException", .type "object"] "ValueError.__new__" = true)
    (kC_BadText : PySem.W.keepIn K (.ref C_BadText) = true)
    (aK_MOST_LETTERS : PySem.W.nsIn K mainGlobals "MOST_LETTERS" = some (some U_MOST_LETTERS))
    (fK_MOST_LETTERS : flatVB (.int 6) U_MOST_LETTERS = true)
    (aK_BARS : PySem.W.nsIn K mainGlobals "BARS" = some (some (.ref K_BARS)))
    (fK_BARS : tupB K K_BARS [.str "stop", .str "spin", .str "out", .str "own", .str "beside", .str "hide", .str "as"] = true)
    (aK_LETTERS : PySem.W.nsIn K mainGlobals "LETTERS" = some (some U_LETTERS))
    (fK_LETTERS : flatVB (.str "abcdefghijklmnopqrstuvwxyz") U_LETTERS = true)
    (aK_MOST_DEEDS : PySem.W.nsIn K mainGlobals "MOST_DEEDS" = some (some U_MOST_DEEDS))
    (fK_MOST_DEEDS : flatVB (.int 8) U_MOST_DEEDS = true)
    (aK_LONG_forms : PySem.W.nsIn K mainGlobals "LONG_forms" = some (some (.ref K_LONG_forms)))
    (lK_LONG_forms : K.lookup K_LONG_forms = some ⟨.type "dict", none, .dict es_LONG_forms en_LONG_forms, #[]⟩)
    (wK_LONG_forms : PySem.W.KeysLit w.params es_LONG_forms.toList)
    (eK_LONG_forms : entsB kd_LONG_forms es_LONG_forms.toList = true)
    (mK_LONG_forms : (K_LONG_forms == sysModules) = false)
    (aK_MOST_SIZE : PySem.W.nsIn K mainGlobals "MOST_SIZE" = some (some U_MOST_SIZE))
    (fK_MOST_SIZE : flatVB (.int 200) U_MOST_SIZE = true)
    (aK_MOST_DEEP : PySem.W.nsIn K mainGlobals "MOST_DEEP" = some (some U_MOST_DEEP))
    (fK_MOST_DEEP : flatVB (.int 40) U_MOST_DEEP = true)
    (aK_LONG_surroundings : PySem.W.nsIn K mainGlobals "LONG_surroundings" = some (some (.ref K_LONG_surroundings)))
    (lK_LONG_surroundings : K.lookup K_LONG_surroundings = some ⟨.type "dict", none, .dict es_LONG_surroundings en_LONG_surroundings, #[]⟩)
    (wK_LONG_surroundings : PySem.W.KeysLit w.params es_LONG_surroundings.toList)
    (eK_LONG_surroundings : entsB kd_LONG_surroundings es_LONG_surroundings.toList = true)
    (mK_LONG_surroundings : (K_LONG_surroundings == sysModules) = false)
    (aK_MOST_STEPS : PySem.W.nsIn K mainGlobals "MOST_STEPS" = some (some U_MOST_STEPS))
    (fK_MOST_STEPS : flatVB (.int 10) U_MOST_STEPS = true)
    (sR_BadHand : PySem.W.subIn K (.ref C_BadHand) (.type "BaseException") = some true)
    (tR_BadHand : PySem.W.typeIn K (.ref C_BadHand) = some (.type "type"))
    (eE_HandError : exmB K (.ref C_HandError) [("HandError", C_HandError, true), ("BadDeeds", C_BadDeeds, true), ("BadHand", C_BadHand, true), ("BadHouse", C_BadHouse, true), ("BadMachine", C_BadMachine, true), ("BadNode", C_BadNode, true), ("BadRow", C_BadRow, true), ("BadWay", C_BadWay, true), ("BadPaper", C_BadPaper, true), ("NoName", C_NoName, true), ("TooGreat", C_TooGreat, true), ("BadText", C_BadText, true)] = true)
    (z_ValueError : PySem.W.nsIn K mainGlobals "ValueError" = some none)
    (z_all : PySem.W.nsIn K mainGlobals "all" = some none)
    (z_enumerate : PySem.W.nsIn K mainGlobals "enumerate" = some none)
    (z_isinstance : PySem.W.nsIn K mainGlobals "isinstance" = some none)
    (z_len : PySem.W.nsIn K mainGlobals "len" = some none)
    (z_range : PySem.W.nsIn K mainGlobals "range" = some none)
    (z_repr : PySem.W.nsIn K mainGlobals "repr" = some none)
    (z_sorted : PySem.W.nsIn K mainGlobals "sorted" = some none)
    (z_str : PySem.W.nsIn K mainGlobals "str" = some none)
    (z_tuple : PySem.W.nsIn K mainGlobals "tuple" = some none)
    (z_zip : PySem.W.nsIn K mainGlobals "zip" = some none)
    (tbK_str : tbB (fun t => PySem.W.kitOne K t (.type "str")) tb_str = true)
    (teK_str : teB K (fun t => PySem.W.kitOne K t (.type "str")) [("HandError", C_HandError, false), ("BadDeeds", C_BadDeeds, false), ("BadHand", C_BadHand, false), ("BadHouse", C_BadHouse, false), ("BadMachine", C_BadMachine, false), ("BadNode", C_BadNode, false), ("BadRow", C_BadRow, false), ("BadWay", C_BadWay, false), ("BadPaper", C_BadPaper, false), ("NoName", C_NoName, false), ("TooGreat", C_TooGreat, false), ("BadText", C_BadText, false)] = true)
    (tbK_tuple : tbB (fun t => PySem.W.kitOne K t (.type "tuple")) tb_tuple = true)
    (teK_tuple : teB K (fun t => PySem.W.kitOne K t (.type "tuple")) [("HandError", C_HandError, false), ("BadDeeds", C_BadDeeds, false), ("BadHand", C_BadHand, false), ("BadHouse", C_BadHouse, false), ("BadMachine", C_BadMachine, false), ("BadNode", C_BadNode, false), ("BadRow", C_BadRow, false), ("BadWay", C_BadWay, false), ("BadPaper", C_BadPaper, false), ("NoName", C_NoName, false), ("TooGreat", C_TooGreat, false), ("BadText", C_BadText, false)] = true)
    (tbK_BadDeeds_BadHouse_BadMachine_BadNode_BadPaper : tbB (fun t => PySem.W.kitAny K t [.ref C_BadDeeds, .ref C_BadHouse, .ref C_BadMachine, .ref C_BadNode, .ref C_BadPaper]) tb_BadDeeds_BadHouse_BadMachine_BadNode_BadPaper = true)
    (teK_BadDeeds_BadHouse_BadMachine_BadNode_BadPaper : teB K (fun t => PySem.W.kitAny K t [.ref C_BadDeeds, .ref C_BadHouse, .ref C_BadMachine, .ref C_BadNode, .ref C_BadPaper]) [("HandError", C_HandError, false), ("BadDeeds", C_BadDeeds, true), ("BadHand", C_BadHand, false), ("BadHouse", C_BadHouse, true), ("BadMachine", C_BadMachine, true), ("BadNode", C_BadNode, true), ("BadRow", C_BadRow, false), ("BadWay", C_BadWay, false), ("BadPaper", C_BadPaper, true), ("NoName", C_NoName, false), ("TooGreat", C_TooGreat, false), ("BadText", C_BadText, false)] = true)
    (tbK_BadRow_BadText_BadWay_NoName_TooGreat : tbB (fun t => PySem.W.kitAny K t [.ref C_BadRow, .ref C_BadText, .ref C_BadWay, .ref C_NoName, .ref C_TooGreat]) tb_BadRow_BadText_BadWay_NoName_TooGreat = true)
    (teK_BadRow_BadText_BadWay_NoName_TooGreat : teB K (fun t => PySem.W.kitAny K t [.ref C_BadRow, .ref C_BadText, .ref C_BadWay, .ref C_NoName, .ref C_TooGreat]) [("HandError", C_HandError, false), ("BadDeeds", C_BadDeeds, false), ("BadHand", C_BadHand, false), ("BadHouse", C_BadHouse, false), ("BadMachine", C_BadMachine, false), ("BadNode", C_BadNode, false), ("BadRow", C_BadRow, true), ("BadWay", C_BadWay, true), ("BadPaper", C_BadPaper, false), ("NoName", C_NoName, true), ("TooGreat", C_TooGreat, true), ("BadText", C_BadText, true)] = true)
    (tbK_BadHand : tbB (fun t => PySem.W.kitOne K t (.ref C_BadHand)) tb_BadHand = true)
    (teK_BadHand : teB K (fun t => PySem.W.kitOne K t (.ref C_BadHand)) [("HandError", C_HandError, false), ("BadDeeds", C_BadDeeds, false), ("BadHand", C_BadHand, true), ("BadHouse", C_BadHouse, false), ("BadMachine", C_BadMachine, false), ("BadNode", C_BadNode, false), ("BadRow", C_BadRow, false), ("BadWay", C_BadWay, false), ("BadPaper", C_BadPaper, false), ("NoName", C_NoName, false), ("TooGreat", C_TooGreat, false), ("BadText", C_BadText, false)] = true)
    (tbK_ValueError : tbB (fun t => PySem.W.kitOne K t (.type "ValueError")) tb_ValueError = true)
    (teK_ValueError : teB K (fun t => PySem.W.kitOne K t (.type "ValueError")) [("HandError", C_HandError, true), ("BadDeeds", C_BadDeeds, true), ("BadHand", C_BadHand, true), ("BadHouse", C_BadHouse, true), ("BadMachine", C_BadMachine, true), ("BadNode", C_BadNode, true), ("BadRow", C_BadRow, true), ("BadWay", C_BadWay, true), ("BadPaper", C_BadPaper, true), ("NoName", C_NoName, true), ("TooGreat", C_TooGreat, true), ("BadText", C_BadText, true)] = true) :
    ∃ fd : FuncData, (∀ (s : Shared) (u : Value), BindsTo s fd ⟨[u], []⟩ [("_law_script", u)]) ∧ ∀ base : Heap, K.In base → base.Ns mainGlobals mg → FnG l.prog w K mg base (L2.CX l.prog w) 16 fa fd ["_law_script"] (spOf K mg 1 (runB 11 (b_28 (PhiN DL 12)))) := by
  have e := hfa.symm.trans (PySem.W.mg_of X G a_28)
  cases e
  have F_0 := fun_mk (st := s_0) l_0 c_0 k_0
  have H_0 : Has K mg d_0 := ⟨sc_0, _, _, F_0, F_0.binds (ps := ["thing"]) (fun _ _ _ _ _ _ us hl => match us, hl with | [_], _ => rfl), PySem.W.mg_of X G a_0⟩
  have F_1 := fun_mk (st := s_1) l_1 c_1 k_1
  have H_1 : Has K mg d_1 := ⟨sc_1, _, _, F_1, F_1.binds (ps := ["thing"]) (fun _ _ _ _ _ _ us hl => match us, hl with | [_], _ => rfl), PySem.W.mg_of X G a_1⟩
  have F_2 := fun_mk (st := s_2) l_2 c_2 k_2
  have H_2 : Has K mg d_2 := ⟨sc_2, _, _, F_2, F_2.binds (ps := ["texts"]) (fun _ _ _ _ _ _ us hl => match us, hl with | [_], _ => rfl), PySem.W.mg_of X G a_2⟩
  have F_3 := fun_mk (st := s_3) l_3 c_3 k_3
  have H_3 : Has K mg d_3 := ⟨sc_3, _, _, F_3, F_3.binds (ps := ["thing"]) (fun _ _ _ _ _ _ us hl => match us, hl with | [_], _ => rfl), PySem.W.mg_of X G a_3⟩
  have F_4 := fun_mk (st := s_4) l_4 c_4 k_4
  have H_4 : Has K mg d_4 := ⟨sc_4, _, _, F_4, F_4.binds (ps := ["thing"]) (fun _ _ _ _ _ _ us hl => match us, hl with | [_], _ => rfl), PySem.W.mg_of X G a_4⟩
  have F_5 := fun_mk (st := s_5) l_5 c_5 k_5
  have H_5 : Has K mg d_5 := ⟨sc_5, _, _, F_5, F_5.binds (ps := ["thing"]) (fun _ _ _ _ _ _ us hl => match us, hl with | [_], _ => rfl), PySem.W.mg_of X G a_5⟩
  have F_6 := fun_mk (st := s_6) l_6 c_6 k_6
  have H_6 : Has K mg d_6 := ⟨sc_6, _, _, F_6, F_6.binds (ps := ["hand"]) (fun _ _ _ _ _ _ us hl => match us, hl with | [_], _ => rfl), PySem.W.mg_of X G a_6⟩
  have F_7 := fun_mk (st := s_7) l_7 c_7 k_7
  have H_7 : Has K mg d_7 := ⟨sc_7, _, _, F_7, F_7.binds (ps := ["thing"]) (fun _ _ _ _ _ _ us hl => match us, hl with | [_], _ => rfl), PySem.W.mg_of X G a_7⟩
  have F_8 := fun_mk (st := s_8) l_8 c_8 k_8
  have H_8 : Has K mg d_8 := ⟨sc_8, _, _, F_8, F_8.binds (ps := ["thing"]) (fun _ _ _ _ _ _ us hl => match us, hl with | [_], _ => rfl), PySem.W.mg_of X G a_8⟩
  have F_9 := fun_mk (st := s_9) l_9 c_9 k_9
  have H_9 : Has K mg d_9 := ⟨sc_9, _, _, F_9, F_9.binds (ps := ["thing"]) (fun _ _ _ _ _ _ us hl => match us, hl with | [_], _ => rfl), PySem.W.mg_of X G a_9⟩
  have F_10 := fun_mk (st := s_10) l_10 c_10 k_10
  have H_10 : Has K mg d_10 := ⟨sc_10, _, _, F_10, F_10.binds (ps := ["thing"]) (fun _ _ _ _ _ _ us hl => match us, hl with | [_], _ => rfl), PySem.W.mg_of X G a_10⟩
  have F_11 := fun_mk (st := s_11) l_11 c_11 k_11
  have H_11 : Has K mg d_11 := ⟨sc_11, _, _, F_11, F_11.binds (ps := ["hand", "step"]) (fun _ _ _ _ _ _ us hl => match us, hl with | [_, _], _ => rfl), PySem.W.mg_of X G a_11⟩
  have F_12 := fun_mk (st := s_12) l_12 c_12 k_12
  have H_12 : Has K mg d_12 := ⟨sc_12, _, _, F_12, F_12.binds (ps := ["hand", "steps"]) (fun _ _ _ _ _ _ us hl => match us, hl with | [_, _], _ => rfl), PySem.W.mg_of X G a_12⟩
  have F_13 := fun_mk (st := s_13) l_13 c_13 k_13
  have H_13 : Has K mg d_13 := ⟨sc_13, _, _, F_13, F_13.binds (ps := ["_law_cell", "_law_k"]) (fun _ _ _ _ _ _ us hl => match us, hl with | [_, _], _ => rfl), PySem.W.mg_of X G a_13⟩
  have F_14 := fun_mk (st := s_14) l_14 c_14 k_14
  have H_14 : Has K mg d_14 := ⟨sc_14, _, _, F_14, F_14.binds (ps := ["_law_script"]) (fun _ _ _ _ _ _ us hl => match us, hl with | [_], _ => rfl), PySem.W.mg_of X G a_14⟩
  have F_15 := fun_mk (st := s_15) l_15 c_15 k_15
  have H_15 : Has K mg d_15 := ⟨sc_15, _, _, F_15, F_15.binds (ps := ["_law_m", "_law_many"]) (fun _ _ _ _ _ _ us hl => match us, hl with | [_, _], _ => rfl), PySem.W.mg_of X G a_15⟩
  have F_16 := fun_mk (st := s_16) l_16 c_16 k_16
  have H_16 : Has K mg d_16 := ⟨sc_16, _, _, F_16, F_16.binds (ps := ["_law_script"]) (fun _ _ _ _ _ _ us hl => match us, hl with | [_], _ => rfl), PySem.W.mg_of X G a_16⟩
  have F_17 := fun_mk (st := s_17) l_17 c_17 k_17
  have H_17 : Has K mg d_17 := ⟨sc_17, _, _, F_17, F_17.binds (ps := ["_law_m", "_law_many"]) (fun _ _ _ _ _ _ us hl => match us, hl with | [_, _], _ => rfl), PySem.W.mg_of X G a_17⟩
  have F_18 := fun_mk (st := s_18) l_18 c_18 k_18
  have H_18 : Has K mg d_18 := ⟨sc_18, _, _, F_18, F_18.binds (ps := ["_law_m", "_law_deeds"]) (fun _ _ _ _ _ _ us hl => match us, hl with | [_, _], _ => rfl), PySem.W.mg_of X G a_18⟩
  have F_19 := fun_mk (st := s_19) l_19 c_19 k_19
  have H_19 : Has K mg d_19 := ⟨sc_19, _, _, F_19, F_19.binds (ps := ["_law_m", "_law_deeds"]) (fun _ _ _ _ _ _ us hl => match us, hl with | [_, _], _ => rfl), PySem.W.mg_of X G a_19⟩
  have F_20 := fun_mk (st := s_20) l_20 c_20 k_20
  have H_20 : Has K mg d_20 := ⟨sc_20, _, _, F_20, F_20.binds (ps := ["_law_m", "_law_deeds", "_law_names", "_law_deep"]) (fun _ _ _ _ _ _ us hl => match us, hl with | [_, _, _, _], _ => rfl), PySem.W.mg_of X G a_20⟩
  have F_21 := fun_mk (st := s_21) l_21 c_21 k_21
  have H_21 : Has K mg d_21 := ⟨sc_21, _, _, F_21, F_21.binds (ps := ["_law_m", "_law_deeds", "_law_names"]) (fun _ _ _ _ _ _ us hl => match us, hl with | [_, _, _], _ => rfl), PySem.W.mg_of X G a_21⟩
  have F_22 := fun_mk (st := s_22) l_22 c_22 k_22
  have H_22 : Has K mg d_22 := ⟨sc_22, _, _, F_22, F_22.binds (ps := ["_law_hand_here", "_law_steps"]) (fun _ _ _ _ _ _ us hl => match us, hl with | [_, _], _ => rfl), PySem.W.mg_of X G a_22⟩
  have F_23 := fun_mk (st := s_23) l_23 c_23 k_23
  have H_23 : Has K mg d_23 := ⟨sc_23, _, _, F_23, F_23.binds (ps := ["_law_caught"]) (fun _ _ _ _ _ _ us hl => match us, hl with | [_], _ => rfl), PySem.W.mg_of X G a_23⟩
  have F_24 := fun_mk (st := s_24) l_24 c_24 k_24
  have H_24 : Has K mg d_24 := ⟨sc_24, _, _, F_24, F_24.binds (ps := ["_law_hand_here", "_law_steps"]) (fun _ _ _ _ _ _ us hl => match us, hl with | [_, _], _ => rfl), PySem.W.mg_of X G a_24⟩
  have F_25 := fun_mk (st := s_25) l_25 c_25 k_25
  have H_25 : Has K mg d_25 := ⟨sc_25, _, _, F_25, F_25.binds (ps := ["_law_many"]) (fun _ _ _ _ _ _ us hl => match us, hl with | [_], _ => rfl), PySem.W.mg_of X G a_25⟩
  have F_26 := fun_mk (st := s_26) l_26 c_26 k_26
  have H_26 : Has K mg d_26 := ⟨sc_26, _, _, F_26, F_26.binds (ps := ["_law_many"]) (fun _ _ _ _ _ _ us hl => match us, hl with | [_], _ => rfl), PySem.W.mg_of X G a_26⟩
  have F_27 := fun_mk (st := s_27) l_27 c_27 k_27
  have H_27 : Has K mg d_27 := ⟨sc_27, _, _, F_27, F_27.binds (ps := ["_law_m"]) (fun _ _ _ _ _ _ us hl => match us, hl with | [_], _ => rfl), PySem.W.mg_of X G a_27⟩
  have F_28 := fun_mk (st := s_28) l_28 c_28 k_28
  have H_28 : Has K mg d_28 := ⟨sc_28, _, _, F_28, F_28.binds (ps := ["_law_script"]) (fun _ _ _ _ _ _ us hl => match us, hl with | [_], _ => rfl), PySem.W.mg_of X G a_28⟩
  have hh : ∀ (i : Nat) (d : DefI), DL[i]? = some d → Has K mg d := fun i d hd => by
    match i, hd with
    | 0, hd => cases hd; exact H_0
    | 1, hd => cases hd; exact H_1
    | 2, hd => cases hd; exact H_2
    | 3, hd => cases hd; exact H_3
    | 4, hd => cases hd; exact H_4
    | 5, hd => cases hd; exact H_5
    | 6, hd => cases hd; exact H_6
    | 7, hd => cases hd; exact H_7
    | 8, hd => cases hd; exact H_8
    | 9, hd => cases hd; exact H_9
    | 10, hd => cases hd; exact H_10
    | 11, hd => cases hd; exact H_11
    | 12, hd => cases hd; exact H_12
    | 13, hd => cases hd; exact H_13
    | 14, hd => cases hd; exact H_14
    | 15, hd => cases hd; exact H_15
    | 16, hd => cases hd; exact H_16
    | 17, hd => cases hd; exact H_17
    | 18, hd => cases hd; exact H_18
    | 19, hd => cases hd; exact H_19
    | 20, hd => cases hd; exact H_20
    | 21, hd => cases hd; exact H_21
    | 22, hd => cases hd; exact H_22
    | 23, hd => cases hd; exact H_23
    | 24, hd => cases hd; exact H_24
    | 25, hd => cases hd; exact H_25
    | 26, hd => cases hd; exact H_26
    | 27, hd => cases hd; exact H_27
    | 28, hd => cases hd; exact H_28
    | i + 29, hd => simp [DL] at hd
  refine ⟨PySem.W.fnOf "law" "law" (defArgs s_28) (defBody s_28) (defScope s_28) .none kV_28 dc_28 pm_28 an_28 cd_28 ct_28, fun s v => .of_eq rfl, fun base _ _ => ?_⟩
  have M : MF l.prog w K mg base C_HandError C_BadDeeds C_BadHand C_BadHouse C_BadMachine C_BadNode C_BadRow C_BadWay C_BadPaper C_NoName C_TooGreat C_BadText := {
    b_ValueError := PySem.W.mg_none_of X G z_ValueError,
    b_all := PySem.W.mg_none_of X G z_all,
    b_enumerate := PySem.W.mg_none_of X G z_enumerate,
    b_isinstance := PySem.W.mg_none_of X G z_isinstance,
    b_len := PySem.W.mg_none_of X G z_len,
    b_range := PySem.W.mg_none_of X G z_range,
    b_repr := PySem.W.mg_none_of X G z_repr,
    b_sorted := PySem.W.mg_none_of X G z_sorted,
    b_str := PySem.W.mg_none_of X G z_str,
    b_tuple := PySem.W.mg_none_of X G z_tuple,
    b_zip := PySem.W.mg_none_of X G z_zip,
    g_HandError := PySem.W.mg_of X G aC_HandError,
    k_HandError := kC_HandError,
    q_HandError := qC_HandError,
    g_BadDeeds := PySem.W.mg_of X G aC_BadDeeds,
    k_BadDeeds := kC_BadDeeds,
    q_BadDeeds := qC_BadDeeds,
    g_BadHand := PySem.W.mg_of X G aC_BadHand,
    k_BadHand := kC_BadHand,
    q_BadHand := qC_BadHand,
    g_BadHouse := PySem.W.mg_of X G aC_BadHouse,
    k_BadHouse := kC_BadHouse,
    q_BadHouse := qC_BadHouse,
    g_BadMachine := PySem.W.mg_of X G aC_BadMachine,
    k_BadMachine := kC_BadMachine,
    q_BadMachine := qC_BadMachine,
    g_BadNode := PySem.W.mg_of X G aC_BadNode,
    k_BadNode := kC_BadNode,
    q_BadNode := qC_BadNode,
    g_BadRow := PySem.W.mg_of X G aC_BadRow,
    k_BadRow := kC_BadRow,
    q_BadRow := qC_BadRow,
    g_BadWay := PySem.W.mg_of X G aC_BadWay,
    k_BadWay := kC_BadWay,
    q_BadWay := qC_BadWay,
    g_BadPaper := PySem.W.mg_of X G aC_BadPaper,
    k_BadPaper := kC_BadPaper,
    q_BadPaper := qC_BadPaper,
    g_NoName := PySem.W.mg_of X G aC_NoName,
    k_NoName := kC_NoName,
    q_NoName := qC_NoName,
    g_TooGreat := PySem.W.mg_of X G aC_TooGreat,
    k_TooGreat := kC_TooGreat,
    q_TooGreat := qC_TooGreat,
    g_BadText := PySem.W.mg_of X G aC_BadText,
    k_BadText := kC_BadText,
    tb_str := tb_of tbK_str,
    te_str := te_of (ans := fun t => PySem.W.kitOne K t (.type "str")) [("HandError", C_HandError, false), ("BadDeeds", C_BadDeeds, false), ("BadHand", C_BadHand, false), ("BadHouse", C_BadHouse, false), ("BadMachine", C_BadMachine, false), ("BadNode", C_BadNode, false), ("BadRow", C_BadRow, false), ("BadWay", C_BadWay, false), ("BadPaper", C_BadPaper, false), ("NoName", C_NoName, false), ("TooGreat", C_TooGreat, false), ("BadText", C_BadText, false)] (List.forall_mem_cons.mpr ⟨PySem.W.mg_of X G aC_HandError, (List.forall_mem_cons.mpr ⟨PySem.W.mg_of X G aC_BadDeeds, (List.forall_mem_cons.mpr ⟨PySem.W.mg_of X G aC_BadHand, (List.forall_mem_cons.mpr ⟨PySem.W.mg_of X G aC_BadHouse, (List.forall_mem_cons.mpr ⟨PySem.W.mg_of X G aC_BadMachine, (List.forall_mem_cons.mpr ⟨PySem.W.mg_of X G aC_BadNode, (List.forall_mem_cons.mpr ⟨PySem.W.mg_of X G aC_BadRow, (List.forall_mem_cons.mpr ⟨PySem.W.mg_of X G aC_BadWay, (List.forall_mem_cons.mpr ⟨PySem.W.mg_of X G aC_BadPaper, (List.forall_mem_cons.mpr ⟨PySem.W.mg_of X G aC_NoName, (List.forall_mem_cons.mpr ⟨PySem.W.mg_of X G aC_TooGreat, (List.forall_mem_cons.mpr ⟨PySem.W.mg_of X G aC_BadText, fun _ h => absurd h List.not_mem_nil⟩)⟩)⟩)⟩)⟩)⟩)⟩)⟩)⟩)⟩)⟩)⟩) teK_str,
    tb_tuple := tb_of tbK_tuple,
    te_tuple := te_of (ans := fun t => PySem.W.kitOne K t (.type "tuple")) [("HandError", C_HandError, false), ("BadDeeds", C_BadDeeds, false), ("BadHand", C_BadHand, false), ("BadHouse", C_BadHouse, false), ("BadMachine", C_BadMachine, false), ("BadNode", C_BadNode, false), ("BadRow", C_BadRow, false), ("BadWay", C_BadWay, false), ("BadPaper", C_BadPaper, false), ("NoName", C_NoName, false), ("TooGreat", C_TooGreat, false), ("BadText", C_BadText, false)] (List.forall_mem_cons.mpr ⟨PySem.W.mg_of X G aC_HandError, (List.forall_mem_cons.mpr ⟨PySem.W.mg_of X G aC_BadDeeds, (List.forall_mem_cons.mpr ⟨PySem.W.mg_of X G aC_BadHand, (List.forall_mem_cons.mpr ⟨PySem.W.mg_of X G aC_BadHouse, (List.forall_mem_cons.mpr ⟨PySem.W.mg_of X G aC_BadMachine, (List.forall_mem_cons.mpr ⟨PySem.W.mg_of X G aC_BadNode, (List.forall_mem_cons.mpr ⟨PySem.W.mg_of X G aC_BadRow, (List.forall_mem_cons.mpr ⟨PySem.W.mg_of X G aC_BadWay, (List.forall_mem_cons.mpr ⟨PySem.W.mg_of X G aC_BadPaper, (List.forall_mem_cons.mpr ⟨PySem.W.mg_of X G aC_NoName, (List.forall_mem_cons.mpr ⟨PySem.W.mg_of X G aC_TooGreat, (List.forall_mem_cons.mpr ⟨PySem.W.mg_of X G aC_BadText, fun _ h => absurd h List.not_mem_nil⟩)⟩)⟩)⟩)⟩)⟩)⟩)⟩)⟩)⟩)⟩)⟩) teK_tuple,
    tb_BadDeeds_BadHouse_BadMachine_BadNode_BadPaper := tb_of tbK_BadDeeds_BadHouse_BadMachine_BadNode_BadPaper,
    te_BadDeeds_BadHouse_BadMachine_BadNode_BadPaper := te_of (ans := fun t => PySem.W.kitAny K t [.ref C_BadDeeds, .ref C_BadHouse, .ref C_BadMachine, .ref C_BadNode, .ref C_BadPaper]) [("HandError", C_HandError, false), ("BadDeeds", C_BadDeeds, true), ("BadHand", C_BadHand, false), ("BadHouse", C_BadHouse, true), ("BadMachine", C_BadMachine, true), ("BadNode", C_BadNode, true), ("BadRow", C_BadRow, false), ("BadWay", C_BadWay, false), ("BadPaper", C_BadPaper, true), ("NoName", C_NoName, false), ("TooGreat", C_TooGreat, false), ("BadText", C_BadText, false)] (List.forall_mem_cons.mpr ⟨PySem.W.mg_of X G aC_HandError, (List.forall_mem_cons.mpr ⟨PySem.W.mg_of X G aC_BadDeeds, (List.forall_mem_cons.mpr ⟨PySem.W.mg_of X G aC_BadHand, (List.forall_mem_cons.mpr ⟨PySem.W.mg_of X G aC_BadHouse, (List.forall_mem_cons.mpr ⟨PySem.W.mg_of X G aC_BadMachine, (List.forall_mem_cons.mpr ⟨PySem.W.mg_of X G aC_BadNode, (List.forall_mem_cons.mpr ⟨PySem.W.mg_of X G aC_BadRow, (List.forall_mem_cons.mpr ⟨PySem.W.mg_of X G aC_BadWay, (List.forall_mem_cons.mpr ⟨PySem.W.mg_of X G aC_BadPaper, (List.forall_mem_cons.mpr ⟨PySem.W.mg_of X G aC_NoName, (List.forall_mem_cons.mpr ⟨PySem.W.mg_of X G aC_TooGreat, (List.forall_mem_cons.mpr ⟨PySem.W.mg_of X G aC_BadText, fun _ h => absurd h List.not_mem_nil⟩)⟩)⟩)⟩)⟩)⟩)⟩)⟩)⟩)⟩)⟩)⟩) teK_BadDeeds_BadHouse_BadMachine_BadNode_BadPaper,
    tb_BadRow_BadText_BadWay_NoName_TooGreat := tb_of tbK_BadRow_BadText_BadWay_NoName_TooGreat,
    te_BadRow_BadText_BadWay_NoName_TooGreat := te_of (ans := fun t => PySem.W.kitAny K t [.ref C_BadRow, .ref C_BadText, .ref C_BadWay, .ref C_NoName, .ref C_TooGreat]) [("HandError", C_HandError, false), ("BadDeeds", C_BadDeeds, false), ("BadHand", C_BadHand, false), ("BadHouse", C_BadHouse, false), ("BadMachine", C_BadMachine, false), ("BadNode", C_BadNode, false), ("BadRow", C_BadRow, true), ("BadWay", C_BadWay, true), ("BadPaper", C_BadPaper, false), ("NoName", C_NoName, true), ("TooGreat", C_TooGreat, true), ("BadText", C_BadText, true)] (List.forall_mem_cons.mpr ⟨PySem.W.mg_of X G aC_HandError, (List.forall_mem_cons.mpr ⟨PySem.W.mg_of X G aC_BadDeeds, (List.forall_mem_cons.mpr ⟨PySem.W.mg_of X G aC_BadHand, (List.forall_mem_cons.mpr ⟨PySem.W.mg_of X G aC_BadHouse, (List.forall_mem_cons.mpr ⟨PySem.W.mg_of X G aC_BadMachine, (List.forall_mem_cons.mpr ⟨PySem.W.mg_of X G aC_BadNode, (List.forall_mem_cons.mpr ⟨PySem.W.mg_of X G aC_BadRow, (List.forall_mem_cons.mpr ⟨PySem.W.mg_of X G aC_BadWay, (List.forall_mem_cons.mpr ⟨PySem.W.mg_of X G aC_BadPaper, (List.forall_mem_cons.mpr ⟨PySem.W.mg_of X G aC_NoName, (List.forall_mem_cons.mpr ⟨PySem.W.mg_of X G aC_TooGreat, (List.forall_mem_cons.mpr ⟨PySem.W.mg_of X G aC_BadText, fun _ h => absurd h List.not_mem_nil⟩)⟩)⟩)⟩)⟩)⟩)⟩)⟩)⟩)⟩)⟩)⟩) teK_BadRow_BadText_BadWay_NoName_TooGreat,
    tb_BadHand := tb_of tbK_BadHand,
    te_BadHand := te_of (ans := fun t => PySem.W.kitOne K t (.ref C_BadHand)) [("HandError", C_HandError, false), ("BadDeeds", C_BadDeeds, false), ("BadHand", C_BadHand, true), ("BadHouse", C_BadHouse, false), ("BadMachine", C_BadMachine, false), ("BadNode", C_BadNode, false), ("BadRow", C_BadRow, false), ("BadWay", C_BadWay, false), ("BadPaper", C_BadPaper, false), ("NoName", C_NoName, false), ("TooGreat", C_TooGreat, false), ("BadText", C_BadText, false)] (List.forall_mem_cons.mpr ⟨PySem.W.mg_of X G aC_HandError, (List.forall_mem_cons.mpr ⟨PySem.W.mg_of X G aC_BadDeeds, (List.forall_mem_cons.mpr ⟨PySem.W.mg_of X G aC_BadHand, (List.forall_mem_cons.mpr ⟨PySem.W.mg_of X G aC_BadHouse, (List.forall_mem_cons.mpr ⟨PySem.W.mg_of X G aC_BadMachine, (List.forall_mem_cons.mpr ⟨PySem.W.mg_of X G aC_BadNode, (List.forall_mem_cons.mpr ⟨PySem.W.mg_of X G aC_BadRow, (List.forall_mem_cons.mpr ⟨PySem.W.mg_of X G aC_BadWay, (List.forall_mem_cons.mpr ⟨PySem.W.mg_of X G aC_BadPaper, (List.forall_mem_cons.mpr ⟨PySem.W.mg_of X G aC_NoName, (List.forall_mem_cons.mpr ⟨PySem.W.mg_of X G aC_TooGreat, (List.forall_mem_cons.mpr ⟨PySem.W.mg_of X G aC_BadText, fun _ h => absurd h List.not_mem_nil⟩)⟩)⟩)⟩)⟩)⟩)⟩)⟩)⟩)⟩)⟩)⟩) teK_BadHand,
    tb_ValueError := tb_of tbK_ValueError,
    te_ValueError := te_of (ans := fun t => PySem.W.kitOne K t (.type "ValueError")) [("HandError", C_HandError, true), ("BadDeeds", C_BadDeeds, true), ("BadHand", C_BadHand, true), ("BadHouse", C_BadHouse, true), ("BadMachine", C_BadMachine, true), ("BadNode", C_BadNode, true), ("BadRow", C_BadRow, true), ("BadWay", C_BadWay, true), ("BadPaper", C_BadPaper, true), ("NoName", C_NoName, true), ("TooGreat", C_TooGreat, true), ("BadText", C_BadText, true)] (List.forall_mem_cons.mpr ⟨PySem.W.mg_of X G aC_HandError, (List.forall_mem_cons.mpr ⟨PySem.W.mg_of X G aC_BadDeeds, (List.forall_mem_cons.mpr ⟨PySem.W.mg_of X G aC_BadHand, (List.forall_mem_cons.mpr ⟨PySem.W.mg_of X G aC_BadHouse, (List.forall_mem_cons.mpr ⟨PySem.W.mg_of X G aC_BadMachine, (List.forall_mem_cons.mpr ⟨PySem.W.mg_of X G aC_BadNode, (List.forall_mem_cons.mpr ⟨PySem.W.mg_of X G aC_BadRow, (List.forall_mem_cons.mpr ⟨PySem.W.mg_of X G aC_BadWay, (List.forall_mem_cons.mpr ⟨PySem.W.mg_of X G aC_BadPaper, (List.forall_mem_cons.mpr ⟨PySem.W.mg_of X G aC_NoName, (List.forall_mem_cons.mpr ⟨PySem.W.mg_of X G aC_TooGreat, (List.forall_mem_cons.mpr ⟨PySem.W.mg_of X G aC_BadText, fun _ h => absurd h List.not_mem_nil⟩)⟩)⟩)⟩)⟩)⟩)⟩)⟩)⟩)⟩)⟩)⟩) teK_ValueError,
    c_MOST_LETTERS := ⟨_, PySem.W.mg_of X G aK_MOST_LETTERS, fK_MOST_LETTERS⟩,
    c_BARS := ⟨_, PySem.W.mg_of X G aK_BARS, fK_BARS⟩,
    c_LETTERS := ⟨_, PySem.W.mg_of X G aK_LETTERS, fK_LETTERS⟩,
    c_MOST_DEEDS := ⟨_, PySem.W.mg_of X G aK_MOST_DEEDS, fK_MOST_DEEDS⟩,
    c_LONG_forms := ⟨_, PySem.W.mg_of X G aK_LONG_forms, ⟨_, _, lK_LONG_forms, wK_LONG_forms, eK_LONG_forms, mK_LONG_forms⟩⟩,
    c_MOST_SIZE := ⟨_, PySem.W.mg_of X G aK_MOST_SIZE, fK_MOST_SIZE⟩,
    c_MOST_DEEP := ⟨_, PySem.W.mg_of X G aK_MOST_DEEP, fK_MOST_DEEP⟩,
    c_LONG_surroundings := ⟨_, PySem.W.mg_of X G aK_LONG_surroundings, ⟨_, _, lK_LONG_surroundings, wK_LONG_surroundings, eK_LONG_surroundings, mK_LONG_surroundings⟩⟩,
    c_MOST_STEPS := ⟨_, PySem.W.mg_of X G aK_MOST_STEPS, fK_MOST_STEPS⟩,
    r_BadHand := ⟨_, PySem.W.mg_of X G aC_BadHand, qC_BadHand, kC_BadHand, sR_BadHand, tR_BadHand⟩,
    e_HandError := ⟨_, PySem.W.mg_of X G aC_HandError, exm_of [("HandError", C_HandError, true), ("BadDeeds", C_BadDeeds, true), ("BadHand", C_BadHand, true), ("BadHouse", C_BadHouse, true), ("BadMachine", C_BadMachine, true), ("BadNode", C_BadNode, true), ("BadRow", C_BadRow, true), ("BadWay", C_BadWay, true), ("BadPaper", C_BadPaper, true), ("NoName", C_NoName, true), ("TooGreat", C_TooGreat, true), ("BadText", C_BadText, true)] (List.forall_mem_cons.mpr ⟨PySem.W.mg_of X G aC_HandError, (List.forall_mem_cons.mpr ⟨PySem.W.mg_of X G aC_BadDeeds, (List.forall_mem_cons.mpr ⟨PySem.W.mg_of X G aC_BadHand, (List.forall_mem_cons.mpr ⟨PySem.W.mg_of X G aC_BadHouse, (List.forall_mem_cons.mpr ⟨PySem.W.mg_of X G aC_BadMachine, (List.forall_mem_cons.mpr ⟨PySem.W.mg_of X G aC_BadNode, (List.forall_mem_cons.mpr ⟨PySem.W.mg_of X G aC_BadRow, (List.forall_mem_cons.mpr ⟨PySem.W.mg_of X G aC_BadWay, (List.forall_mem_cons.mpr ⟨PySem.W.mg_of X G aC_BadPaper, (List.forall_mem_cons.mpr ⟨PySem.W.mg_of X G aC_NoName, (List.forall_mem_cons.mpr ⟨PySem.W.mg_of X G aC_TooGreat, (List.forall_mem_cons.mpr ⟨PySem.W.mg_of X G aC_BadText, fun _ h => absurd h List.not_mem_nil⟩)⟩)⟩)⟩)⟩)⟩)⟩)⟩)⟩)⟩)⟩)⟩) eE_HandError⟩ }
  have hb : ∀ (i : Nat) (d : DefI), DL[i]? = some d → BodyG l.prog w K mg base DL d := fun i d hd => by
    match i, hd with
    | 0, hd => cases hd; exact ok_0 M
    | 1, hd => cases hd; exact ok_1 M
    | 2, hd => cases hd; exact ok_2 M
    | 3, hd => cases hd; exact ok_3 M
    | 4, hd => cases hd; exact ok_4 M
    | 5, hd => cases hd; exact ok_5 M
    | 6, hd => cases hd; exact ok_6 M
    | 7, hd => cases hd; exact ok_7 M
    | 8, hd => cases hd; exact ok_8 M
    | 9, hd => cases hd; exact ok_9 M
    | 10, hd => cases hd; exact ok_10 M
    | 11, hd => cases hd; exact ok_11 M
    | 12, hd => cases hd; exact ok_12 M
    | 13, hd => cases hd; exact ok_13 M
    | 14, hd => cases hd; exact ok_14 M
    | 15, hd => cases hd; exact ok_15 M
    | 16, hd => cases hd; exact ok_16 M
    | 17, hd => cases hd; exact ok_17 M
    | 18, hd => cases hd; exact ok_18 M
    | 19, hd => cases hd; exact ok_19 M
    | 20, hd => cases hd; exact ok_20 M
    | 21, hd => cases hd; exact ok_21 M
    | 22, hd => cases hd; exact ok_22 M
    | 23, hd => cases hd; exact ok_23 M
    | 24, hd => cases hd; exact ok_24 M
    | 25, hd => cases hd; exact ok_25 M
    | 26, hd => cases hd; exact ok_26 M
    | 27, hd => cases hd; exact ok_27 M
    | 28, hd => cases hd; exact ok_28 M
    | i + 29, hd => simp [DL] at hd
  have C := all_okG (P := l.prog) (w := w) (base := base) hh hb 12
  exact fnDG F_28 sc_28 fun cdv A outer s H E hgd hr => ok_28 M 15 _ (by decide) C _ cdv A outer s H E hgd hr
theorem e_is_word (n : Nat) : PhiN DL (n + 1) 0 = runB 2 (PL.B_is_word) := funext fun ds => phi_0 n ds
theorem e_is_row (n : Nat) : PhiN DL (n + 1) 1 = runB 2 (PL.B_is_row (PhiN DL n 0)) := funext fun ds => phi_1 n ds
theorem e_is_rising (n : Nat) : PhiN DL (n + 1) 2 = runB 3 (PL.B_is_rising) := funext fun ds => phi_2 n ds
theorem e_is_set (n : Nat) : PhiN DL (n + 1) 3 = runB 1 (PL.B_is_set (PhiN DL n 1) (PhiN DL n 2)) := funext fun ds => phi_3 n ds
theorem e_is_pairs (n : Nat) : PhiN DL (n + 1) 4 = runB 3 (PL.B_is_pairs (PhiN DL n 0) (PhiN DL n 2)) := funext fun ds => phi_4 n ds
theorem e_is_form (n : Nat) : PhiN DL (n + 1) 5 = runB 1 (PL.B_is_form (PhiN DL n 0) (PhiN DL n 3) (PhiN DL n 4)) := funext fun ds => phi_5 n ds
theorem e_beneath (n : Nat) : PhiN DL (n + 1) 6 = runB 1 (PL.B_beneath) := funext fun ds => phi_6 n ds
theorem e_is_hand (n : Nat) : PhiN DL (n + 1) 7 = runB 6 (PL.B_is_hand (PhiN DL n 5) (PhiN DL n 6)) := funext fun ds => phi_7 n ds
theorem e_need_hand (n : Nat) : PhiN DL (n + 1) 8 = runB 1 (PL.B_need_hand (PhiN DL n 7)) := funext fun ds => phi_8 n ds
theorem e_is_step (n : Nat) : PhiN DL (n + 1) 9 = runB 1 (PL.B_is_step (PhiN DL n 0) (PhiN DL n 7) (PhiN DL n 4) (PhiN DL n 3)) := funext fun ds => phi_9 n ds
theorem e_need_surroundings (n : Nat) : PhiN DL (n + 1) 10 = runB 2 (PL.B_need_surroundings (PhiN DL n 9)) := funext fun ds => phi_10 n ds
theorem e_put_one (n : Nat) : PhiN DL (n + 1) 11 = runB 2 (PL.B_put_one) := funext fun ds => phi_11 n ds
theorem e_put_round (n : Nat) : PhiN DL (n + 1) 12 = runB 3 (PL.B_put_round (PhiN DL n 8) (PhiN DL n 10) (PhiN DL n 11)) := funext fun ds => phi_12 n ds
theorem e__law_mixed (n : Nat) : PhiN DL (n + 1) 13 = runB 3 (PL.B__law_mixed) := funext fun ds => phi_13 n ds
theorem e__law_folded (n : Nat) : PhiN DL (n + 1) 14 = runB 4 (PL.B__law_folded) := funext fun ds => phi_14 n ds
theorem e__law_draw (n : Nat) : PhiN DL (n + 1) 15 = runB 5 (PL.B__law_draw (PhiN DL n 13)) := funext fun ds => phi_15 n ds
theorem e__law_begun (n : Nat) : PhiN DL (n + 1) 16 = runB 3 (PL.B__law_begun (PhiN DL n 14)) := funext fun ds => phi_16 n ds
theorem e__law_words (n : Nat) : PhiN DL (n + 1) 17 = runB 15 (PL.B__law_words (PhiN DL n 15)) := funext fun ds => phi_17 n ds
theorem e__law_set (n : Nat) : PhiN DL (n + 1) 18 = runB 3 (PL.B__law_set (PhiN DL n 15)) := funext fun ds => phi_18 n ds
theorem e__law_pairs (n : Nat) : PhiN DL (n + 1) 19 = runB 4 (PL.B__law_pairs (PhiN DL n 15)) := funext fun ds => phi_19 n ds
theorem e__law_hand (n : Nat) : PhiN DL (n + 1) 20 = runB 7 (PL.B__law_hand (PhiN DL n 15) (PhiN DL n 20) (PhiN DL n 18) (PhiN DL n 19)) := funext fun ds => phi_20 n ds
theorem e__law_step (n : Nat) : PhiN DL (n + 1) 21 = runB 5 (PL.B__law_step (PhiN DL n 15) (PhiN DL n 18) (PhiN DL n 19) (PhiN DL n 20)) := funext fun ds => phi_21 n ds
theorem e__law_put (n : Nat) : PhiN DL (n + 1) 22 = runB 3 (PL.B__law_put) := funext fun ds => phi_22 n ds
theorem e__law_is_other (n : Nat) : PhiN DL (n + 1) 23 = runB 1 (PL.B__law_is_other) := funext fun ds => phi_23 n ds
theorem e__law_said (n : Nat) : PhiN DL (n + 1) 24 = runB 6 (PL.B__law_said (PhiN DL n 12) (PhiN DL n 23)) := funext fun ds => phi_24 n ds
theorem e__law_chain (n : Nat) : PhiN DL (n + 1) 25 = runB 3 (PL.B__law_chain) := funext fun ds => phi_25 n ds
theorem e__law_bush (n : Nat) : PhiN DL (n + 1) 26 = runB 1 (PL.B__law_bush (PhiN DL n 26)) := funext fun ds => phi_26 n ds
theorem e__law_bounds_right (n : Nat) : PhiN DL (n + 1) 27 = runB 7 (PL.B__law_bounds_right (PhiN DL n 15) (PhiN DL n 24) (PhiN DL n 25) (PhiN DL n 22) (PhiN DL n 26)) := funext fun ds => phi_27 n ds
theorem l_word (n : Nat) : ∀ d, PL.kn1 d = true → PhiN DL (n + 1) 0 [d] = .ok (.bl (PL.isWD d)) [d] := fun d h => by
  rw [e_is_word]; exact PL.word_run h
theorem l_row (n : Nat) : ∀ ws : List Str, ws.all PL.isW = true → ws.length ≤ 1000000 → PhiN DL (n + 2) 1 [.tup (ws.map .str)] = .ok (.bl true) [.tup (ws.map .str)] := fun ws h hl => by
  rw [e_is_row]; exact PL.row_run (l_word n) h hl
theorem l_rising_t (n : Nat) : ∀ xs : List Str, xs.length ≤ 16777216 → PhiN DL (n + 1) 2 [.tup (xs.map .str)] = .ok (.bl (PL.risingB xs)) [.tup (xs.map .str)] := fun xs h => by
  rw [e_is_rising]; exact PL.rising_t h
theorem l_rising_l (n : Nat) : ∀ xs : List Str, xs.length ≤ 16777216 → PhiN DL (n + 1) 2 [.lst true (xs.map .str)] = .ok (.bl (PL.risingB xs)) [.lst true (xs.map .str)] := fun xs h => by
  rw [e_is_rising]; exact PL.rising_l h
theorem l_set (n : Nat) : ∀ S, PL.okSet S = true → PhiN DL (n + 3) 3 [PL.setD' S] = .ok (.bl true) [PL.setD' S] := fun S h => by
  rw [e_is_set]; exact PL.set_run (l_row n) (l_rising_t (n + 1)) h
theorem l_pairs (n : Nat) : ∀ P, PL.okPairs P = true → PhiN DL (n + 2) 4 [PL.pairsD P] = .ok (.bl true) [PL.pairsD P] := fun S h => by
  rw [e_is_pairs]; exact PL.pairs_run (l_word n) (l_rising_l n) h
theorem l_form (n : Nat) : ∀ h : PL.Hd, h.good = true → PhiN DL (n + 4) 5 [h.toD] = .ok (.bl true) [h.toD] := fun h g => by
  rw [e_is_form]; exact PL.form_run (l_word (n + 2)) (l_set n) (l_pairs (n + 1)) g
theorem l_beneath (n : Nat) : ∀ h : PL.Hd, PhiN DL (n + 1) 6 [h.toD] = .ok (.lst true (h.subs.map PL.Hd.toD)) [h.toD] := fun h => by
  rw [e_beneath]; exact PL.beneath_run
theorem l_hand (n : Nat) : ∀ h : PL.Hd, h.good = true → h.size < 100000 → PhiN DL (n + 5) 7 [h.toD] = .ok (.bl (PL.isH h)) [h.toD] := fun h g hs => by
  rw [e_is_hand]; exact PL.hand_run (l_form n) (l_beneath (n + 3)) g hs
theorem l_need (n : Nat) : ∀ h : PL.Hd, h.good = true → h.size < 100000 → PhiN DL (n + 6) 8 [h.toD] = if PL.isH h = true then .ok .non [h.toD] else .exc "BadHand" [] [h.toD] := fun h g hs => by
  rw [e_need_hand]; exact PL.need_run h.own (l_hand n h g hs)
theorem l_step (n : Nat) : ∀ s : PL.St, s.good = true → PhiN DL (n + 6) 9 [s.toD] = .ok (.bl true) [s.toD] := fun s g => by
  rw [e_is_step]; exact PL.step_run (l_word (n + 4)) (l_hand n) (l_set (n + 2)) (l_pairs (n + 3)) g
theorem l_surr (n : Nat) : ∀ ss : List PL.St, (∀ s ∈ ss, s.good = true) → ss.length ≤ 10 → PhiN DL (n + 7) 10 [PL.stepsD ss] = .ok .non [PL.stepsD ss] := fun ss g hl => by
  rw [e_need_surroundings]; exact PL.surr_run (l_step n) g hl
theorem l_one (n : Nat) : ∀ (h : PL.Hd) (s : PL.St), PhiN DL (n + 1) 11 [h.toD, s.toD] = .ok (s.on h).toD [h.toD, s.toD] := fun h s => by
  rw [e_put_one]; exact PL.one_run
theorem l_mixed (n : Nat) : PL.MixOk (PhiN DL (n + 1) 13) := by rw [e__law_mixed]; exact PL.mixed_run
theorem l_draw (n : Nat) : PL.DrawOk (PhiN DL (n + 2) 15) := by rw [e__law_draw]; exact PL.draw_run (l_mixed n)
theorem l_folded (n : Nat) : ∀ ns : List Int, ∃ cells : List Int, cells.length = 64 ∧ PhiN DL (n + 1) 14 [scriptD ns] = .ok (.lst true (cells.map .int)) [scriptD ns] := by rw [e__law_folded]; exact PL.folded_run
theorem l_begun (n : Nat) : ∀ ns : List Int, ns.length ≤ 63 → ∃ d, PhiN DL (n + 2) 16 [scriptD ns] = .ok d [scriptD ns] ∧ PL.Ms 1000000000 d := by rw [e__law_begun]; exact PL.begun_run (l_folded n)
theorem l_words (n : Nat) : PL.WordsOk (PhiN DL (n + 3) 17) := by rw [e__law_words]; exact fun k N d hN hM => PL.words_run (l_draw n) hN hM
theorem l_dset (n : Nat) : PL.SetOk (PhiN DL (n + 3) 18) := by rw [e__law_set]; exact PL.set_gen (l_draw n)
theorem l_dpairs (n : Nat) : PL.PairsOk (PhiN DL (n + 3) 19) := by rw [e__law_pairs]; exact PL.pairs_gen (l_draw n)
theorem l_dhand : ∀ (dp n : Nat), 1 ≤ dp → PL.HandOk (PhiN DL (n + 3 + dp) 20) dp
  | 0, _, h => absurd h (by decide)
  | dp + 1, n, _ => by
    have q1 := l_draw (n + 1 + dp)
    have q2 := l_dset (n + dp)
    have q3 := l_dpairs (n + dp)
    rw [show n + 1 + dp + 2 = n + 3 + dp by omega] at q1
    rw [show n + dp + 3 = n + 3 + dp by omega] at q2 q3
    rw [show n + 3 + (dp + 1) = n + 3 + dp + 1 by omega, e__law_hand]
    exact PL.hand_gen q1 q2 q3 (by omega) fun k e h1 => by
      obtain rfl : dp = k := by omega
      exact l_dhand dp n h1

theorem l_dstep (n : Nat) : PL.StepOk (PhiN DL (n + 7) 21) := by rw [e__law_step]; exact PL.step_gen (l_draw (n + 4)) (l_dset (n + 3)) (l_dpairs (n + 3)) (l_dhand 3 n (by decide))
theorem l_put (n : Nat) : PL.PutOk (PhiN DL (n + 1) 22) := by rw [e__law_put]; exact fun h ss => PL.lput_run
theorem l_other (n : Nat) : PhiN DL (n + 1) 23 [.exc "BadHand" []] = .ok (.bl false) [.exc "BadHand" []] := by rw [e__law_is_other]; exact PL.other_hand
theorem l_said (n : Nat) : PL.SaidOk (PhiN DL (n + 9) 24) := by rw [e__law_said]; exact PL.said_gen (fr := PhiN DL (n + 8) 12) (fo := PhiN DL (n + 8) 23) (fn := PhiN DL (n + 7) 8) (fs := PhiN DL (n + 7) 10) (fp := PhiN DL (n + 7) 11) (e_put_round (n + 7)) (l_need (n + 1)) (l_one (n + 6)) (l_surr n) (l_other (n + 7))
theorem l_chain (n : Nat) : PL.ChainOk (PhiN DL (n + 1) 25) := by rw [e__law_chain]; exact PL.chain_run
theorem l_bush : ∀ (k m : Nat), m ≤ 2 ^ k → PhiN DL (k + 1) 26 [.int (m : Nat)] = .ok (PL.bushF k m).toD [.int (m : Nat)]
  | 0, m, h => by
    have : m = 0 ∨ m = 1 := by omega
    rcases this with rfl | rfl <;> kernel_rfl
  | k + 1, m, h => by
    rw [e__law_bush]
    exact PL.bush_run (k := k) (fun m hm => l_bush k m hm) h
theorem l_bounds : ∀ (n : Nat) (m : D), PL.Ms (n + 3) m → ∃ m', PhiN DL 12 27 [m] = .ok (.bl true) [m'] := fun n m hM => by
  rw [e__law_bounds_right 11]
  exact PL.bounds_run (l_draw 9) (l_said 2) (l_chain 10) (l_put 10) (l_bush 10 100 (by decide)) hM
theorem law_eq (Φ : Ph) : b_28 Φ = PL.law80 (Φ 16) (Φ 17) (Φ 15) (Φ 20) (Φ 21) (Φ 22) (Φ 10) (Φ 24) (Φ 27) := rfl
theorem law_true : ∀ ns : List Int, ns.length ≤ 63 → ∃ fin, runB 11 (b_28 (PhiN DL 12)) [scriptD ns] = .ok (.bl true) fin := fun ns h => by
  rw [law_eq]
  refine PL.law80_run (l_begun 10) (l_words 9) (l_draw 10) (fun dp h1 h2 => ?_) (l_dstep 5) (l_put 11) (l_surr 5) (l_said 3) l_bounds ns h
  have := l_dhand dp (9 - dp) (by omega)
  rwa [show 9 - dp + 3 + dp = 12 by omega] at this
theorem walk {l : PySem.W.OpenLaw} {q : Program} {loose : List Str} {XP : (Str → Option Value) → Heap → Prop} {YP : World → Heap → Prop} {d : DefRec} {K : Params → PySem.W.Frag} (hn : l.most = some 63) (hdf : d.params.defaults = [])
    (hlaw : ∀ ns : List Int, ns.length ≤ 63 → ∃ fin, runB 11 (b_28 (PhiN DL 12)) [scriptD ns] = .ok (.bl true) fin)
    (hY : ∀ (w : World) (h : Heap), YP w h → (K w.params).In h)
    (F : ∀ (w : World) (mg : Str → Option Value) (fa : Addr) (h : Heap), (K w.params).In h → h.Ns mainGlobals mg → mg d.name = some (.ref fa) →
      ∃ fd : FuncData, (∀ (s : Shared) (u : Value), BindsTo s fd ⟨[u], []⟩ [("_law_script", u)]) ∧ ∀ base : Heap, (K w.params).In base → base.Ns mainGlobals mg → FnG l.prog w (K w.params) mg base (L2.CX l.prog w) 16 fa fd ["_law_script"] (spOf (K w.params) mg 1 (runB 11 (b_28 (PhiN DL 12))))) :
    PySem.W.WalkO q loose XP YP l.row.toRowW d [] (fun f vs => PySem.call f vs) :=
  walk_ofG (n := 63) (k := 16) (x := "_law_script") (CX := fun w => L2.CX l.prog w) (sp := fun w => spLaw (K w.params)) hn (by decide) hdf ⟨rfl, by decide, by decide⟩ hY (fun w mg fa h a b c => by
    obtain ⟨fd, h1, h2⟩ := F w mg fa h a b c
    exact ⟨fd, h1, fun base i j => (h2 base i j).weak (law_sp hlaw)⟩) (fun _ _ a ns hl _ _ hS => ⟨a, ns, rfl, hS, hl, fun _ => rfl⟩) fun _ H s e t => cx_no H s e t
end LW
open PySem PySem.W PyProof.Rows
set_option maxRecDepth 100000 in
set_option maxHeartbeats 0 in
theorem PySem.Challenge.cw_standhouse_k80_steps_put_round_holds : PySem.Challenge.rw_standhouse_k80_steps_put_round.Holds := by
  w_on; o_law; k_head; (case hw => w_witness2)
  k_fill
  refine LW.walk (l := PySem.Challenge.rw_standhouse_k80_steps_put_round) rfl rfl LW.law_true (fun w h Y => PySem.W.kIn_of Y) ?F
  case F =>
    intro w mg fa h KX G hmg
    refine' LW.all_mk KX G hmg ?aC_HandError ?aC_BadDeeds ?aC_BadHand ?aC_BadHouse ?aC_BadMachine ?aC_BadNode ?aC_BadRow ?aC_BadWay ?aC_BadPaper ?aC_NoName ?aC_TooGreat ?aC_BadText ?a_0 ?l_0 ?c_0 ?k_0 ?a_1 ?l_1 ?c_1 ?k_1 ?a_2 ?l_2 ?c_2 ?k_2 ?a_3 ?l_3 ?c_3 ?k_3 ?a_4 ?l_4 ?c_4 ?k_4 ?a_5 ?l_5 ?c_5 ?k_5 ?a_6 ?l_6 ?c_6 ?k_6 ?a_7 ?l_7 ?c_7 ?k_7 ?a_8 ?l_8 ?c_8 ?k_8 ?a_9 ?l_9 ?c_9 ?k_9 ?a_10 ?l_10 ?c_10 ?k_10 ?a_11 ?l_11 ?c_11 ?k_11 ?a_12 ?l_12 ?c_12 ?k_12 ?a_13 ?l_13 ?c_13 ?k_13 ?a_14 ?l_14 ?c_14 ?k_14 ?a_15 ?l_15 ?c_15 ?k_15 ?a_16 ?l_16 ?c_16 ?k_16 ?a_17 ?l_17 ?c_17 ?k_17 ?a_18 ?l_18 ?c_18 ?k_18 ?a_19 ?l_19 ?c_19 ?k_19 ?a_20 ?l_20 ?c_20 ?k_20 ?a_21 ?l_21 ?c_21 ?k_21 ?a_22 ?l_22 ?c_22 ?k_22 ?a_23 ?l_23 ?c_23 ?k_23 ?a_24 ?l_24 ?c_24 ?k_24 ?a_25 ?l_25 ?c_25 ?k_25 ?a_26 ?l_26 ?c_26 ?k_26 ?a_27 ?l_27 ?c_27 ?k_27 ?a_28 ?l_28 ?c_28 ?k_28 ?kC_HandError ?qC_HandError ?kC_BadDeeds ?qC_BadDeeds ?kC_BadHand ?qC_BadHand ?kC_BadHouse ?qC_BadHouse ?kC_BadMachine ?qC_BadMachine ?kC_BadNode ?qC_BadNode ?kC_BadRow ?qC_BadRow ?kC_BadWay ?qC_BadWay ?kC_BadPaper ?qC_BadPaper ?kC_NoName ?qC_NoName ?kC_TooGreat ?qC_TooGreat ?kC_BadText ?aK_MOST_LETTERS ?fK_MOST_LETTERS ?aK_BARS ?fK_BARS ?aK_LETTERS ?fK_LETTERS ?aK_MOST_DEEDS ?fK_MOST_DEEDS ?aK_LONG_forms ?lK_LONG_forms ?wK_LONG_forms ?eK_LONG_forms ?mK_LONG_forms ?aK_MOST_SIZE ?fK_MOST_SIZE ?aK_MOST_DEEP ?fK_MOST_DEEP ?aK_LONG_surroundings ?lK_LONG_surroundings ?wK_LONG_surroundings ?eK_LONG_surroundings ?mK_LONG_surroundings ?aK_MOST_STEPS ?fK_MOST_STEPS ?sR_BadHand ?tR_BadHand ?eE_HandError ?z_ValueError ?z_all ?z_enumerate ?z_isinstance ?z_len ?z_range ?z_repr ?z_sorted ?z_str ?z_tuple ?z_zip ?tbK_str ?teK_str ?tbK_tuple ?teK_tuple ?tbK_BadDeeds_BadHouse_BadMachine_BadNode_BadPaper ?teK_BadDeeds_BadHouse_BadMachine_BadNode_BadPaper ?tbK_BadRow_BadText_BadWay_NoName_TooGreat ?teK_BadRow_BadText_BadWay_NoName_TooGreat ?tbK_BadHand ?teK_BadHand ?tbK_ValueError ?teK_ValueError
    (case aC_HandError => k_is)
    (case aC_BadDeeds => k_is)
    (case aC_BadHand => k_is)
    (case aC_BadHouse => k_is)
    (case aC_BadMachine => k_is)
    (case aC_BadNode => k_is)
    (case aC_BadRow => k_is)
    (case aC_BadWay => k_is)
    (case aC_BadPaper => k_is)
    (case aC_NoName => k_is)
    (case aC_TooGreat => k_is)
    (case aC_BadText => k_is)
    (case a_0 => k_is)
    (case l_0 => k_is)
    (case c_0 => k_is)
    (case k_0 => k_is)
    (case a_1 => k_is)
    (case l_1 => k_is)
    (case c_1 => k_is)
    (case k_1 => k_is)
    (case a_2 => k_is)
    (case l_2 => k_is)
    (case c_2 => k_is)
    (case k_2 => k_is)
    (case a_3 => k_is)
    (case l_3 => k_is)
    (case c_3 => k_is)
    (case k_3 => k_is)
    (case a_4 => k_is)
    (case l_4 => k_is)
    (case c_4 => k_is)
    (case k_4 => k_is)
    (case a_5 => k_is)
    (case l_5 => k_is)
    (case c_5 => k_is)
    (case k_5 => k_is)
    (case a_6 => k_is)
    (case l_6 => k_is)
    (case c_6 => k_is)
    (case k_6 => k_is)
    (case a_7 => k_is)
    (case l_7 => k_is)
    (case c_7 => k_is)
    (case k_7 => k_is)
    (case a_8 => k_is)
    (case l_8 => k_is)
    (case c_8 => k_is)
    (case k_8 => k_is)
    (case a_9 => k_is)
    (case l_9 => k_is)
    (case c_9 => k_is)
    (case k_9 => k_is)
    (case a_10 => k_is)
    (case l_10 => k_is)
    (case c_10 => k_is)
    (case k_10 => k_is)
    (case a_11 => k_is)
    (case l_11 => k_is)
    (case c_11 => k_is)
    (case k_11 => k_is)
    (case a_12 => k_is)
    (case l_12 => k_is)
    (case c_12 => k_is)
    (case k_12 => k_is)
    (case a_13 => k_is)
    (case l_13 => k_is)
    (case c_13 => k_is)
    (case k_13 => k_is)
    (case a_14 => k_is)
    (case l_14 => k_is)
    (case c_14 => k_is)
    (case k_14 => k_is)
    (case a_15 => k_is)
    (case l_15 => k_is)
    (case c_15 => k_is)
    (case k_15 => k_is)
    (case a_16 => k_is)
    (case l_16 => k_is)
    (case c_16 => k_is)
    (case k_16 => k_is)
    (case a_17 => k_is)
    (case l_17 => k_is)
    (case c_17 => k_is)
    (case k_17 => k_is)
    (case a_18 => k_is)
    (case l_18 => k_is)
    (case c_18 => k_is)
    (case k_18 => k_is)
    (case a_19 => k_is)
    (case l_19 => k_is)
    (case c_19 => k_is)
    (case k_19 => k_is)
    (case a_20 => k_is)
    (case l_20 => k_is)
    (case c_20 => k_is)
    (case k_20 => k_is)
    (case a_21 => k_is)
    (case l_21 => k_is)
    (case c_21 => k_is)
    (case k_21 => k_is)
    (case a_22 => k_is)
    (case l_22 => k_is)
    (case c_22 => k_is)
    (case k_22 => k_is)
    (case a_23 => k_is)
    (case l_23 => k_is)
    (case c_23 => k_is)
    (case k_23 => k_is)
    (case a_24 => k_is)
    (case l_24 => k_is)
    (case c_24 => k_is)
    (case k_24 => k_is)
    (case a_25 => k_is)
    (case l_25 => k_is)
    (case c_25 => k_is)
    (case k_25 => k_is)
    (case a_26 => k_is)
    (case l_26 => k_is)
    (case c_26 => k_is)
    (case k_26 => k_is)
    (case a_27 => k_is)
    (case l_27 => k_is)
    (case c_27 => k_is)
    (case k_27 => k_is)
    (case a_28 => k_is)
    (case l_28 => k_is)
    (case c_28 => k_is)
    (case k_28 => k_is)
    (case kC_HandError => k_is)
    (case qC_HandError => kernel_rfl)
    (case kC_BadDeeds => k_is)
    (case qC_BadDeeds => kernel_rfl)
    (case kC_BadHand => k_is)
    (case qC_BadHand => kernel_rfl)
    (case kC_BadHouse => k_is)
    (case qC_BadHouse => kernel_rfl)
    (case kC_BadMachine => k_is)
    (case qC_BadMachine => kernel_rfl)
    (case kC_BadNode => k_is)
    (case qC_BadNode => kernel_rfl)
    (case kC_BadRow => k_is)
    (case qC_BadRow => kernel_rfl)
    (case kC_BadWay => k_is)
    (case qC_BadWay => kernel_rfl)
    (case kC_BadPaper => k_is)
    (case qC_BadPaper => kernel_rfl)
    (case kC_NoName => k_is)
    (case qC_NoName => kernel_rfl)
    (case kC_TooGreat => k_is)
    (case qC_TooGreat => kernel_rfl)
    (case kC_BadText => k_is)
    (case aK_MOST_LETTERS => k_is)
    (case fK_MOST_LETTERS => kernel_rfl)
    (case aK_BARS => k_is)
    (case fK_BARS => kernel_rfl)
    (case aK_LETTERS => k_is)
    (case fK_LETTERS => kernel_rfl)
    (case aK_MOST_DEEDS => k_is)
    (case fK_MOST_DEEDS => kernel_rfl)
    (case aK_LONG_forms => k_is)
    (case lK_LONG_forms => k_is)
    (case wK_LONG_forms => k_keys)
    (case eK_LONG_forms => kernel_rfl)
    (case mK_LONG_forms => decide)
    (case aK_MOST_SIZE => k_is)
    (case fK_MOST_SIZE => kernel_rfl)
    (case aK_MOST_DEEP => k_is)
    (case fK_MOST_DEEP => kernel_rfl)
    (case aK_LONG_surroundings => k_is)
    (case lK_LONG_surroundings => k_is)
    (case wK_LONG_surroundings => k_keys)
    (case eK_LONG_surroundings => kernel_rfl)
    (case mK_LONG_surroundings => decide)
    (case aK_MOST_STEPS => k_is)
    (case fK_MOST_STEPS => kernel_rfl)
    (case sR_BadHand => k_is)
    (case tR_BadHand => k_is)
    (case eE_HandError => kernel_rfl)
    (case z_ValueError => k_is)
    (case z_all => k_is)
    (case z_enumerate => k_is)
    (case z_isinstance => k_is)
    (case z_len => k_is)
    (case z_range => k_is)
    (case z_repr => k_is)
    (case z_sorted => k_is)
    (case z_str => k_is)
    (case z_tuple => k_is)
    (case z_zip => k_is)
    (case tbK_str => kernel_rfl)
    (case teK_str => kernel_rfl)
    (case tbK_tuple => kernel_rfl)
    (case teK_tuple => kernel_rfl)
    (case tbK_BadDeeds_BadHouse_BadMachine_BadNode_BadPaper => kernel_rfl)
    (case teK_BadDeeds_BadHouse_BadMachine_BadNode_BadPaper => kernel_rfl)
    (case tbK_BadRow_BadText_BadWay_NoName_TooGreat => kernel_rfl)
    (case teK_BadRow_BadText_BadWay_NoName_TooGreat => kernel_rfl)
    (case tbK_BadHand => kernel_rfl)
    (case teK_BadHand => kernel_rfl)
    (case tbK_ValueError => kernel_rfl)
    (case teK_ValueError => kernel_rfl)
#print axioms PySem.Challenge.cw_standhouse_k80_steps_put_round_holds
