import PyProof.Rows.All
import HandS.ForMost
import HandS.Exc
import HandS.ExcOwn
import HandS.WordsExc
import HandS.CallSlots
import HandS.Walk
import HandS.ExcCtx
import HandS.TryOnly
import HandS.Deep
import HandS.Wide
import HandS.TupMul
import HandS.TupAny
import HandS.IsInst
import HandS.Gcd
import HandS.SetFor
import HandS.Zip
import HandS.Style
import KE.GoesZip
import KE.GoesMore
import KE.GoesEnum
import HandS.AnyAll
import HandS.HotCalls
import HandS.ExcIs
import HandS.EndOwn
import PySem.Challenge.RW_docketloom_k62_whole_chances_of_records
import HandS.Text
set_option Elab.async false
set_option linter.all false
set_option maxRecDepth 100000
set_option maxHeartbeats 2000000
/-! Pd1: data by value, owned trees, and how slots, temporaries and the heap bear them. -/
namespace Pd
open PySem PySem.Spec PyProof.Rows L2

/-- data: what is never changed any more -/
inductive D where
  | non | bl (b : Bool) | int (i : Int) | str (x : Str)
  | tup (xs : List D) | lst (xs : List D) | fls (xs : List D)
  | exc (a : Addr)

mutual
def Rep (K : PySem.W.Frag) (B : Hp) : D → V → Prop
  | .non, v => v = .non
  | .bl b, v => v = .bl b
  | .int i, v => v = .int i
  | .str x, v => v = .str x
  | .tup xs, v => ∃ a vs, v = .ref a ∧ SqT K B a vs ∧ Reps K B xs vs
  | .lst xs, v => ∃ a vs, v = .ref a ∧ B a = some (.lst vs) ∧ Reps K B xs vs
  | .fls xs, v => ∃ a vs, v = .ref a ∧ SqL K B a vs ∧ Reps K B xs vs
  | .exc a, v => v = .ref a
def Reps (K : PySem.W.Frag) (B : Hp) : List D → List V → Prop
  | [], vs => vs = []
  | x :: xs, vs => ∃ v r, vs = v :: r ∧ Rep K B x v ∧ Reps K B xs r
end

theorem rd_same {B B' : Hp} (s : Same B B') {a : Addr} {u : HO} (h : Rd B a u) : Rd B' a u := by
  rcases h with h | ⟨o, h⟩
  · exact .inl (s _ _ h)
  · exact .inr ⟨o, s _ _ h⟩
theorem sqL_same {K : PySem.W.Frag} {B B' : Hp} (s : Same B B') {a : Addr} {xs : List V} (h : SqL K B a xs) : SqL K B' a xs := by
  rcases h with h | h
  · exact .inl (rd_same s h)
  · exact .inr h
theorem sqT_same {K : PySem.W.Frag} {B B' : Hp} (s : Same B B') {a : Addr} {xs : List V} (h : SqT K B a xs) : SqT K B' a xs := by
  rcases h with h | h
  · exact .inl (rd_same s h)
  · exact .inr h

mutual
theorem Rep.mono {K : PySem.W.Frag} {B B' : Hp} (s : Same B B') : ∀ {d : D} {v : V}, Rep K B d v → Rep K B' d v
  | .non, _, h => h
  | .bl _, _, h => h
  | .int _, _, h => h
  | .str _, _, h => h
  | .tup xs, _, ⟨a, vs, e, h, r⟩ => ⟨a, vs, e, sqT_same s h, Reps.mono s r⟩
  | .lst xs, _, ⟨a, vs, e, h, r⟩ => ⟨a, vs, e, s _ _ h, Reps.mono s r⟩
  | .fls xs, _, ⟨a, vs, e, h, r⟩ => ⟨a, vs, e, sqL_same s h, Reps.mono s r⟩
  | .exc _, _, h => h
theorem Reps.mono {K : PySem.W.Frag} {B B' : Hp} (s : Same B B') : ∀ {ds : List D} {vs : List V}, Reps K B ds vs → Reps K B' ds vs
  | [], _, h => h
  | d :: ds, _, ⟨v, r, e, h, t⟩ => ⟨v, r, e, Rep.mono s h, Reps.mono s t⟩
end
theorem Reps.length {K : PySem.W.Frag} {B : Hp} : ∀ {ds : List D} {vs : List V}, Reps K B ds vs → ds.length = vs.length
  | [], _, h => by
    have e : _ = [] := h
    rw [e]
    rfl
  | d :: ds, _, ⟨v, r, e, h, t⟩ => by
    rw [e, List.length_cons, List.length_cons, Reps.length t]
theorem Reps.get {K : PySem.W.Frag} {B : Hp} : ∀ {ds : List D} {vs : List V} {i : Nat} {d : D}, Reps K B ds vs → ds[i]? = some d → ∃ v, vs[i]? = some v ∧ Rep K B d v
  | [], _, _, _, _, e => by simp at e
  | d :: ds, _, 0, x, ⟨v, r, e, h, t⟩, q => by
    have q' : d = x := by simpa using q
    subst e q'
    exact ⟨v, rfl, h⟩
  | d :: ds, _, i + 1, x, ⟨v, r, e, h, t⟩, q => by
    subst e
    obtain ⟨u, h1, h2⟩ := Reps.get (i := i) t (by simpa using q)
    exact ⟨u, by simpa using h1, h2⟩
theorem Reps.getV {K : PySem.W.Frag} {B : Hp} : ∀ {ds : List D} {vs : List V} {i : Nat} {v : V}, Reps K B ds vs → vs[i]? = some v → ∃ d, ds[i]? = some d ∧ Rep K B d v
  | [], _, i, _, h, e => by
    have h' : _ = [] := h
    subst h'
    simp at e
  | d :: ds, _, 0, x, ⟨v, r, e, h, t⟩, q => by
    subst e
    have q' : v = x := by simpa using q
    subst q'
    exact ⟨d, rfl, h⟩
  | d :: ds, _, i + 1, x, ⟨v, r, e, h, t⟩, q => by
    subst e
    obtain ⟨u, h1, h2⟩ := Reps.getV (i := i) t (by simpa using q)
    exact ⟨u, by simpa using h1, h2⟩
theorem Reps.append {K : PySem.W.Frag} {B : Hp} : ∀ {ds es : List D} {vs us : List V}, Reps K B ds vs → Reps K B es us → Reps K B (ds ++ es) (vs ++ us)
  | [], _, _, _, h, h2 => by
    have e : _ = [] := h
    subst e
    exact h2
  | d :: ds, _, _, _, ⟨v, r, e, h, t⟩, h2 => by
    subst e
    exact ⟨v, r ++ _, rfl, h, Reps.append t h2⟩
theorem Reps.take {K : PySem.W.Frag} {B : Hp} : ∀ {ds : List D} {vs : List V} (n : Nat), Reps K B ds vs → Reps K B (ds.take n) (vs.take n)
  | [], _, n, h => by
    have e : _ = [] := h
    subst e
    simp [Reps]
  | d :: ds, _, 0, h => by simp [Reps]
  | d :: ds, _, n + 1, ⟨v, r, e, h, t⟩ => by
    subst e
    exact ⟨v, r.take n, rfl, h, Reps.take n t⟩
theorem Reps.drop {K : PySem.W.Frag} {B : Hp} : ∀ {ds : List D} {vs : List V} (n : Nat), Reps K B ds vs → Reps K B (ds.drop n) (vs.drop n)
  | [], _, n, h => by
    have e : _ = [] := h
    subst e
    simp [Reps]
  | d :: ds, _, 0, h => h
  | d :: ds, _, n + 1, ⟨v, r, e, h, t⟩ => by
    subst e
    exact Reps.drop n t
theorem Reps.set {K : PySem.W.Frag} {B : Hp} {d : D} {v : V} (hd : Rep K B d v) : ∀ {ds : List D} {vs : List V} (i : Nat), Reps K B ds vs → Reps K B (ds.set i d) (vs.set i v)
  | [], _, i, h => by
    have e : _ = [] := h
    subst e
    simp [Reps]
  | x :: ds, _, 0, ⟨u, r, e, h, t⟩ => by
    subst e
    exact ⟨v, r, rfl, hd, t⟩
  | x :: ds, _, n + 1, ⟨u, r, e, h, t⟩ => by
    subst e
    exact ⟨u, r.set n v, rfl, h, Reps.set hd n t⟩
theorem Reps.reverse {K : PySem.W.Frag} {B : Hp} : ∀ {ds : List D} {vs : List V}, Reps K B ds vs → Reps K B ds.reverse vs.reverse
  | [], _, h => by
    have e : _ = [] := h
    subst e
    simp [Reps]
  | x :: ds, _, ⟨u, r, e, h, t⟩ => by
    subst e
    rw [List.reverse_cons, List.reverse_cons]
    exact Reps.append (Reps.reverse t) ⟨u, [], rfl, h, rfl⟩
theorem Reps.one {K : PySem.W.Frag} {B : Hp} {d : D} {v : V} (h : Rep K B d v) : Reps K B [d] [v] := ⟨v, [], rfl, h, rfl⟩
theorem Reps.nil {K : PySem.W.Frag} {B : Hp} : Reps K B [] [] := rfl
theorem Reps.cons {K : PySem.W.Frag} {B : Hp} {d : D} {v : V} {ds : List D} {vs : List V} (h : Rep K B d v) (t : Reps K B ds vs) : Reps K B (d :: ds) (v :: vs) := ⟨v, vs, rfl, h, t⟩

/-! ### owned trees -/
inductive Rv where
  | val (d : D) | own (xs : List Rv) | tup (xs : List Rv)

mutual
def Rv.toD : Rv → D
  | .val d => d
  | .own xs => .lst (Rv.toDs xs)
  | .tup xs => .tup (Rv.toDs xs)
def Rv.toDs : List Rv → List D
  | [] => []
  | x :: xs => x.toD :: Rv.toDs xs
end
/-- all of them plain data -/
def flat : List Rv → Option (List D)
  | [] => some []
  | .val d :: r => (flat r).map (d :: ·)
  | _ :: _ => none
theorem flat_toDs : ∀ {xs : List Rv} {ds : List D}, flat xs = some ds → Rv.toDs xs = ds
  | [], _, h => by
    cases h
    rfl
  | .val d :: r, ds, h => by
    unfold flat at h
    cases q : flat r with
    | none => rw [q] at h; cases h
    | some es =>
      rw [q] at h
      cases h
      show d :: Rv.toDs r = d :: es
      rw [flat_toDs q]
  | .own _ :: _, _, h => by cases h
  | .tup _ :: _, _, h => by cases h
theorem flat_map : ∀ ds : List D, flat (ds.map Rv.val) = some ds
  | [] => rfl
  | d :: ds => by
    show (flat (ds.map Rv.val)).map (d :: ·) = _
    rw [flat_map ds]
    rfl

mutual
def RvR (K : PySem.W.Frag) (B H : Hp) : Rv → V → List Addr → Prop
  | .val d, v, as => as = [] ∧ Rep K B d v
  | .own xs, v, as => ∃ l vs ass, v = .ref l ∧ H l = some (.lst vs) ∧ B l = none ∧ RvRs K B H xs vs ass ∧ as = l :: ass
  | .tup xs, v, as => ∃ l vs ass, v = .ref l ∧ H l = some (.tup vs) ∧ B l = none ∧ RvRs K B H xs vs ass ∧ as = l :: ass
def RvRs (K : PySem.W.Frag) (B H : Hp) : List Rv → List V → List Addr → Prop
  | [], vs, as => vs = [] ∧ as = []
  | x :: xs, vs, as => ∃ v r a1 a2, vs = v :: r ∧ as = a1 ++ a2 ∧ RvR K B H x v a1 ∧ RvRs K B H xs r a2
end
mutual
theorem RvR.frame {K : PySem.W.Frag} {B B' H H' : Hp} (s : Same B B') : ∀ {r : Rv} {v : V} {as : List Addr}, RvR K B H r v as → (∀ l ∈ as, H' l = H l) → (∀ l ∈ as, B' l = none) → RvR K B' H' r v as
  | .val d, _, _, ⟨e, h⟩, _, _ => ⟨e, h.mono s⟩
  | .own xs, _, _, ⟨l, vs, ass, e, h, b, t, ea⟩, k1, k2 => by
    subst ea
    exact ⟨l, vs, ass, e, (k1 l List.mem_cons_self).trans h, k2 l List.mem_cons_self, RvRs.frame s t (fun x hx => k1 x (List.mem_cons_of_mem _ hx)) (fun x hx => k2 x (List.mem_cons_of_mem _ hx)), rfl⟩
  | .tup xs, _, _, ⟨l, vs, ass, e, h, b, t, ea⟩, k1, k2 => by
    subst ea
    exact ⟨l, vs, ass, e, (k1 l List.mem_cons_self).trans h, k2 l List.mem_cons_self, RvRs.frame s t (fun x hx => k1 x (List.mem_cons_of_mem _ hx)) (fun x hx => k2 x (List.mem_cons_of_mem _ hx)), rfl⟩
theorem RvRs.frame {K : PySem.W.Frag} {B B' H H' : Hp} (s : Same B B') : ∀ {xs : List Rv} {vs : List V} {as : List Addr}, RvRs K B H xs vs as → (∀ l ∈ as, H' l = H l) → (∀ l ∈ as, B' l = none) → RvRs K B' H' xs vs as
  | [], _, _, h, _, _ => h
  | x :: xs, _, _, ⟨v, r, a1, a2, e1, e2, h, t⟩, k1, k2 => by
    subst e2
    exact ⟨v, r, a1, a2, e1, rfl, RvR.frame s h (fun l hl => k1 l (List.mem_append_left _ hl)) (fun l hl => k2 l (List.mem_append_left _ hl)), RvRs.frame s t (fun l hl => k1 l (List.mem_append_right _ hl)) (fun l hl => k2 l (List.mem_append_right _ hl))⟩
end
mutual
theorem RvR.live {K : PySem.W.Frag} {B H : Hp} : ∀ {r : Rv} {v : V} {as : List Addr}, RvR K B H r v as → ∀ l ∈ as, H l ≠ none ∧ B l = none
  | .val d, _, _, ⟨e, _⟩, l, hl => by
    subst e
    cases hl
  | .own xs, _, _, ⟨p, vs, ass, e, h, b, t, ea⟩, l, hl => by
    subst ea
    rcases List.mem_cons.mp hl with z | z
    · rw [z]
      exact ⟨by rw [h]; simp, b⟩
    · exact RvRs.live t l z
  | .tup xs, _, _, ⟨p, vs, ass, e, h, b, t, ea⟩, l, hl => by
    subst ea
    rcases List.mem_cons.mp hl with z | z
    · rw [z]
      exact ⟨by rw [h]; simp, b⟩
    · exact RvRs.live t l z
theorem RvRs.live {K : PySem.W.Frag} {B H : Hp} : ∀ {xs : List Rv} {vs : List V} {as : List Addr}, RvRs K B H xs vs as → ∀ l ∈ as, H l ≠ none ∧ B l = none
  | [], _, _, h, l, hl => by
    rw [h.2] at hl
    cases hl
  | x :: xs, _, _, ⟨v, r, a1, a2, e1, e2, h, t⟩, l, hl => by
    subst e2
    rcases List.mem_append.mp hl with z | z
    · exact RvR.live h l z
    · exact RvRs.live t l z
end
mutual
theorem RvR.nt {K : PySem.W.Frag} {B H : Hp} : ∀ {r : Rv} {v : V} {as : List Addr}, RvR K B H r v as → ∀ l ∈ as, ∀ ps, H l ≠ some (.tbl ps)
  | .val d, _, _, ⟨e, _⟩, l, hl, _ => by
    subst e
    cases hl
  | .own xs, _, _, ⟨p, vs, ass, e, h, b, t, ea⟩, l, hl, ps => by
    subst ea
    rcases List.mem_cons.mp hl with z | z
    · rw [z, h]
      intro y
      cases y
    · exact RvRs.nt t l z ps
  | .tup xs, _, _, ⟨p, vs, ass, e, h, b, t, ea⟩, l, hl, ps => by
    subst ea
    rcases List.mem_cons.mp hl with z | z
    · rw [z, h]
      intro y
      cases y
    · exact RvRs.nt t l z ps
theorem RvRs.nt {K : PySem.W.Frag} {B H : Hp} : ∀ {xs : List Rv} {vs : List V} {as : List Addr}, RvRs K B H xs vs as → ∀ l ∈ as, ∀ ps, H l ≠ some (.tbl ps)
  | [], _, _, h, l, hl, _ => by
    rw [h.2] at hl
    cases hl
  | x :: xs, _, _, ⟨v, r, a1, a2, e1, e2, h, t⟩, l, hl, ps => by
    subst e2
    rcases List.mem_append.mp hl with z | z
    · exact RvR.nt h l z ps
    · exact RvRs.nt t l z ps
end
/-! a tree is frozen: its nodes join B -/
mutual
theorem RvR.freeze {K : PySem.W.Frag} {B H : Hp} (bh : Same B H) : ∀ {r : Rv} {v : V} {as : List Addr}, RvR K B H r v as →
    ∀ B1, Same B B1 → Same B1 H → ∃ B2, Same B1 B2 ∧ Same B2 H ∧ (∀ p, B2 p ≠ none → B1 p ≠ none ∨ p ∈ as) ∧ Rep K B2 r.toD v
  | .val d, _, _, ⟨e, h⟩, B1, s, s1 => ⟨B1, Same.refl _, s1, fun p hp => .inl hp, h.mono s⟩
  | .own xs, _, _, ⟨l, vs, ass, e, h, b, t, ea⟩, B1, s, s1 => by
    obtain ⟨B2, s2, s3, n, q⟩ := RvRs.freeze bh t B1 s s1
    subst ea
    have hs : Same B2 (upd B2 l (.lst vs)) := fun p o hp => by
      by_cases hz : p = l
      · subst hz
        have z := s3 _ _ hp
        rw [h] at z
        rw [upd_same, z]
      · rw [upd_ne hz]
        exact hp
    refine ⟨upd B2 l (.lst vs), s2.trans hs, fun p o hp => ?_, fun p hp => ?_, l, vs, e, upd_same, q.mono hs⟩
    · by_cases hz : p = l
      · subst hz
        rw [upd_same] at hp
        rw [h, hp]
      · rw [upd_ne hz] at hp
        exact s3 p o hp
    · by_cases hz : p = l
      · exact .inr (by rw [hz]; exact List.mem_cons_self)
      · rw [upd_ne hz] at hp
        rcases n p hp with z | z
        · exact .inl z
        · exact .inr (List.mem_cons_of_mem _ z)
  | .tup xs, _, _, ⟨l, vs, ass, e, h, b, t, ea⟩, B1, s, s1 => by
    obtain ⟨B2, s2, s3, n, q⟩ := RvRs.freeze bh t B1 s s1
    subst ea
    have hs : Same B2 (upd B2 l (.tup vs)) := fun p o hp => by
      by_cases hz : p = l
      · subst hz
        have z := s3 _ _ hp
        rw [h] at z
        rw [upd_same, z]
      · rw [upd_ne hz]
        exact hp
    refine ⟨upd B2 l (.tup vs), s2.trans hs, fun p o hp => ?_, fun p hp => ?_, l, vs, e, SqT.of upd_same, q.mono hs⟩
    · by_cases hz : p = l
      · subst hz
        rw [upd_same] at hp
        rw [h, hp]
      · rw [upd_ne hz] at hp
        exact s3 p o hp
    · by_cases hz : p = l
      · exact .inr (by rw [hz]; exact List.mem_cons_self)
      · rw [upd_ne hz] at hp
        rcases n p hp with z | z
        · exact .inl z
        · exact .inr (List.mem_cons_of_mem _ z)
theorem RvRs.freeze {K : PySem.W.Frag} {B H : Hp} (bh : Same B H) : ∀ {xs : List Rv} {vs : List V} {as : List Addr}, RvRs K B H xs vs as →
    ∀ B1, Same B B1 → Same B1 H → ∃ B2, Same B1 B2 ∧ Same B2 H ∧ (∀ p, B2 p ≠ none → B1 p ≠ none ∨ p ∈ as) ∧ Reps K B2 (Rv.toDs xs) vs
  | [], _, _, h, B1, s, s1 => ⟨B1, Same.refl _, s1, fun p hp => .inl hp, h.1⟩
  | x :: xs, _, _, ⟨v, r, a1, a2, e1, e2, h, t⟩, B1, s, s1 => by
    obtain ⟨B2, s2, s3, n2, q2⟩ := RvR.freeze bh h B1 s s1
    obtain ⟨B3, s4, s5, n3, q3⟩ := RvRs.freeze bh t B2 (s.trans s2) s3
    subst e2
    refine ⟨B3, s2.trans s4, s5, fun p hp => ?_, v, r, e1, q2.mono s4, q3⟩
    rcases n3 p hp with z | z
    · rcases n2 p z with z | z
      · exact .inl z
      · exact .inr (List.mem_append_left _ z)
    · exact .inr (List.mem_append_right _ z)
end
theorem RvRs.flat {K : PySem.W.Frag} {B H : Hp} : ∀ {xs : List Rv} {vs : List V} {as : List Addr} {ds : List D}, RvRs K B H xs vs as → flat xs = some ds → Reps K B ds vs ∧ as = []
  | [], _, _, _, h, e => by
    cases e
    exact h
  | .val d :: xs, _, _, ds, ⟨v, r, a1, a2, e1, e2, h, t⟩, e => by
    unfold Pd.flat at e
    cases q : Pd.flat xs with
    | none => rw [q] at e; cases e
    | some es =>
      rw [q] at e
      cases e
      obtain ⟨h1, h2⟩ := h
      obtain ⟨t1, t2⟩ := RvRs.flat t q
      subst h1 t2 e2
      exact ⟨⟨v, r, e1, h2, t1⟩, rfl⟩
  | .own _ :: _, _, _, _, _, e => by cases e
  | .tup _ :: _, _, _, _, _, e => by cases e
theorem RvRs.ofReps {K : PySem.W.Frag} {B H : Hp} : ∀ {ds : List D} {vs : List V}, Reps K B ds vs → RvRs K B H (ds.map Rv.val) vs []
  | [], _, h => ⟨h, rfl⟩
  | d :: ds, _, ⟨v, r, e, h, t⟩ => ⟨v, r, [], [], e, rfl, ⟨rfl, h⟩, RvRs.ofReps t⟩
/-! the content by the heap itself -/
mutual
theorem RvR.rep {K : PySem.W.Frag} {B H : Hp} (bh : Same B H) : ∀ {r : Rv} {v : V} {as : List Addr}, RvR K B H r v as → Rep K H r.toD v
  | .val d, _, _, ⟨_, h⟩ => h.mono bh
  | .own xs, _, _, ⟨l, vs, ass, e, h, b, t, ea⟩ => ⟨l, vs, e, h, RvRs.rep bh t⟩
  | .tup xs, _, _, ⟨l, vs, ass, e, h, b, t, ea⟩ => ⟨l, vs, e, SqT.of h, RvRs.rep bh t⟩
theorem RvRs.rep {K : PySem.W.Frag} {B H : Hp} (bh : Same B H) : ∀ {xs : List Rv} {vs : List V} {as : List Addr}, RvRs K B H xs vs as → Reps K H (Rv.toDs xs) vs
  | [], _, _, h => h.1
  | x :: xs, _, _, ⟨v, r, a1, a2, e1, e2, h, t⟩ => ⟨v, r, e1, RvR.rep bh h, RvRs.rep bh t⟩
end
theorem RvRs.length {K : PySem.W.Frag} {B H : Hp} : ∀ {xs : List Rv} {vs : List V} {as : List Addr}, RvRs K B H xs vs as → xs.length = vs.length
  | [], _, _, h => by rw [h.1]; rfl
  | x :: xs, _, _, ⟨v, r, a1, a2, e1, e2, h, t⟩ => by rw [e1, List.length_cons, List.length_cons, RvRs.length t]

/-! ### slots and temporaries -/
inductive Sl where
  | any | own (r : Rv) | bor (r : Rv)
inductive Tm where
  | rv (r : Rv) | pk (i : Nat)
abbrev Rho := List Sl
abbrev Tau := List (V × Tm × List Addr)

def SlR (K : PySem.W.Frag) (B H : Hp) (ov : Option (Option V)) : Option Sl → List Addr → Prop
  | some (.own r), as => ∃ v, ov = some (some v) ∧ RvR K B H r v as
  | some (.bor r), as => ∃ v, ov = some (some v) ∧ RvR K B H r v as
  | _, as => as = []
def TmR (K : PySem.W.Frag) (B H : Hp) (σ : L2.St) (v : V) : Tm → List Addr → Prop
  | .rv r, as => RvR K B H r v as
  | .pk i, as => as = [] ∧ σ[i]? = some (some v)
def addrs (τ : Tau) : List Addr := τ.flatMap (·.2.2)

/-- the entry of the def: what was frozen, the heap, what may be written, the borrowed parameters' roots -/
structure Cv where
  f : Str → Value
  tb : List Addr
structure Ent (Tb : List Addr) where
  B0 : Hp
  H0 : Hp
  Wr : List Addr
  roots : List (Nat × V)

/-- what stood at the entry: unchanged where it may not be written, but for the tables of code objects, which grow -/
structure Frm (Tb : List Addr) (B0 H0 : Hp) (Wr : List Addr) (H : Hp) : Prop where
  fr : ∀ p o, H0 p = some o → p ∉ Wr → (∀ ps, o ≠ .tbl ps) → H p = some o
  tk : ∀ p ps, H0 p = some (.tbl ps) → ∃ ps', H p = some (.tbl ps') ∧ (TriplesOk ps.toList → TriplesOk ps'.toList)
  tn : ∀ p ps, H p = some (.tbl ps) → ∃ ps0, H0 p = some (.tbl ps0)
  t0 : ∀ p ps, H0 p = some (.tbl ps) → B0 p = none
  tg : ∀ p ∈ Tb, ∃ ps, H0 p = some (.tbl ps) ∧ TriplesOk ps.toList
structure EnvR (K : PySem.W.Frag) {Tb : List Addr} (E : Ent Tb) (B H : Hp) (σ : L2.St) (ρ : Rho) (α : Nat → List Addr) (τ : Tau) : Prop where
  bh : Same B H
  b0 : Same E.B0 B
  nb : ∀ p, B p ≠ none → E.B0 p ≠ none ∨ E.H0 p = none
  fr : Frm Tb E.B0 E.H0 E.Wr H
  wr : ∀ p ∈ E.Wr, H p ≠ none
  rt : ∀ p ∈ E.roots, σ[p.1]? = some (some p.2) ∧ ∃ r, ρ[p.1]? = some (.bor r)
  br : ∀ i r, ρ[i]? = some (.bor r) → ∃ a, (i, a) ∈ E.roots
  sl : ∀ i, SlR K B H σ[i]? ρ[i]? (α i)
  tm : ∀ t ∈ τ, TmR K B H σ t.1 t.2.1 t.2.2
  nd : ∀ i, (α i).Nodup
  dj : ∀ i j, i ≠ j → ∀ l ∈ α i, l ∉ α j
  nt : (addrs τ).Nodup
  dt : ∀ i, ∀ l ∈ addrs τ, l ∉ α i
  ho : ∀ i r, ρ[i]? = some (.own r) → ∀ l ∈ α i, E.H0 l = none
  hb : ∀ i r, ρ[i]? = some (.bor r) → ∀ l ∈ α i, E.H0 l = none ∨ l ∈ E.Wr
  ht : ∀ l ∈ addrs τ, E.H0 l = none
  ln : σ.length = ρ.length

section
variable {K : PySem.W.Frag} {Tb : List Addr} {E : Ent Tb} {B B' H H' : Hp} {σ : L2.St} {ρ : Rho} {α : Nat → List Addr} {τ : Tau}
theorem SlR.live {ov : Option (Option V)} : ∀ {s : Option Sl} {as : List Addr}, SlR K B H ov s as → ∀ l ∈ as, H l ≠ none ∧ B l = none
  | some (.own r), _, ⟨v, _, h⟩, l, hl => h.live l hl
  | some (.bor r), _, ⟨v, _, h⟩, l, hl => h.live l hl
  | some .any, _, h, l, hl => by
    have h' : _ = [] := h
    rw [h'] at hl
    cases hl
  | none, _, h, l, hl => by
    have h' : _ = [] := h
    rw [h'] at hl
    cases hl
theorem SlR.frame {ov : Option (Option V)} (s : Same B B') : ∀ {sl : Option Sl} {as : List Addr}, SlR K B H ov sl as → (∀ l ∈ as, H' l = H l) → (∀ l ∈ as, B' l = none) → SlR K B' H' ov sl as
  | some (.own r), _, ⟨v, e, h⟩, k1, k2 => ⟨v, e, h.frame s k1 k2⟩
  | some (.bor r), _, ⟨v, e, h⟩, k1, k2 => ⟨v, e, h.frame s k1 k2⟩
  | some .any, _, h, _, _ => h
  | none, _, h, _, _ => h
theorem TmR.live {v : V} : ∀ {t : Tm} {as : List Addr}, TmR K B H σ v t as → ∀ l ∈ as, H l ≠ none ∧ B l = none
  | .rv r, _, h, l, hl => RvR.live h l hl
  | .pk i, _, h, l, hl => by
    rw [h.1] at hl
    cases hl
theorem TmR.frame {v : V} (s : Same B B') : ∀ {t : Tm} {as : List Addr}, TmR K B H σ v t as → (∀ l ∈ as, H' l = H l) → (∀ l ∈ as, B' l = none) → TmR K B' H' σ v t as
  | .rv r, _, h, k1, k2 => RvR.frame s h k1 k2
  | .pk i, _, h, _, _ => h
theorem mem_addrs {τ : Tau} {t : V × Tm × List Addr} {l : Addr} (h : t ∈ τ) (hl : l ∈ t.2.2) : l ∈ addrs τ := List.mem_flatMap.mpr ⟨t, h, hl⟩
theorem EnvR.liveT (e : EnvR K E B H σ ρ α τ) : ∀ l ∈ addrs τ, H l ≠ none ∧ B l = none := fun l hl => by
  obtain ⟨t, h1, h2⟩ := List.mem_flatMap.mp hl
  exact (e.tm t h1).live l h2
theorem EnvR.liveS (e : EnvR K E B H σ ρ α τ) (i : Nat) : ∀ l ∈ α i, H l ≠ none ∧ B l = none := (e.sl i).live
theorem EnvR.ntS (e : EnvR K E B H σ ρ α τ) (i : Nat) : ∀ l ∈ α i, ∀ ps, H l ≠ some (.tbl ps) := fun l hl ps => by
  have S := e.sl i
  cases hs : ρ[i]? with
  | none =>
    rw [hs] at S
    have h' : α i = [] := S
    rw [h'] at hl
    cases hl
  | some s =>
    rw [hs] at S
    cases s with
    | any =>
      have h' : α i = [] := S
      rw [h'] at hl
      cases hl
    | own r => exact S.choose_spec.2.nt l hl ps
    | bor r => exact S.choose_spec.2.nt l hl ps
theorem EnvR.ntT (e : EnvR K E B H σ ρ α τ) : ∀ l ∈ addrs τ, ∀ ps, H l ≠ some (.tbl ps) := fun l hl ps => by
  obtain ⟨t, h1, h2⟩ := List.mem_flatMap.mp hl
  have T := e.tm t h1
  obtain ⟨v, t', as⟩ := t
  cases t' with
  | rv r => exact RvR.nt T l h2 ps
  | pk i =>
    have h' : as = [] := T.1
    rw [h'] at h2
    cases h2
/-- what was not there at the entry is not there for the caller -/
theorem EnvR.new0 (e : EnvR K E B H σ ρ α τ) {p : Addr} (h : H p = none) : E.H0 p = none := by
  cases q : E.H0 p with
  | none => rfl
  | some o =>
    by_cases hw : p ∈ E.Wr
    · exact absurd h (e.wr p hw)
    · by_cases ht : ∃ ps, o = .tbl ps
      · obtain ⟨ps, z⟩ := ht
        subst z
        obtain ⟨ps', h1, _⟩ := e.fr.tk p ps q
        rw [h] at h1
        cases h1
      · rw [e.fr.fr p o q hw fun ps z => ht ⟨ps, z⟩] at h
        cases h
/-- a table is not frozen -/
theorem EnvR.tabB (e : EnvR K E B H σ ρ α τ) {p : Addr} {ps : Array Value} (h : H p = some (.tbl ps)) : B p = none := by
  obtain ⟨ps0, h0⟩ := e.fr.tn p ps h
  cases q : B p with
  | none => rfl
  | some o =>
    rcases e.nb p (by rw [q]; simp) with z | z
    · exact absurd (e.fr.t0 p ps0 h0) z
    · rw [h0] at z; cases z
theorem Frm.start {Tb : List Addr} (h : ∀ p ps, H p = some (.tbl ps) → B p = none) (hg : ∀ p ∈ Tb, ∃ ps, H p = some (.tbl ps) ∧ TriplesOk ps.toList) (Wr : List Addr) : Frm Tb B H Wr H := ⟨fun p o q _ _ => q, fun p ps q => ⟨ps, q, fun z => z⟩, fun p ps q => ⟨ps, q⟩, h, hg⟩
/-- a table stands, in order -/
theorem EnvR.tab (e : EnvR K E B H σ ρ α τ) {p : Addr} (h : p ∈ Tb) : ∃ ps, H p = some (.tbl ps) ∧ TriplesOk ps.toList := by
  obtain ⟨ps, h1, h2⟩ := e.fr.tg p h
  obtain ⟨ps', h3, h4⟩ := e.fr.tk p ps h1
  exact ⟨ps', h3, h4 h2⟩
theorem Frm.grow {B0 H0 : Hp} {Wr : List Addr} (f : Frm Tb B0 H0 Wr H) (hH : Same H H') (ht : ∀ p ps, H' p = some (.tbl ps) → H p = some (.tbl ps)) : Frm Tb B0 H0 Wr H' :=
  ⟨fun p o q h1 h2 => hH _ _ (f.fr p o q h1 h2), fun p ps q => let ⟨ps', h1, h2⟩ := f.tk p ps q; ⟨ps', hH _ _ h1, h2⟩, fun p ps q => f.tn p ps (ht p ps q), f.t0, f.tg⟩
/-- other things at addresses that are neither tables nor of the caller -/
theorem Frm.write {B0 H0 : Hp} {Wr as : List Addr} (f : Frm Tb B0 H0 Wr H) (hk : ∀ p, p ∉ as → H' p = H p) (h0 : ∀ p ∈ as, ∀ ps, H p ≠ some (.tbl ps)) (h1 : ∀ p ∈ as, ∀ ps, H' p ≠ some (.tbl ps)) (hw : ∀ p ∈ as, H0 p = none ∨ p ∈ Wr) : Frm Tb B0 H0 Wr H' := by
  refine ⟨fun p o q k1 k2 => ?_, fun p ps q => ?_, fun p ps q => ?_, f.t0, f.tg⟩
  · rw [hk p fun z => (hw p z).elim (fun y => by rw [y] at q; cases q) k1]
    exact f.fr p o q k1 k2
  · obtain ⟨ps', h2, h3⟩ := f.tk p ps q
    exact ⟨ps', by rw [hk p fun z => h0 p z ps' h2]; exact h2, h3⟩
  · exact f.tn p ps (by rw [← hk p fun z => h1 p z ps q]; exact q)
/-- the heap grows, what is frozen grows by new objects -/
theorem EnvR.grow (e : EnvR K E B H σ ρ α τ) (hH : Same H H') (hB : Same B B') (hBH : Same B' H') (hn : ∀ p, B' p ≠ none → B p ≠ none ∨ H p = none) (ht : ∀ p ps, H' p = some (.tbl ps) → H p = some (.tbl ps)) : EnvR K E B' H' σ ρ α τ := by
  have keepH : ∀ l, H l ≠ none → H' l = H l := fun l h => by
    cases q : H l with
    | none => exact absurd q h
    | some o => exact hH l o q
  have keepB : ∀ l, H l ≠ none → B l = none → B' l = none := fun l h1 h2 => by
    cases q : B' l with
    | none => rfl
    | some o =>
      rcases hn l (by rw [q]; simp) with z | z
      · exact absurd h2 z
      · exact absurd z h1
  refine ⟨hBH, e.b0.trans hB, fun p hp => ?_, e.fr.grow hH ht, fun p hp => ?_, e.rt, e.br, fun i => ?_, fun t ht => ?_, e.nd, e.dj, e.nt, e.dt, e.ho, e.hb, e.ht, e.ln⟩
  · rcases hn p hp with z | z
    · exact e.nb p z
    · exact .inr (e.new0 z)
  · rw [keepH p (e.wr p hp)]
    exact e.wr p hp
  · have L := e.liveS i
    exact (e.sl i).frame hB (fun l hl => keepH l (L l hl).1) (fun l hl => keepB l (L l hl).1 (L l hl).2)
  · have L := (e.tm t ht).live
    exact (e.tm t ht).frame hB (fun l hl => keepH l (L l hl).1) (fun l hl => keepB l (L l hl).1 (L l hl).2)
theorem Same.upd {p : Addr} {o : HO} (h : H p = none) : Same H (upd H p o) := fun b x e => by
  rw [upd_ne (ne_of_none e h)]
  exact e
theorem tbl_upd {p : Addr} {o : HO} (no : ∀ ps, o ≠ .tbl ps) : ∀ q ps, L2.upd H p o q = some (.tbl ps) → H q = some (.tbl ps) := fun q ps z => by
  by_cases hz : q = p
  · rw [hz, upd_same] at z
    exact absurd (Option.some.inj z) (no ps)
  · rwa [upd_ne hz] at z
/-- a new object, frozen at once -/
theorem EnvR.newB (e : EnvR K E B H σ ρ α τ) {p : Addr} {o : HO} (h : H p = none) (no : ∀ ps, o ≠ .tbl ps) : EnvR K E (L2.upd B p o) (L2.upd H p o) σ ρ α τ := by
  have hb : B p = none := e.bh.free h
  refine e.grow (Same.upd h) (Same.upd hb) (fun b x q => ?_) (fun b q => ?_) (tbl_upd no)
  · by_cases hz : b = p
    · subst hz
      rw [upd_same] at q ⊢
      exact q
    · rw [upd_ne hz] at q ⊢
      exact e.bh _ _ q
  · by_cases hz : b = p
    · exact .inr (by rw [hz]; exact h)
    · rw [upd_ne hz] at q
      exact .inl q
/-- a new object, not frozen -/
theorem EnvR.newH (e : EnvR K E B H σ ρ α τ) {p : Addr} {o : HO} (h : H p = none) (no : ∀ ps, o ≠ .tbl ps) : EnvR K E B (L2.upd H p o) σ ρ α τ :=
  e.grow (Same.upd h) (Same.refl _) (e.bh.trans (Same.upd h)) (fun b q => .inl q) (tbl_upd no)
theorem EnvR.pop {t : V × Tm × List Addr} (e : EnvR K E B H σ ρ α (t :: τ)) : EnvR K E B H σ ρ α τ :=
  ⟨e.bh, e.b0, e.nb, e.fr, e.wr, e.rt, e.br, e.sl, fun u hu => e.tm u (List.mem_cons_of_mem _ hu), e.nd, e.dj, (List.nodup_append.mp (show (t.2.2 ++ addrs τ).Nodup from e.nt)).2.1,
    fun i l hl => e.dt i l (List.mem_append_right _ hl), e.ho, e.hb, fun l hl => e.ht l (List.mem_append_right _ hl), e.ln⟩
theorem EnvR.pops {ts : Tau} (e : EnvR K E B H σ ρ α (ts ++ τ)) : EnvR K E B H σ ρ α τ := by
  induction ts with
  | nil => exact e
  | cons t ts ih => exact ih (EnvR.pop e)
/-- plain data joins the temporaries -/
theorem EnvR.push {d : D} {v : V} (e : EnvR K E B H σ ρ α τ) (h : Rep K B d v) : EnvR K E B H σ ρ α ((v, .rv (.val d), []) :: τ) :=
  ⟨e.bh, e.b0, e.nb, e.fr, e.wr, e.rt, e.br, e.sl, fun u hu => by
    rcases List.mem_cons.mp hu with z | z
    · subst z
      exact ⟨rfl, h⟩
    · exact e.tm u z, e.nd, e.dj, e.nt, e.dt, e.ho, e.hb, e.ht, e.ln⟩
theorem EnvR.pushPk {i : Nat} {v : V} (e : EnvR K E B H σ ρ α τ) (h : σ[i]? = some (some v)) : EnvR K E B H σ ρ α ((v, .pk i, []) :: τ) :=
  ⟨e.bh, e.b0, e.nb, e.fr, e.wr, e.rt, e.br, e.sl, fun u hu => by
    rcases List.mem_cons.mp hu with z | z
    · subst z
      exact ⟨rfl, h⟩
    · exact e.tm u z, e.nd, e.dj, e.nt, e.dt, e.ho, e.hb, e.ht, e.ln⟩
/-- a new node over trees that are temporaries: they become its children -/
theorem EnvR.pushNode {r : Rv} {v : V} {as : List Addr} (e : EnvR K E B H σ ρ α τ) (h : RvR K B H r v as) (hn : as.Nodup) (h0 : ∀ l ∈ as, E.H0 l = none) (hd : ∀ l ∈ as, l ∉ addrs τ) (hs : ∀ i, ∀ l ∈ as, l ∉ α i) :
    EnvR K E B H σ ρ α ((v, .rv r, as) :: τ) :=
  ⟨e.bh, e.b0, e.nb, e.fr, e.wr, e.rt, e.br, e.sl, fun u hu => by
    rcases List.mem_cons.mp hu with z | z
    · subst z
      exact h
    · exact e.tm u z, e.nd, e.dj, List.nodup_append.mpr ⟨hn, e.nt, fun a ha b hb => fun z => hd a ha (z ▸ hb)⟩, fun i l hl => by
      rcases List.mem_append.mp hl with z | z
      · exact hs i l z
      · exact e.dt i l z, e.ho, e.hb, fun l hl => by
      rcases List.mem_append.mp hl with z | z
      · exact h0 l z
      · exact e.ht l z, e.ln⟩
/-- a new list of plain data, owned -/
theorem EnvR.newOwn {p : Addr} {ds : List D} {vs : List V} (e : EnvR K E B H σ ρ α τ) (h : H p = none) (hr : Reps K B ds vs) : EnvR K E B (L2.upd H p (.lst vs)) σ ρ α ((.ref p, .rv (.own (ds.map .val)), [p]) :: τ) := by
  have hb : B p = none := e.bh.free h
  refine (e.newH (o := .lst vs) h fun ps z => by cases z).pushNode ⟨p, vs, [], rfl, upd_same, hb, RvRs.ofReps hr, rfl⟩ (by simp) (fun l hl => ?_) (fun l hl hz => ?_) (fun i l hl hz => ?_)
  · have z : l = p := by simpa using hl
    rw [z]
    exact e.new0 h
  · have z : l = p := by simpa using hl
    rw [z] at hz
    exact (e.liveT p hz).1 h
  · have z : l = p := by simpa using hl
    rw [z] at hz
    exact (e.liveS i p hz).1 h
/-- a new list of plain data, frozen at once -/
theorem EnvR.newLst {p : Addr} {ds : List D} {vs : List V} (e : EnvR K E B H σ ρ α τ) (h : H p = none) (hr : Reps K B ds vs) : EnvR K E (L2.upd B p (.lst vs)) (L2.upd H p (.lst vs)) σ ρ α ((.ref p, .rv (.val (.lst ds)), []) :: τ) :=
  (e.newB h fun ps z => by cases z).push ⟨p, vs, rfl, upd_same, hr.mono (Same.upd (e.bh.free h))⟩
theorem EnvR.newTup {p : Addr} {ds : List D} {vs : List V} (e : EnvR K E B H σ ρ α τ) (h : H p = none) (hr : Reps K B ds vs) : EnvR K E (L2.upd B p (.tup vs)) (L2.upd H p (.tup vs)) σ ρ α ((.ref p, .rv (.val (.tup ds)), []) :: τ) :=
  (e.newB h fun ps z => by cases z).push ⟨p, vs, rfl, SqT.of upd_same, hr.mono (Same.upd (e.bh.free h))⟩
theorem EnvR.perm {τ' : Tau} (e : EnvR K E B H σ ρ α τ) (h : τ.Perm τ') : EnvR K E B H σ ρ α τ' := by
  have ha : (addrs τ).Perm (addrs τ') := h.flatMap_right _
  exact ⟨e.bh, e.b0, e.nb, e.fr, e.wr, e.rt, e.br, e.sl, fun u hu => e.tm u (h.mem_iff.mpr hu), e.nd, e.dj, ha.nodup_iff.mp e.nt, fun i l hl => e.dt i l (ha.mem_iff.mpr hl), e.ho, e.hb, fun l hl => e.ht l (ha.mem_iff.mpr hl), e.ln⟩
theorem EnvR.swap {t u : V × Tm × List Addr} (e : EnvR K E B H σ ρ α (t :: u :: τ)) : EnvR K E B H σ ρ α (u :: t :: τ) := e.perm (List.Perm.swap u t τ)
/-- what is frozen grows by the nodes at as, which nobody else holds -/
theorem EnvR.freezeWith {as : List Addr} (e : EnvR K E B H σ ρ α τ) (h1 : Same B B') (h2 : Same B' H) (hn : ∀ p, B' p ≠ none → B p ≠ none ∨ p ∈ as) (h0 : ∀ l ∈ as, E.H0 l = none) (hd : ∀ l ∈ as, l ∉ addrs τ) (hs : ∀ i, ∀ l ∈ as, l ∉ α i) : EnvR K E B' H σ ρ α τ := by
  have keepB : ∀ l, l ∉ as → B l = none → B' l = none := fun l hl hb => by
    cases q : B' l with
    | none => rfl
    | some o =>
      rcases hn l (by rw [q]; simp) with z | z
      · exact absurd hb z
      · exact absurd z hl
  refine ⟨h2, e.b0.trans h1, fun p hp => ?_, e.fr, e.wr, e.rt, e.br, fun i => ?_, fun t ht => ?_, e.nd, e.dj, e.nt, e.dt, e.ho, e.hb, e.ht, e.ln⟩
  · rcases hn p hp with z | z
    · exact e.nb p z
    · exact .inr (h0 p z)
  · have L := e.liveS i
    exact (e.sl i).frame h1 (fun l _ => rfl) (fun l hl => keepB l (fun z => hs i l z hl) (L l hl).2)
  · have L := (e.tm t ht).live
    exact (e.tm t ht).frame h1 (fun l _ => rfl) (fun l hl => keepB l (fun z => hd l z (mem_addrs ht hl)) (L l hl).2)
/-- the temporary on top is frozen -/
theorem EnvR.freezeTop {v : V} {r : Rv} {as : List Addr} (e : EnvR K E B H σ ρ α ((v, .rv r, as) :: τ)) : ∃ B', EnvR K E B' H σ ρ α ((v, .rv (.val r.toD), []) :: τ) := by
  have h : RvR K B H r v as := e.tm _ List.mem_cons_self
  obtain ⟨B2, s1, s2, n, q⟩ := h.freeze e.bh B (Same.refl _) e.bh
  have hnd := List.nodup_append.mp (show (as ++ addrs τ).Nodup from e.nt)
  refine ⟨B2, (e.pop.freezeWith s1 s2 n (fun l hl => e.ht l (List.mem_append_left _ hl)) (fun l hl hz => hnd.2.2 l hl l hz rfl) (fun i l hl => e.dt i l (List.mem_append_left _ hl))).push q⟩
end
end Pd
set_option Elab.async false
set_option linter.all false
set_option maxRecDepth 100000
set_option maxHeartbeats 2000000
/-! Pd2: what a piece of program makes of the slots, in plain functions; that readings do just this; the base rules. -/
namespace Pd
open PySem PySem.Spec PyProof.Rows L2

inductive Res (α : Type) where
  | ok (a : α) (ρ : Rho) | err (c : Str) (ρ : Rho) | bad
def M (α : Type) := Rho → Res α
def M.pure {α : Type} (a : α) : M α := fun ρ => .ok a ρ
def M.bind {α β : Type} (m : M α) (f : α → M β) : M β := fun ρ => match m ρ with
  | .ok a ρ' => f a ρ'
  | .err c ρ' => .err c ρ'
  | .bad => .bad
def Post {α : Type} (x : Res α) (f : α → Rho → Prop) (g : Str → Rho → Prop) : Prop := match x with
  | .ok a ρ => f a ρ
  | .err c ρ => g c ρ
  | .bad => False
theorem Post.bind {α β : Type} {m : M α} {k : α → M β} {ρ : Rho} {f : β → Rho → Prop} {g : Str → Rho → Prop} (h : Post (m.bind k ρ) f g) : Post (m ρ) (fun a ρ' => Post (k a ρ') f g) g := by
  unfold M.bind at h
  cases e : m ρ with
  | ok a ρ' => rw [e] at h; exact h
  | err c ρ' => rw [e] at h; exact h
  | bad => rw [e] at h; exact h
theorem Post.imp {α : Type} {x : Res α} {f f' : α → Rho → Prop} {g g' : Str → Rho → Prop} (h : Post x f g) (hf : ∀ a ρ, f a ρ → f' a ρ) (hg : ∀ c ρ, g c ρ → g' c ρ) : Post x f' g' := by
  cases x with
  | ok a ρ => exact hf a ρ h
  | err c ρ => exact hg c ρ h
  | bad => exact h

/-! ### what temporaries and slots hold -/
def Rv.els : Rv → Option (List D)
  | .val (.lst ds) => some ds
  | .own rs => flat rs
  | _ => none
def Rv.elsF : Rv → Option (List D)
  | .val (.fls ds) => some ds
  | r => r.els
def Rv.tels : Rv → Option (List D)
  | .val (.tup ds) => some ds
  | .tup rs => flat rs
  | _ => none
def slR : Option Sl → Option Rv
  | some (.own r) => some r
  | some (.bor r) => some r
  | _ => none
def Tm.r (ρ : Rho) : Tm → Option Rv
  | .rv r => some r
  | .pk i => slR ρ[i]?
def Tm.dat (ρ : Rho) (t : Tm) : Option D := (t.r ρ).map Rv.toD
def Tm.els (ρ : Rho) (t : Tm) : Option (List D) := (t.r ρ).bind Rv.els
def Tm.elsF (ρ : Rho) (t : Tm) : Option (List D) := (t.r ρ).bind Rv.elsF
def Tm.tels (ρ : Rho) (t : Tm) : Option (List D) := (t.r ρ).bind Rv.tels
abbrev Tm.v (d : D) : Tm := .rv (.val d)
abbrev Tm.o (ds : List D) : Tm := .rv (.own (ds.map Rv.val))

section
variable {K : PySem.W.Frag} {Tb : List Addr} {E : Ent Tb} {B B' H H' : Hp} {σ : L2.St} {ρ : Rho} {α : Nat → List Addr} {τ : Tau} {v : V} {as : List Addr} {t : Tm}
theorem RvR.els (bh : Same B H) {r : Rv} {ds : List D} (h : RvR K B H r v as) (e : r.els = some ds) : ∃ a vs, v = .ref a ∧ H a = some (.lst vs) ∧ Reps K B ds vs := by
  cases r with
  | val d =>
    cases d with
    | lst xs =>
      cases e
      obtain ⟨_, a, vs, h1, h2, h3⟩ := h
      exact ⟨a, vs, h1, bh _ _ h2, h3⟩
    | _ => cases e
  | own rs =>
    obtain ⟨l, vs, ass, h1, h2, h3, h4, h5⟩ := h
    exact ⟨l, vs, h1, h2, (h4.flat e).1⟩
  | tup rs => cases e
theorem RvR.elsF (bh : Same B H) {r : Rv} {ds : List D} (h : RvR K B H r v as) (e : r.elsF = some ds) : ∃ a vs, v = .ref a ∧ SqL K H a vs ∧ Reps K B ds vs := by
  have go : r.els = some ds → ∃ a vs, v = .ref a ∧ SqL K H a vs ∧ Reps K B ds vs := fun q => by
    obtain ⟨a, vs, h1, h2, h3⟩ := h.els bh q
    exact ⟨a, vs, h1, SqL.of h2, h3⟩
  cases r with
  | val d =>
    cases d with
    | fls xs =>
      cases e
      obtain ⟨_, a, vs, h1, h2, h3⟩ := h
      exact ⟨a, vs, h1, sqL_same bh h2, h3⟩
    | _ => exact go e
  | own rs => exact go e
  | tup rs => exact go e
theorem RvR.tels (bh : Same B H) {r : Rv} {ds : List D} (h : RvR K B H r v as) (e : r.tels = some ds) : ∃ a vs, v = .ref a ∧ SqT K H a vs ∧ Reps K B ds vs := by
  cases r with
  | val d =>
    cases d with
    | tup xs =>
      cases e
      obtain ⟨_, a, vs, h1, h2, h3⟩ := h
      exact ⟨a, vs, h1, sqT_same bh h2, h3⟩
    | _ => cases e
  | own rs => cases e
  | tup rs =>
    obtain ⟨l, vs, ass, h1, h2, h3, h4, h5⟩ := h
    exact ⟨l, vs, h1, SqT.of h2, (h4.flat e).1⟩
/-- the tree behind a temporary -/
theorem EnvR.tree (e : EnvR K E B H σ ρ α τ) (h : (v, t, as) ∈ τ) {r : Rv} (q : t.r ρ = some r) : ∃ bs, RvR K B H r v bs := by
  have T : TmR K B H σ v t as := e.tm _ h
  cases t with
  | rv r' =>
    cases q
    exact ⟨as, T⟩
  | pk i =>
    obtain ⟨_, hv⟩ := T
    have S := e.sl i
    have q' : slR ρ[i]? = some r := q
    cases hs : ρ[i]? with
    | none => rw [hs] at q'; cases q'
    | some s =>
      rw [hs] at q' S
      cases s with
      | any => cases q'
      | own r' =>
        cases q'
        obtain ⟨u, h1, h2⟩ := S
        rw [hv] at h1
        cases h1
        exact ⟨_, h2⟩
      | bor r' =>
        cases q'
        obtain ⟨u, h1, h2⟩ := S
        rw [hv] at h1
        cases h1
        exact ⟨_, h2⟩
theorem EnvR.dat (e : EnvR K E B H σ ρ α τ) (h : (v, t, as) ∈ τ) {d : D} (q : t.dat ρ = some d) : Rep K H d v := by
  unfold Tm.dat at q
  cases hr : t.r ρ with
  | none => rw [hr] at q; cases q
  | some r =>
    rw [hr] at q
    cases q
    obtain ⟨bs, hb⟩ := e.tree h hr
    exact hb.rep e.bh
theorem EnvR.els (e : EnvR K E B H σ ρ α τ) (h : (v, t, as) ∈ τ) {ds : List D} (q : t.els ρ = some ds) : ∃ a vs, v = .ref a ∧ H a = some (.lst vs) ∧ Reps K B ds vs := by
  unfold Tm.els at q
  cases hr : t.r ρ with
  | none => rw [hr] at q; cases q
  | some r =>
    rw [hr] at q
    obtain ⟨bs, hb⟩ := e.tree h hr
    exact hb.els e.bh q
theorem EnvR.elsF (e : EnvR K E B H σ ρ α τ) (h : (v, t, as) ∈ τ) {ds : List D} (q : t.elsF ρ = some ds) : ∃ a vs, v = .ref a ∧ SqL K H a vs ∧ Reps K B ds vs := by
  unfold Tm.elsF at q
  cases hr : t.r ρ with
  | none => rw [hr] at q; cases q
  | some r =>
    rw [hr] at q
    obtain ⟨bs, hb⟩ := e.tree h hr
    exact hb.elsF e.bh q
theorem EnvR.tels (e : EnvR K E B H σ ρ α τ) (h : (v, t, as) ∈ τ) {ds : List D} (q : t.tels ρ = some ds) : ∃ a vs, v = .ref a ∧ SqT K H a vs ∧ Reps K B ds vs := by
  unfold Tm.tels at q
  cases hr : t.r ρ with
  | none => rw [hr] at q; cases q
  | some r =>
    rw [hr] at q
    obtain ⟨bs, hb⟩ := e.tree h hr
    exact hb.tels e.bh q
/-- plain data behind a temporary that is a tree of its own -/
theorem EnvR.topV {d : D} (e : EnvR K E B H σ ρ α τ) (h : (v, Tm.v d, as) ∈ τ) : Rep K B d v := (show as = [] ∧ Rep K B d v from e.tm _ h).2
/-- a slot whose tree is frozen -/
theorem EnvR.freezeSlot {i : Nat} {r : Rv} (e : EnvR K E B H σ ρ α τ) (h : ρ[i]? = some (.own r)) : ∃ B' α', ∃ v, σ[i]? = some (some v) ∧ Rep K B' r.toD v ∧ EnvR K E B' H σ (ρ.set i (.own (.val r.toD))) α' τ := by
  have S := e.sl i
  rw [h] at S
  obtain ⟨v, hv, hr⟩ := S
  obtain ⟨B2, s1, s2, n, q⟩ := hr.freeze e.bh B (Same.refl _) e.bh
  have hil : i < ρ.length := (List.getElem?_eq_some_iff.mp h).1
  refine ⟨B2, fun j => if j = i then [] else α j, v, hv, q, ?_⟩
  have keepB : ∀ l, l ∉ α i → B l = none → B2 l = none := fun l hl hb => by
    cases z : B2 l with
    | none => rfl
    | some o =>
      rcases n l (by rw [z]; simp) with y | y
      · exact absurd hb y
      · exact absurd y hl
  have hne : ∀ p ∈ E.roots, p.1 ≠ i := fun p hp z => by
    obtain ⟨_, r', hr'⟩ := e.rt p hp
    rw [z, h] at hr'
    cases hr'
  refine ⟨s2, e.b0.trans s1, fun p hp => ?_, e.fr, e.wr, fun p hp => ⟨(e.rt p hp).1, ?_⟩, fun j r' hj => ?_, fun j => ?_, fun t ht => ?_, fun j => ?_, fun j k hjk l hl => ?_, e.nt, fun j l hl => ?_, fun j r' hj => ?_, fun j r' hj => ?_, e.ht, by rw [e.ln, List.length_set]⟩
  · rcases n p hp with z | z
    · exact e.nb p z
    · exact .inr (e.ho i r h p z)
  · obtain ⟨_, r', hr'⟩ := e.rt p hp
    exact ⟨r', by rw [List.getElem?_set_ne (Ne.symm (hne p hp))]; exact hr'⟩
  · by_cases hji : j = i
    · subst hji
      rw [List.getElem?_set_self hil] at hj
      cases hj
    · rw [List.getElem?_set_ne (Ne.symm hji)] at hj
      exact e.br j r' hj
  · by_cases hji : j = i
    · subst hji
      rw [List.getElem?_set_self hil, if_pos rfl]
      exact ⟨v, hv, rfl, q⟩
    · rw [List.getElem?_set_ne (Ne.symm hji), if_neg hji]
      have L := e.liveS j
      exact (e.sl j).frame s1 (fun l _ => rfl) (fun l hl => keepB l (e.dj j i hji l hl) (L l hl).2)
  · have L := (e.tm t ht).live
    exact (e.tm t ht).frame s1 (fun l _ => rfl) (fun l hl => keepB l (e.dt i l (mem_addrs ht hl)) (L l hl).2)
  · by_cases hji : j = i
    · rw [if_pos hji]; exact List.nodup_nil
    · rw [if_neg hji]; exact e.nd j
  · by_cases hji : j = i
    · rw [if_pos hji] at hl; cases hl
    · rw [if_neg hji] at hl
      by_cases hki : k = i
      · rw [if_pos hki]; simp
      · rw [if_neg hki]; exact e.dj j k hjk l hl
  · by_cases hji : j = i
    · rw [if_pos hji]; simp
    · rw [if_neg hji]; exact e.dt j l hl
  · by_cases hji : j = i
    · rw [if_pos hji]; intro l hl; cases hl
    · rw [if_neg hji]
      rw [List.getElem?_set_ne (Ne.symm hji)] at hj
      exact e.ho j r' hj
  · by_cases hji : j = i
    · rw [if_pos hji]; intro l hl; cases hl
    · rw [if_neg hji]
      rw [List.getElem?_set_ne (Ne.symm hji)] at hj
      exact e.hb j r' hj
end

/-! ### the judgements -/
section
variable (K : PySem.W.Frag) (W : WX) (cv : Cv)
def GE (E : Ent cv.tb) (σ : L2.St) (τ : Tau) (c : Str) (ρ' : Rho) : Prop := ∀ B' H' α', EnvR K E B' H' σ ρ' α' τ → W (cv.f c) none σ H'
def EvM (t : TE) (m : M Tm) : Prop := ∀ (E : Ent cv.tb) (B H : Hp) (σ : L2.St) (ρ : Rho) (α : Nat → List Addr) (τ : Tau) (Q : VK), EnvR K E B H σ ρ α τ →
  Post (m ρ) (fun r ρ' => ∀ v as B' H' α', EnvR K E B' H' σ ρ' α' ((v, r, as) :: τ) → Q v H') (GE K W cv E σ τ) → t σ H Q
def TtM (t : TT) (m : M Bool) : Prop := ∀ (E : Ent cv.tb) (B H : Hp) (σ : L2.St) (ρ : Rho) (α : Nat → List Addr) (τ : Tau) (Q : Bool → Hp → Prop), EnvR K E B H σ ρ α τ →
  Post (m ρ) (fun b ρ' => ∀ B' H' α', EnvR K E B' H' σ ρ' α' τ → Q b H') (GE K W cv E σ τ) → t σ H Q
/-- an argument list: the temporaries on top, in their order -/
def EvMs (t : TA) (m : M (List Tm)) : Prop := ∀ (E : Ent cv.tb) (B H : Hp) (σ : L2.St) (ρ : Rho) (α : Nat → List Addr) (τ : Tau) (Q : List V → Hp → Prop), EnvR K E B H σ ρ α τ →
  Post (m ρ) (fun rs ρ' => ∀ (ts : Tau) B' H' α', ts.map (·.2.1) = rs → EnvR K E B' H' σ ρ' α' (ts ++ τ) → Q (ts.map (·.1)) H') (GE K W cv E σ τ) → t σ H Q
inductive Fl where
  | nx | rt (r : Rv) | bk | ct
def StP {Tb : List Addr} (E : Ent Tb) (D : Ends) (f : Fl) (ρ' : Rho) : Prop := match f with
  | .nx => ∀ σ' B' H' α', EnvR K E B' H' σ' ρ' α' [] → D.nx σ' H'
  | .rt r => ∀ v as σ' B' H' α', EnvR K E B' H' σ' ρ' α' [(v, .rv r, as)] → D.rt v H'
  | .bk => ∀ σ' B' H' α', EnvR K E B' H' σ' ρ' α' [] → D.bk σ' H'
  | .ct => ∀ σ' B' H' α', EnvR K E B' H' σ' ρ' α' [] → D.ct σ' H'
def GS (E : Ent cv.tb) (c : Str) (ρ' : Rho) : Prop := ∀ σ' B' H' α', EnvR K E B' H' σ' ρ' α' [] → W (cv.f c) none σ' H'
def StM (t : TS) (m : M Fl) : Prop := ∀ (E : Ent cv.tb) (B H : Hp) (σ : L2.St) (ρ : Rho) (α : Nat → List Addr) (D : Ends), EnvR K E B H σ ρ α [] →
  Post (m ρ) (StP K E D) (GS K W cv E) → t D σ H
end
section
variable (X : Cx) (W : WX) (cv : Cv)
def DE (e : Expr) (m : M Tm) : Prop := ∃ t, PE X e t ∧ EvM X.K W cv t m
def DT (e : Expr) (m : M Bool) : Prop := ∃ t, PT X e t ∧ TtM X.K W cv t m
def DW (e : Expr) (m : M Bool) : Prop := ∃ t, PW X e t ∧ TtM X.K W cv t m
def DA (es : List Expr) (m : M (List Tm)) : Prop := ∃ t, PA X es t ∧ EvMs X.K W cv t m
def DS (s : Stmt) (m : M Fl) : Prop := ∃ t, PS X s t ∧ StM X.K W cv t m
def DSs (ss : List Stmt) (m : M Fl) : Prop := ∃ t, PSs X ss t ∧ StM X.K W cv t m
end
theorem GE.pop {K : PySem.W.Frag} {W : WX} {cv : Cv} {E : Ent cv.tb} {σ : L2.St} {τ : Tau} {t : V × Tm × List Addr} {c : Str} {ρ : Rho} (h : GE K W cv E σ τ c ρ) : GE K W cv E σ (t :: τ) c ρ := fun B' H' α' e => h B' H' α' e.pop
theorem GE.pops {K : PySem.W.Frag} {W : WX} {cv : Cv} {E : Ent cv.tb} {σ : L2.St} {τ ts : Tau} {c : Str} {ρ : Rho} (h : GE K W cv E σ τ c ρ) : GE K W cv E σ (ts ++ τ) c ρ := fun B' H' α' e => h B' H' α' e.pops

section
variable {X : Cx} {W : WX} {cv : Cv} {pos : Pos}
/-! ### constants and names -/
theorem ev_c {K : PySem.W.Frag} {d : D} {v : V} (h : ∀ B, Rep K B d v) : EvM K W cv (tC v) (M.pure (.v d)) := fun E B H σ ρ α τ Q e q => q v [] B H α (e.push (h B))
theorem e_int {i : Int} {j} : DE X W cv (.Constant (.int i) j pos) (M.pure (.v (.int i))) := ⟨_, pe_int, ev_c fun _ => rfl⟩
theorem e_bl {b : Bool} {j} : DE X W cv (.Constant (.bool b) j pos) (M.pure (.v (.bl b))) := ⟨_, pe_bl, ev_c fun _ => rfl⟩
theorem e_non {j} : DE X W cv (.Constant .none j pos) (M.pure (.v .non)) := ⟨_, pe_non, ev_c fun _ => rfl⟩
theorem e_str {x : Str} {j} : DE X W cv (.Constant (.str x) j pos) (M.pure (.v (.str x))) := ⟨_, pe_str, ev_c fun _ => rfl⟩
/-- a name as a value: its tree is frozen -/
def mVar (i : Nat) : M Tm := fun ρ => match ρ[i]? with
  | some (.own (.val d)) => .ok (.v d) ρ
  | some (.own r) => .ok (.v r.toD) (ρ.set i (.own (.val r.toD)))
  | _ => .bad
/-- .. to be read at once -/
def mPk (i : Nat) : M Tm := fun ρ => match ρ[i]? with
  | some (.own (.val d)) => .ok (.v d) ρ
  | some (.own _) => .ok (.pk i) ρ
  | some (.bor _) => .ok (.pk i) ρ
  | _ => .bad
theorem ev_var {K : PySem.W.Frag} (i : Nat) : EvM K W cv (tVar i) (mVar i) := fun E B H σ ρ α τ Q e q => by
  unfold mVar at q
  cases h : ρ[i]? with
  | none => rw [h] at q; exact q.elim
  | some s =>
    rw [h] at q
    cases s with
    | any => exact q.elim
    | bor r => exact q.elim
    | own r =>
      obtain ⟨B2, α2, v, h1, h2, h3⟩ := e.freezeSlot h
      cases r with
      | val d =>
        have S := e.sl i
        rw [h] at S
        obtain ⟨u, hu, _, hr⟩ := S
        exact ⟨u, hu, q u [] B H α (e.push hr)⟩
      | own rs => exact ⟨v, h1, q v [] B2 H α2 (h3.push h2)⟩
      | tup rs => exact ⟨v, h1, q v [] B2 H α2 (h3.push h2)⟩
theorem ev_pk {K : PySem.W.Frag} (i : Nat) : EvM K W cv (tVar i) (mPk i) := fun E B H σ ρ α τ Q e q => by
  unfold mPk at q
  have S := e.sl i
  cases h : ρ[i]? with
  | none => rw [h] at q; exact q.elim
  | some s =>
    rw [h] at q S
    cases s with
    | any => exact q.elim
    | bor r =>
      obtain ⟨u, hu, hr⟩ := S
      exact ⟨u, hu, q u [] B H α (e.pushPk hu)⟩
    | own r =>
      obtain ⟨u, hu, hr⟩ := S
      cases r with
      | val d => exact ⟨u, hu, q u [] B H α (e.push hr.2)⟩
      | own rs => exact ⟨u, hu, q u [] B H α (e.pushPk hu)⟩
      | tup rs => exact ⟨u, hu, q u [] B H α (e.pushPk hu)⟩
theorem e_var (i : Nat) {x : Str} (hN : X.N[i]? = some x := by rfl) (hv : Vis X.env.scope x := by first | exact Or.inl rfl | exact Or.inr (Or.inl rfl) | exact Or.inr (Or.inr rfl)) (hd : (x == ("__debug__" : Str)) = false := by decide) (hcd : (x == ("__classdict__" : Str)) = false := by decide) :
    DE X W cv (.Name x pos) (mVar i) := ⟨_, pe_var hN hv hd hcd, ev_var i⟩
theorem e_pk (i : Nat) {x : Str} (hN : X.N[i]? = some x := by rfl) (hv : Vis X.env.scope x := by first | exact Or.inl rfl | exact Or.inr (Or.inl rfl) | exact Or.inr (Or.inr rfl)) (hd : (x == ("__debug__" : Str)) = false := by decide) (hcd : (x == ("__classdict__" : Str)) = false := by decide) :
    DE X W cv (.Name x pos) (mPk i) := ⟨_, pe_var hN hv hd hcd, ev_pk i⟩
/-- a module's constant, a class -/
theorem e_glob {x : Str} {d : D} {v : V} {u : Value} (hg : Gl X x) (hm : X.mg x = some u) (r : RelV v u) (hr : ∀ B, Rep X.K B d v) (hd : (x == ("__debug__" : Str)) = false := by decide) : DE X W cv (.Name x pos) (M.pure (.v d)) := ⟨_, pe_glob hg hm r hd, ev_c hr⟩

/-! ### freezing -/
def mFz (m : M Tm) : M Tm := m.bind fun t => match t with
  | .rv r => M.pure (.v r.toD)
  | .pk i => mVar i
theorem ev_fz {K : PySem.W.Frag} {t : TE} {m : M Tm} (h : EvM K W cv t m) : EvM K W cv t (mFz m) := fun E B H σ ρ α τ Q e q => by
  refine h E B H σ ρ α τ Q e ?_
  refine Post.imp (Post.bind q) (fun r ρ' z v as B' H' α' e' => ?_) fun c ρ' z => z
  cases r with
  | rv r =>
    obtain ⟨B2, e2⟩ := e'.freezeTop
    exact z v [] B2 H' α' e2
  | pk i =>
    have T : as = [] ∧ σ[i]? = some (some v) := e'.tm _ List.mem_cons_self
    have hv := T.2
    have ep := e'.pop
    have z' : Post (mVar i ρ') _ _ := z
    unfold mVar at z'
    cases hs : ρ'[i]? with
    | none => rw [hs] at z'; exact z'.elim
    | some s =>
      rw [hs] at z'
      cases s with
      | any => exact z'.elim
      | bor r => exact z'.elim
      | own r =>
        obtain ⟨B2, α2, u, h1, h2, h3⟩ := ep.freezeSlot hs
        rw [hv] at h1
        cases h1
        cases r with
        | val d =>
          have S := ep.sl i
          rw [hs] at S
          obtain ⟨u, hu, _, hr⟩ := S
          rw [hv] at hu
          cases hu
          exact z' v [] B' H' α' (ep.push hr)
        | own rs => exact z' v [] B2 H' α2 (h3.push h2)
        | tup rs => exact z' v [] B2 H' α2 (h3.push h2)
theorem e_fz {e : Expr} {m : M Tm} (h : DE X W cv e m) : DE X W cv e (mFz m) := let ⟨t, h1, h2⟩ := h; ⟨t, h1, ev_fz h2⟩

/-! ### argument lists -/
def mNil : M (List Tm) := M.pure []
def mCons (m : M Tm) (ms : M (List Tm)) : M (List Tm) := m.bind fun t => ms.bind fun ts => M.pure (t :: ts)
theorem a_nil : DA X W cv [] mNil := ⟨_, pa_nil, fun E B H σ ρ α τ Q e q => q [] B H α rfl e⟩
theorem ev_cons {K : PySem.W.Frag} {te : TE} {tr : TA} {m : M Tm} {ms : M (List Tm)} (h : EvM K W cv te m) (hs : EvMs K W cv tr ms) : EvMs K W cv (tCons te tr) (mCons m ms) := fun E B H σ ρ α τ Q e q => by
  refine h E B H σ ρ α τ _ e ?_
  refine Post.imp (Post.bind q) (fun r ρ1 z v as B1 H1 α1 e1 => ?_) fun c ρ' z => z
  refine hs E B1 H1 σ ρ1 α1 _ _ e1 ?_
  refine Post.imp (Post.bind z) (fun rs ρ2 y ts B2 H2 α2 ht e2 => ?_) fun c ρ' z => GE.pop z
  have y' : ∀ (ts : Tau) B' H' α', ts.map (·.2.1) = r :: rs → EnvR K E B' H' σ ρ2 α' (ts ++ τ) → Q (ts.map (·.1)) H' := y
  exact y' ((v, r, as) :: ts) B2 H2 α2 (by rw [List.map_cons, ht]) (e2.perm (List.perm_middle))
theorem a_cons {e : Expr} {es : List Expr} {m : M Tm} {ms : M (List Tm)} (h : DE X W cv e m) (hs : DA X W cv es ms) (hst : starEach (e :: es) X.env = (false, eval e X.env) :: starEach es X.env := by rfl) : DA X W cv (e :: es) (mCons m ms) :=
  let ⟨_, h1, h2⟩ := h; let ⟨_, h3, h4⟩ := hs; ⟨_, pa_cons h1 h3 hst, ev_cons h2 h4⟩

/-! ### operators: they read, and hand back a new temporary -/
def lift {α : Type} (o : Rho → Option α) : M α := fun ρ => match o ρ with
  | some a => .ok a ρ
  | none => .bad
theorem Post.lift {α : Type} {o : Rho → Option α} {ρ : Rho} {f : α → Rho → Prop} {g : Str → Rho → Prop} (h : Post (lift o ρ) f g) : ∃ a, o ρ = some a ∧ f a ρ := by
  unfold Pd.lift at h
  cases e : o ρ with
  | none => rw [e] at h; exact h.elim
  | some a => rw [e] at h; exact ⟨a, rfl, h⟩
abbrev OpM (K : PySem.W.Frag) (r : R2) (f : Tm → Tm → Rho → Option Tm) : Prop := ∀ {Tb : List Addr} (E : Ent Tb) (B H : Hp) (σ : L2.St) (ρ : Rho) (α : Nat → List Addr) (τ : Tau) (x y : V) (tx ty : Tm) (ax ay : List Addr) (Q : VK) (t : Tm), EnvR K E B H σ ρ α ((y, ty, ay) :: (x, tx, ax) :: τ) →
  f tx ty ρ = some t → (∀ v as B' H' α', EnvR K E B' H' σ ρ α' ((v, t, as) :: (y, ty, ay) :: (x, tx, ax) :: τ) → Q v H') → r x y H Q
abbrev UnM (K : PySem.W.Frag) (r : V → Hp → VK → Prop) (f : Tm → Rho → Option Tm) : Prop := ∀ {Tb : List Addr} (E : Ent Tb) (B H : Hp) (σ : L2.St) (ρ : Rho) (α : Nat → List Addr) (τ : Tau) (x : V) (tx : Tm) (ax : List Addr) (Q : VK) (t : Tm), EnvR K E B H σ ρ α ((x, tx, ax) :: τ) →
  f tx ρ = some t → (∀ v as B' H' α', EnvR K E B' H' σ ρ α' ((v, t, as) :: τ) → Q v H') → r x H Q
/-- a call with values: the temporaries in their order on top -/
abbrev ClM (K : PySem.W.Frag) (r : List V → Hp → VK → Prop) (f : List Tm → Rho → Option Tm) : Prop := ∀ {Tb : List Addr} (E : Ent Tb) (B H : Hp) (σ : L2.St) (ρ : Rho) (α : Nat → List Addr) (τ ts : Tau) (Q : VK) (t : Tm), EnvR K E B H σ ρ α (ts ++ τ) →
  f (ts.map (·.2.1)) ρ = some t → (∀ v as B' H' α', EnvR K E B' H' σ ρ α' ((v, t, as) :: τ) → Q v H') → r (ts.map (·.1)) H Q
theorem EnvR.drop2 {K : PySem.W.Frag} {Tb : List Addr} {E : Ent Tb} {B H : Hp} {σ : L2.St} {ρ : Rho} {α : Nat → List Addr} {τ : Tau} {a b c : V × Tm × List Addr} (e : EnvR K E B H σ ρ α (a :: b :: c :: τ)) : EnvR K E B H σ ρ α (a :: τ) := (e.swap.pop).swap.pop
theorem EnvR.drop1 {K : PySem.W.Frag} {Tb : List Addr} {E : Ent Tb} {B H : Hp} {σ : L2.St} {ρ : Rho} {α : Nat → List Addr} {τ : Tau} {a b : V × Tm × List Addr} (e : EnvR K E B H σ ρ α (a :: b :: τ)) : EnvR K E B H σ ρ α (a :: τ) := e.swap.pop
def mOp (f : Tm → Tm → Rho → Option Tm) (ma mb : M Tm) : M Tm := ma.bind fun x => mb.bind fun y => lift (f x y)
def mUn (f : Tm → Rho → Option Tm) (ma : M Tm) : M Tm := ma.bind fun x => lift (f x)
def mCl (f : List Tm → Rho → Option Tm) (ms : M (List Tm)) : M Tm := ms.bind fun xs => lift (f xs)
theorem ev_op {K : PySem.W.Frag} {r : R2} {f : Tm → Tm → Rho → Option Tm} {ta tb : TE} {ma mb : M Tm} (h : OpM K r f) (ha : EvM K W cv ta ma) (hb : EvM K W cv tb mb) : EvM K W cv (tOp r ta tb) (mOp f ma mb) := fun E B H σ ρ α τ Q e q => by
  refine ha E B H σ ρ α τ _ e ?_
  refine Post.imp (Post.bind q) (fun x ρ1 z v as B1 H1 α1 e1 => ?_) fun c ρ' z => z
  refine hb E B1 H1 σ ρ1 α1 _ _ e1 ?_
  refine Post.imp (Post.bind z) (fun y ρ2 z2 u bs B2 H2 α2 e2 => ?_) fun c ρ' z => GE.pop z
  obtain ⟨t, h1, h2⟩ := Post.lift z2
  exact h E B2 H2 σ ρ2 α2 τ v u x y as bs Q t e2 h1 fun w cs B' H' α' e' => h2 w cs B' H' α' e'.drop2
theorem ev_un {K : PySem.W.Frag} {r : V → Hp → VK → Prop} {f : Tm → Rho → Option Tm} {ta : TE} {ma : M Tm} (h : UnM K r f) (ha : EvM K W cv ta ma) : EvM K W cv (tUn r ta) (mUn f ma) := fun E B H σ ρ α τ Q e q => by
  refine ha E B H σ ρ α τ _ e ?_
  refine Post.imp (Post.bind q) (fun x ρ1 z v as B1 H1 α1 e1 => ?_) fun c ρ' z => z
  obtain ⟨t, h1, h2⟩ := Post.lift z
  exact h E B1 H1 σ ρ1 α1 τ v x as Q t e1 h1 h2
theorem ev_cl {K : PySem.W.Frag} {r : List V → Hp → VK → Prop} {f : List Tm → Rho → Option Tm} {ta : TA} {ms : M (List Tm)} (h : ClM K r f) (ha : EvMs K W cv ta ms) : EvM K W cv (tCB r ta) (mCl f ms) := fun E B H σ ρ α τ Q e q => by
  refine ha E B H σ ρ α τ _ e ?_
  refine Post.imp (Post.bind q) (fun rs ρ1 z ts B1 H1 α1 ht e1 => ?_) fun c ρ' z => z
  obtain ⟨t, h1, h2⟩ := Post.lift z
  rw [← ht] at h1
  exact h E B1 H1 σ ρ1 α1 τ ts Q t e1 h1 h2
theorem e_op {op : Operator} {r : R2} {f : Tm → Tm → Rho → Option Tm} {a b : Expr} {ma mb : M Tm} (ho : OpR X (binaryOp op) r) (h : OpM X.K r f) (ha : DE X W cv a ma) (hb : DE X W cv b mb) : DE X W cv (.BinOp a op b pos) (mOp f ma mb) :=
  let ⟨_, h1, h2⟩ := ha; let ⟨_, h3, h4⟩ := hb; ⟨_, pe_op ho h1 h3, ev_op h h2 h4⟩
theorem e_un {op : UnaryOp} {r : V → Hp → VK → Prop} {f : Tm → Rho → Option Tm} {a : Expr} {ma : M Tm} (ho : UnR X (unaryOp op) r) (h : UnM X.K r f) (ha : DE X W cv a ma) : DE X W cv (.UnaryOp op a pos) (mUn f ma) :=
  let ⟨_, h1, h2⟩ := ha; ⟨_, pe_un ho h1, ev_un h h2⟩
theorem e_cmp {op : CmpOp} {r : R2} {f : Tm → Tm → Rho → Option Tm} {a b : Expr} {ma mb : M Tm} (ho : OpR X (compareOp op) r) (h : OpM X.K r f) (ha : DE X W cv a ma) (hb : DE X W cv b mb) (hm : behindInMarks op b = false) : DE X W cv (.Compare a [op] [b] pos) (mOp f ma mb) :=
  let ⟨_, h1, h2⟩ := ha; let ⟨_, h3, h4⟩ := hb; ⟨_, pe_cmpR ho h1 h3 hm, ev_op h h2 h4⟩
theorem e_ix {r : R2} {f : Tm → Tm → Rho → Option Tm} {a b : Expr} {ma mb : M Tm} (ho : IxR X r) (h : OpM X.K r f) (ha : DE X W cv a ma) (hb : DE X W cv b mb) (hs : PlainIx b) : DE X W cv (.Subscript a b pos) (mOp f ma mb) :=
  let ⟨_, h1, h2⟩ := ha; let ⟨_, h3, h4⟩ := hb; ⟨_, pe_ix ho h1 h3 hs, ev_op h h2 h4⟩
/-- a built-in function, a built-in type, by its name -/
theorem e_callB {id : String} {r : List V → Hp → VK → Prop} {f : List Tm → Rho → Option Tm} {x : Str} {p : Pos} {e : Expr} {es : List Expr} {ms : M (List Tm)} (hc : CallR X (.builtin id) r) (h : ClM X.K r f) (hg : Gl X x) (hm : X.mg x = none) (hv : bootBuiltins x = some (.builtin id)) (ha : DA X W cv (e :: es) ms)
    (hn : x ≠ "__name__" := by decide) (hdb : (x == ("__debug__" : Str)) = false := by decide) (he : starEach (e :: es) X.env = (false, eval e X.env) :: starEach es X.env := by rfl) (hpl : (backTo pos (starEach es X.env)).any (·.1) = false := by rfl) :
    DE X W cv (.Call (.Name x p) (e :: es) [] pos) (mCl f ms) := let ⟨_, h1, h2⟩ := ha; ⟨_, pe_callB hc hg hm hv h1 hn hdb he hpl, ev_cl h h2⟩
theorem e_callTy {T : String} {r : List V → Hp → VK → Prop} {f : List Tm → Rho → Option Tm} {x : Str} {p : Pos} {e : Expr} {es : List Expr} {ms : M (List Tm)} (hc : CallR X (.type T) r) (h : ClM X.K r f) (hg : Gl X x) (hm : X.mg x = none) (hv : bootBuiltins x = some (.type T)) (ha : DA X W cv (e :: es) ms)
    (hn : x ≠ "__name__" := by decide) (hdb : (x == ("__debug__" : Str)) = false := by decide) (he : starEach (e :: es) X.env = (false, eval e X.env) :: starEach es X.env := by rfl) (hpl : (backTo pos (starEach es X.env)).any (·.1) = false := by rfl) :
    DE X W cv (.Call (.Name x p) (e :: es) [] pos) (mCl f ms) := let ⟨_, h1, h2⟩ := ha; ⟨_, pe_callTy hc hg hm hv h1 hn hdb he hpl, ev_cl h h2⟩

/-! ### displays -/
def vals? : List Tm → Option (List D)
  | [] => some []
  | .rv (.val d) :: r => (vals? r).map (d :: ·)
  | _ :: _ => none
theorem vals_reps {K : PySem.W.Frag} {Tb : List Addr} {E : Ent Tb} {B H : Hp} {σ : L2.St} {ρ : Rho} {α : Nat → List Addr} {τ : Tau} : ∀ {ts : Tau} {ds : List D}, EnvR K E B H σ ρ α (ts ++ τ) → vals? (ts.map (·.2.1)) = some ds → Reps K B ds (ts.map (·.1))
  | [], _, _, h => by
    cases h
    exact Reps.nil
  | (v, t, as) :: ts, ds, e, h => by
    cases t with
    | pk i => cases h
    | rv r =>
      cases r with
      | own _ => cases h
      | tup _ => cases h
      | val d =>
        have h' : (vals? (ts.map (·.2.1))).map (d :: ·) = some ds := h
        cases q : vals? (ts.map (·.2.1)) with
        | none => rw [q] at h'; cases h'
        | some es =>
          rw [q] at h'
          cases h'
          exact Reps.cons (e.topV List.mem_cons_self) (vals_reps (EnvR.pop e) q)
theorem map_len (ts : Tau) : (ts.map (·.1)).length = ts.length := List.length_map _
theorem vals_len : ∀ {ts : List Tm} {ds : List D}, vals? ts = some ds → ds.length = ts.length
  | [], _, h => by cases h; rfl
  | .pk _ :: _, _, h => by cases h
  | .rv (.own _) :: _, _, h => by cases h
  | .rv (.tup _) :: _, _, h => by cases h
  | .rv (.val d) :: r, ds, h => by
    have h' : (vals? r).map (d :: ·) = some ds := h
    cases q : vals? r with
    | none => rw [q] at h'; cases h'
    | some es =>
      rw [q] at h'
      cases h'
      rw [List.length_cons, List.length_cons, vals_len q]
/-- o, if c -/
def when {α : Type} (c : Prop) [Decidable c] (o : Option α) : Option α := if c then o else none
theorem when_some {α : Type} {c : Prop} [Decidable c] {o : Option α} {a : α} (h : when c o = some a) : c ∧ o = some a := by
  unfold when at h
  by_cases hc : c
  · rw [if_pos hc] at h
    exact ⟨hc, h⟩
  · rw [if_neg hc] at h
    cases h
def fTup (ts : List Tm) (_ : Rho) : Option Tm := (vals? ts).bind fun ds => when (ds.length ≤ 1000) (some (.v (.tup ds)))
def fLst (ts : List Tm) (_ : Rho) : Option Tm := (vals? ts).bind fun ds => when (ds.length ≤ 1000) (some (.o ds))
abbrev mTup (ms : M (List Tm)) : M Tm := mCl fTup ms
abbrev mLst (ms : M (List Tm)) : M Tm := mCl fLst ms
theorem le_line {n : Nat} (h : n ≤ 1000) : n ≤ sizeLine := Nat.le_of_lt (small1000 h)
theorem cl_tup {K : PySem.W.Frag} : ClM K (fun xs H Q => xs.length ≤ sizeLine ∧ ∀ p, H p = none → Q (.ref p) (upd H p (.tup xs))) fTup := fun E B H σ ρ α τ ts Q t e h q => by
  obtain ⟨ds, z, h⟩ := Option.bind_eq_some_iff.mp h
  obtain ⟨hl, h⟩ := when_some h
  cases h
  have r := vals_reps e z
  exact ⟨by rw [← r.length]; exact le_line hl, fun p hp => q _ [] _ _ α (e.pops.newTup hp r)⟩
theorem cl_lst {K : PySem.W.Frag} : ClM K (fun xs H Q => xs.length ≤ sizeLine ∧ ∀ p, H p = none → Q (.ref p) (upd H p (.lst xs))) fLst := fun E B H σ ρ α τ ts Q t e h q => by
  obtain ⟨ds, z, h⟩ := Option.bind_eq_some_iff.mp h
  obtain ⟨hl, h⟩ := when_some h
  cases h
  have r := vals_reps e z
  exact ⟨by rw [← r.length]; exact le_line hl, fun p hp => q _ [p] _ _ α (e.pops.newOwn hp r)⟩
theorem e_tup {es : List Expr} {k : Nat} {ms : M (List Tm)} (h : DA X W cv es ms) : DE X W cv (.Tuple es k pos) (mTup ms) := let ⟨_, h1, h2⟩ := h; ⟨_, pe_tup h1, ev_cl cl_tup h2⟩
theorem e_lst {es : List Expr} {ms : M (List Tm)} (h : DA X W cv es ms) : DE X W cv (.List es pos) (mLst ms) := let ⟨_, h1, h2⟩ := h; ⟨_, pe_lst h1, ev_cl cl_lst h2⟩

/-! ### tests -/
def mTru (f : Tm → Rho → Option Bool) (m : M Tm) : M Bool := m.bind fun t => lift (f t)
def truD : D → Option Bool
  | .non => some false
  | .bl b => some b
  | .int i => some (i != 0)
  | .tup xs => some (!xs.isEmpty)
  | .lst xs => some (!xs.isEmpty)
  | _ => none
def fTru (t : Tm) (ρ : Rho) : Option Bool := (t.dat ρ).bind truD
theorem isEmpty_reps {K : PySem.W.Frag} {B : Hp} {ds : List D} {vs : List V} (h : Reps K B ds vs) : (!ds.isEmpty) = !vs.isEmpty := by
  cases ds with
  | nil =>
    have e : vs = [] := h
    rw [e]
    rfl
  | cons d ds =>
    obtain ⟨v, r, e, _⟩ := h
    rw [e]
    rfl
theorem tru_rep {K : PySem.W.Frag} {H : Hp} {d : D} {v : V} {b : Bool} (h : Rep K H d v) (e : truD d = some b) : TruV K v H b := by
  cases d with
  | non => cases e; cases (show v = .non from h); rfl
  | bl k => cases e; cases (show v = .bl _ from h); rfl
  | int i => cases e; cases (show v = .int _ from h); rfl
  | str x => cases e
  | tup xs =>
    cases e
    obtain ⟨a, vs, h1, h2, h3⟩ := h
    subst h1
    exact .inr (.inl ⟨vs, h2, isEmpty_reps h3⟩)
  | lst xs =>
    cases e
    obtain ⟨a, vs, h1, h2, h3⟩ := h
    subst h1
    exact .inl ⟨vs, SqL.of h2, isEmpty_reps h3⟩
  | fls xs => cases e
  | exc a => cases e
theorem t_tru {e : Expr} {m : M Tm} (h : DE X W cv e m) (he : ∀ whole, isTrue e X.env whole = (do let v ← whole; standAt e.pos; holding [v] (truthy v))) : DT X W cv e (mTru fTru m) := by
  obtain ⟨t, h1, h2⟩ := h
  refine ⟨_, pt_truth h1 he, fun E B H σ ρ α τ Q e q => ?_⟩
  refine h2 E B H σ ρ α τ _ e ?_
  refine Post.imp (Post.bind q) (fun x ρ1 z v as B1 H1 α1 e1 => ?_) fun c ρ' z => z
  obtain ⟨b, k1, k2⟩ := Post.lift z
  have k1' : (x.dat ρ1).bind truD = some b := k1
  cases hd : x.dat ρ1 with
  | none => rw [hd] at k1'; cases k1'
  | some d =>
    rw [hd] at k1'
    exact ⟨b, tru_rep (e1.dat List.mem_cons_self hd) k1', k2 B1 H1 α1 e1.pop⟩
def fBl (t : Tm) (_ : Rho) : Option Bool := match t with
  | .rv (.val (.bl b)) => some b
  | _ => none
theorem tt_bl {K : PySem.W.Frag} {te : TE} {m : M Tm} (h : EvM K W cv te m) : TtM K W cv (tTest te) (mTru fBl m) := fun E B H σ ρ α τ Q e q => by
  refine h E B H σ ρ α τ _ e ?_
  refine Post.imp (Post.bind q) (fun x ρ1 z v as B1 H1 α1 e1 => ?_) fun c ρ' z => z
  obtain ⟨b, k1, k2⟩ := Post.lift z
  unfold fBl at k1
  split at k1
  · cases k1
    have z : v = .bl b := e1.topV List.mem_cons_self
    exact ⟨b, z, k2 B1 H1 α1 e1.pop⟩
  · cases k1
theorem t_cmp {op : CmpOp} {r : R2} {f : Tm → Tm → Rho → Option Tm} {a b : Expr} {ma mb : M Tm} (ho : OpR X (compareOp op) r) (h : OpM X.K r f) (ha : DE X W cv a ma) (hb : DE X W cv b mb) (hm : behindInMarks op b = false) : DT X W cv (.Compare a [op] [b] pos) (mTru fBl (mOp f ma mb)) :=
  let ⟨_, h1, h2⟩ := ha; let ⟨_, h3, h4⟩ := hb; ⟨_, pt_cmpR ho h1 h3 hm, tt_bl (ev_op h h2 h4)⟩
/-- a < b < c -/
def mChain (f g : Tm → Tm → Rho → Option Tm) (ma mb mc : M Tm) : M Tm := ma.bind fun x => mb.bind fun y => (lift (f x y)).bind fun k => (lift (fBl k)).bind fun b => if b = true then mc.bind fun z => lift (g y z) else M.pure (.v (.bl false))
theorem ev_chain {K : PySem.W.Frag} {r r' : R2} {f g : Tm → Tm → Rho → Option Tm} {ta tb tc : TE} {ma mb mc : M Tm} (h : OpM K r f) (h' : OpM K r' g) (ha : EvM K W cv ta ma) (hb : EvM K W cv tb mb) (hc : EvM K W cv tc mc) : EvM K W cv (tChain r r' ta tb tc) (mChain f g ma mb mc) := fun E B H σ ρ α τ Q e q => by
  refine ha E B H σ ρ α τ _ e ?_
  refine Post.imp (Post.bind q) (fun x ρ1 z v as B1 H1 α1 e1 => ?_) fun c ρ' z => z
  refine hb E B1 H1 σ ρ1 α1 _ _ e1 ?_
  refine Post.imp (Post.bind z) (fun y ρ2 z2 u bs B2 H2 α2 e2 => ?_) fun c ρ' z => GE.pop z
  obtain ⟨t, h1, h2⟩ := Post.lift (Post.bind z2)
  obtain ⟨b, h3, h4⟩ := Post.lift (Post.bind h2)
  refine h E B2 H2 σ ρ2 α2 τ v u x y as bs _ t e2 h1 fun w' cs B3 H3 α3 e3 => ?_
  unfold fBl at h3
  split at h3
  · cases h3
    have z : w' = .bl b := e3.topV List.mem_cons_self
    refine ⟨b, z, ?_⟩
    cases b with
    | true =>
      rw [if_pos rfl]
      rw [if_pos rfl] at h4
      refine hc E B3 H3 σ ρ2 α3 _ _ e3.pop ?_
      refine Post.imp (Post.bind h4) (fun zc ρ4 k4 w4 ds B4 H4 α4 e4 => ?_) fun c ρ' z => GE.pop (GE.pop z)
      obtain ⟨t5, k5, k6⟩ := Post.lift k4
      exact h' E B4 H4 σ ρ4 α4 _ u w4 y zc bs ds Q t5 e4 k5 fun w5 cs5 B5 H5 α5 e5 => k6 w5 cs5 B5 H5 α5 (EnvR.drop1 (EnvR.drop2 e5))
    | false =>
      rw [if_neg Bool.false_ne_true]
      rw [if_neg Bool.false_ne_true] at h4
      exact h4 (.bl false) [] B3 H3 α3 (e3.pop.pop.pop.push rfl)
  · cases h3
theorem e_chain {op op' : CmpOp} {r r' : R2} {f g : Tm → Tm → Rho → Option Tm} {a b c : Expr} {ma mb mc : M Tm} (ho : OpR X (compareOp op) r) (ho' : OpR X (compareOp op') r') (h : OpM X.K r f) (h' : OpM X.K r' g) (ha : DE X W cv a ma) (hb : DE X W cv b mb) (hc : DE X W cv c mc)
    (hm : lastMarks [op, op'] [b, c] = false := by with_unfolding_all rfl) : DE X W cv (.Compare a [op, op'] [b, c] pos) (mChain f g ma mb mc) :=
  let ⟨_, h1, h2⟩ := ha; let ⟨_, h3, h4⟩ := hb; let ⟨_, h5, h6⟩ := hc; ⟨_, pe_chain ho ho' h1 h3 h5 hm, ev_chain h h' h2 h4 h6⟩
theorem t_chain {op op' : CmpOp} {r r' : R2} {f g : Tm → Tm → Rho → Option Tm} {a b c : Expr} {ma mb mc : M Tm} (ho : OpR X (compareOp op) r) (ho' : OpR X (compareOp op') r') (h : OpM X.K r f) (h' : OpM X.K r' g) (ha : DE X W cv a ma) (hb : DE X W cv b mb) (hc : DE X W cv c mc)
    (hm : lastMarks [op, op'] [b, c] = false := by with_unfolding_all rfl) : DT X W cv (.Compare a [op, op'] [b, c] pos) (mTru fBl (mChain f g ma mb mc)) :=
  let ⟨_, h1, h2⟩ := ha; let ⟨_, h3, h4⟩ := hb; let ⟨_, h5, h6⟩ := hc; ⟨_, pt_chain ho ho' h1 h3 h5 hm, tt_bl (ev_chain h h' h2 h4 h6)⟩
/-- and, or, not, as tests -/
def mAnd (a b : M Bool) : M Bool := a.bind fun c => if c = true then b else M.pure false
def mOr (a b : M Bool) : M Bool := a.bind fun c => if c = true then M.pure true else b
def mNot (a : M Bool) : M Bool := a.bind fun c => M.pure (!c)
variable {a b : Expr} {rest : List Expr} {ma mb : M Bool}
theorem tt_and {K : PySem.W.Frag} {t u : TT} (h : TtM K W cv t ma) (h' : TtM K W cv u mb) : TtM K W cv (tAnd t u) (mAnd ma mb) := fun E B H σ ρ α τ Q e q => by
  refine h E B H σ ρ α τ _ e ?_
  refine Post.imp (Post.bind q) (fun c ρ1 z B1 H1 α1 e1 => ?_) fun c ρ' z => z
  cases c with
  | true =>
    rw [if_pos rfl] at z ⊢
    exact h' E B1 H1 σ ρ1 α1 τ _ e1 z
  | false =>
    rw [if_neg Bool.false_ne_true] at z ⊢
    exact z B1 H1 α1 e1
theorem tt_or {K : PySem.W.Frag} {t u : TT} (h : TtM K W cv t ma) (h' : TtM K W cv u mb) : TtM K W cv (tOr t u) (mOr ma mb) := fun E B H σ ρ α τ Q e q => by
  refine h E B H σ ρ α τ _ e ?_
  refine Post.imp (Post.bind q) (fun c ρ1 z B1 H1 α1 e1 => ?_) fun c ρ' z => z
  cases c with
  | true =>
    rw [if_pos rfl] at z ⊢
    exact z B1 H1 α1 e1
  | false =>
    rw [if_neg Bool.false_ne_true] at z ⊢
    exact h' E B1 H1 σ ρ1 α1 τ _ e1 z
theorem w_and1 (h : DT X W cv a ma) : DW X W cv (.BoolOp .And [a] pos) ma := let ⟨_, h1, h2⟩ := h; ⟨_, pw_and1 h1, h2⟩
theorem w_or1 (h : DT X W cv a ma) : DW X W cv (.BoolOp .Or [a] pos) ma := let ⟨_, h1, h2⟩ := h; ⟨_, pw_or1 h1, h2⟩
theorem w_and (h : DT X W cv a ma) (h' : DW X W cv (.BoolOp .And (b :: rest) pos) mb) : DW X W cv (.BoolOp .And (a :: b :: rest) pos) (mAnd ma mb) := let ⟨_, h1, h2⟩ := h; let ⟨_, h3, h4⟩ := h'; ⟨_, pw_and h1 h3, tt_and h2 h4⟩
theorem w_or (h : DT X W cv a ma) (h' : DW X W cv (.BoolOp .Or (b :: rest) pos) mb) : DW X W cv (.BoolOp .Or (a :: b :: rest) pos) (mOr ma mb) := let ⟨_, h1, h2⟩ := h; let ⟨_, h3, h4⟩ := h'; ⟨_, pw_or h1 h3, tt_or h2 h4⟩
theorem t_w (h : DW X W cv a ma) : DT X W cv a ma := let ⟨_, h1, h2⟩ := h; ⟨_, h1.pt, h2⟩
theorem t_not (h : DT X W cv a ma) : DT X W cv (.UnaryOp .Not a pos) (mNot ma) := by
  obtain ⟨t, h1, h2⟩ := h
  refine ⟨_, pt_not h1, fun E B H σ ρ α τ Q e q => ?_⟩
  refine h2 E B H σ ρ α τ _ e ?_
  exact Post.imp (Post.bind q) (fun c ρ1 z B1 H1 α1 e1 => z B1 H1 α1 e1) fun c ρ' z => z
/-- .. as values, of truth values -/
def mAndV (ma mb : M Tm) : M Tm := (mTru fBl ma).bind fun c => if c = true then mb else M.pure (.v (.bl false))
def mOrV (ma mb : M Tm) : M Tm := (mTru fBl ma).bind fun c => if c = true then M.pure (.v (.bl true)) else mb
def mNotV (ma : M Tm) : M Tm := (mTru fBl ma).bind fun c => M.pure (.v (.bl (!c)))
variable {na nb : M Tm}
theorem e_one {op} (h : DE X W cv a na) : DE X W cv (.BoolOp op [a] pos) na := let ⟨_, h1, h2⟩ := h; ⟨_, pe_one h1, h2⟩
theorem e_and (h : DE X W cv a na) (h' : DE X W cv (.BoolOp .And (b :: rest) pos) nb) : DE X W cv (.BoolOp .And (a :: b :: rest) pos) (mAndV na nb) := by
  obtain ⟨t, h1, h2⟩ := h
  obtain ⟨t', h3, h4⟩ := h'
  refine ⟨_, pe_and h1 h3, fun E B H σ ρ α τ Q e q => ?_⟩
  refine tt_bl h2 E B H σ ρ α τ _ e ?_
  refine Post.imp (Post.bind q) (fun c ρ1 z B1 H1 α1 e1 => ?_) fun c ρ' z => z
  cases c with
  | true =>
    rw [if_pos rfl] at z ⊢
    exact h4 E B1 H1 σ ρ1 α1 τ _ e1 z
  | false =>
    rw [if_neg Bool.false_ne_true] at z ⊢
    exact z (.bl false) [] B1 H1 α1 (e1.push rfl)
theorem e_or (h : DE X W cv a na) (h' : DE X W cv (.BoolOp .Or (b :: rest) pos) nb) : DE X W cv (.BoolOp .Or (a :: b :: rest) pos) (mOrV na nb) := by
  obtain ⟨t, h1, h2⟩ := h
  obtain ⟨t', h3, h4⟩ := h'
  refine ⟨_, pe_or h1 h3, fun E B H σ ρ α τ Q e q => ?_⟩
  refine tt_bl h2 E B H σ ρ α τ _ e ?_
  refine Post.imp (Post.bind q) (fun c ρ1 z B1 H1 α1 e1 => ?_) fun c ρ' z => z
  cases c with
  | true =>
    rw [if_pos rfl] at z ⊢
    exact z (.bl true) [] B1 H1 α1 (e1.push rfl)
  | false =>
    rw [if_neg Bool.false_ne_true] at z ⊢
    exact h4 E B1 H1 σ ρ1 α1 τ _ e1 z
theorem e_not (h : DE X W cv a na) : DE X W cv (.UnaryOp .Not a pos) (mNotV na) := by
  obtain ⟨t, h1, h2⟩ := h
  refine ⟨_, pe_not h1, fun E B H σ ρ α τ Q e q => ?_⟩
  refine tt_bl h2 E B H σ ρ α τ _ e ?_
  exact Post.imp (Post.bind q) (fun c ρ1 z B1 H1 α1 e1 => z (.bl (!c)) [] B1 H1 α1 (e1.push rfl)) fun c ρ' z => z
/-- a if t else b -/
def mIte (c : M Bool) (ma mb : M Tm) : M Tm := c.bind fun k => if k = true then ma else mb
theorem e_ifExp {c : Expr} {mc : M Bool} (hc : DT X W cv c mc) (h : DE X W cv a na) (h' : DE X W cv b nb) : DE X W cv (.IfExp c a b pos) (mIte mc na nb) := by
  obtain ⟨t0, h5, h6⟩ := hc
  obtain ⟨t, h1, h2⟩ := h
  obtain ⟨t', h3, h4⟩ := h'
  refine ⟨_, pe_ifExp h5 h1 h3, fun E B H σ ρ α τ Q e q => ?_⟩
  refine h6 E B H σ ρ α τ _ e ?_
  refine Post.imp (Post.bind q) (fun c ρ1 z B1 H1 α1 e1 => ?_) fun c ρ' z => z
  cases c with
  | true =>
    rw [if_pos rfl] at z ⊢
    exact h2 E B1 H1 σ ρ1 α1 τ _ e1 z
  | false =>
    rw [if_neg Bool.false_ne_true] at z ⊢
    exact h4 E B1 H1 σ ρ1 α1 τ _ e1 z
end
end Pd
set_option Elab.async false
set_option linter.all false
set_option maxRecDepth 100000
set_option maxHeartbeats 2000000
/-! Pd3: targets, statements, loops. -/
namespace Pd
open PySem PySem.Spec PyProof.Rows L2

def isRv : V × Tm × List Addr → Bool
  | (_, .rv _, _) => true
  | _ => false
def NoPk (τ : Tau) : Prop := ∀ t ∈ τ, isRv t = true
section
variable {K : PySem.W.Frag} {Tb : List Addr} {E : Ent Tb} {B B' H H' : Hp} {σ : L2.St} {ρ : Rho} {α : Nat → List Addr} {τ : Tau} {v : V} {as : List Addr} {t : Tm}
theorem TmR.slots {σ' : L2.St} {u : V × Tm × List Addr} (h : isRv u = true) (r : TmR K B H σ u.1 u.2.1 u.2.2) : TmR K B H σ' u.1 u.2.1 u.2.2 := by
  obtain ⟨v, t, as⟩ := u
  cases t with
  | rv x => exact r
  | pk i => cases h
/-- a slot takes the tree on top -/
theorem EnvR.setSlot {i : Nat} {r : Rv} (np : NoPk τ) (e : EnvR K E B H σ ρ α ((v, .rv r, as) :: τ)) (h : ∀ s, ρ[i]? = some (.bor s) → False) (hi : i < ρ.length) : EnvR K E B H (σ.set i (some v)) (ρ.set i (.own r)) (fun j => if j = i then as else α j) τ := by
  have hiσ : i < σ.length := by rw [e.ln]; exact hi
  have T : RvR K B H r v as := e.tm _ List.mem_cons_self
  have hne : ∀ p ∈ E.roots, p.1 ≠ i := fun p hp z => by
    obtain ⟨_, r', hr'⟩ := e.rt p hp
    rw [z] at hr'
    exact h _ hr'
  have hnt := List.nodup_append.mp (show (as ++ addrs τ).Nodup from e.nt)
  refine ⟨e.bh, e.b0, e.nb, e.fr, e.wr, fun p hp => ?_, fun j r' hj => ?_, fun j => ?_, fun u hu => (e.tm u (List.mem_cons_of_mem _ hu)).slots (np u hu), fun j => ?_, fun j k hjk l hl => ?_, hnt.2.1, fun j l hl => ?_, fun j r' hj => ?_, fun j r' hj => ?_, fun l hl => e.ht l (List.mem_append_right _ hl), by rw [List.length_set, List.length_set, e.ln]⟩
  · obtain ⟨h1, r', hr'⟩ := e.rt p hp
    rw [List.getElem?_set_ne (Ne.symm (hne p hp)), List.getElem?_set_ne (Ne.symm (hne p hp))]
    exact ⟨h1, r', hr'⟩
  · by_cases hji : j = i
    · subst hji
      rw [List.getElem?_set_self hi] at hj
      cases hj
    · rw [List.getElem?_set_ne (Ne.symm hji)] at hj
      exact e.br j r' hj
  · by_cases hji : j = i
    · subst hji
      rw [List.getElem?_set_self hi, List.getElem?_set_self hiσ, if_pos rfl]
      exact ⟨v, rfl, T⟩
    · rw [List.getElem?_set_ne (Ne.symm hji), List.getElem?_set_ne (Ne.symm hji), if_neg hji]
      exact e.sl j
  · by_cases hji : j = i
    · rw [if_pos hji]; exact hnt.1
    · rw [if_neg hji]; exact e.nd j
  · by_cases hji : j = i
    · rw [if_pos hji] at hl
      by_cases hki : k = i
      · exact absurd (hji.trans hki.symm) hjk
      · rw [if_neg hki]
        exact e.dt k l (List.mem_append_left _ hl)
    · rw [if_neg hji] at hl
      by_cases hki : k = i
      · rw [if_pos hki]
        exact fun z => e.dt j l (List.mem_append_left _ z) hl
      · rw [if_neg hki]
        exact e.dj j k hjk l hl
  · by_cases hji : j = i
    · rw [if_pos hji]
      exact fun z => hnt.2.2 l z l hl rfl
    · rw [if_neg hji]
      exact e.dt j l (List.mem_append_right _ hl)
  · by_cases hji : j = i
    · rw [if_pos hji]
      exact fun l hl => e.ht l (List.mem_append_left _ hl)
    · rw [if_neg hji]
      rw [List.getElem?_set_ne (Ne.symm hji)] at hj
      exact e.ho j r' hj
  · by_cases hji : j = i
    · subst hji
      rw [List.getElem?_set_self hi] at hj
      cases hj
    · rw [if_neg hji]
      rw [List.getElem?_set_ne (Ne.symm hji)] at hj
      exact e.hb j r' hj
/-- a slot is forgotten; its value may be anything from now on -/
theorem EnvR.forget {i : Nat} {ov : Option V} (np : NoPk τ) (e : EnvR K E B H σ ρ α τ) (h : ∀ s, ρ[i]? = some (.bor s) → False) : EnvR K E B H (σ.set i ov) (ρ.set i .any) (fun j => if j = i then [] else α j) τ := by
  have hne : ∀ p ∈ E.roots, p.1 ≠ i := fun p hp z => by
    obtain ⟨_, r', hr'⟩ := e.rt p hp
    rw [z] at hr'
    exact h _ hr'
  refine ⟨e.bh, e.b0, e.nb, e.fr, e.wr, fun p hp => ?_, fun j r' hj => ?_, fun j => ?_, fun u hu => (e.tm u hu).slots (np u hu), fun j => ?_, fun j k hjk l hl => ?_, e.nt, fun j l hl => ?_, fun j r' hj => ?_, fun j r' hj => ?_, e.ht, by rw [List.length_set, List.length_set, e.ln]⟩
  · obtain ⟨h1, r', hr'⟩ := e.rt p hp
    rw [List.getElem?_set_ne (Ne.symm (hne p hp)), List.getElem?_set_ne (Ne.symm (hne p hp))]
    exact ⟨h1, r', hr'⟩
  · by_cases hji : j = i
    · subst hji
      by_cases hi : j < ρ.length
      · rw [List.getElem?_set_self hi] at hj
        cases hj
      · rw [List.getElem?_eq_none (by simpa using hi)] at hj
        cases hj
    · rw [List.getElem?_set_ne (Ne.symm hji)] at hj
      exact e.br j r' hj
  · by_cases hji : j = i
    · subst hji
      rw [if_pos rfl]
      by_cases hi : j < ρ.length
      · rw [List.getElem?_set_self hi]
        rfl
      · have z : (ρ.set j Sl.any)[j]? = none := List.getElem?_eq_none (by simpa using hi)
        rw [z]
        rfl
    · rw [List.getElem?_set_ne (Ne.symm hji), List.getElem?_set_ne (Ne.symm hji), if_neg hji]
      exact e.sl j
  · by_cases hji : j = i
    · rw [if_pos hji]; exact List.nodup_nil
    · rw [if_neg hji]; exact e.nd j
  · by_cases hji : j = i
    · rw [if_pos hji] at hl; cases hl
    · rw [if_neg hji] at hl
      by_cases hki : k = i
      · rw [if_pos hki]; simp
      · rw [if_neg hki]; exact e.dj j k hjk l hl
  · by_cases hji : j = i
    · rw [if_pos hji]; simp
    · rw [if_neg hji]; exact e.dt j l hl
  · by_cases hji : j = i
    · rw [if_pos hji]; intro l hl; cases hl
    · rw [if_neg hji]
      rw [List.getElem?_set_ne (Ne.symm hji)] at hj
      exact e.ho j r' hj
  · by_cases hji : j = i
    · rw [if_pos hji]; intro l hl; cases hl
    · rw [if_neg hji]
      rw [List.getElem?_set_ne (Ne.symm hji)] at hj
      exact e.hb j r' hj
theorem set_self {β : Type} {l : List β} {i : Nat} : ∀ {x : β}, l[i]? = some x → l.set i x = l := fun {x} h => by
  apply List.ext_getElem?
  intro j
  by_cases hj : j = i
  · subst hj
    rw [List.getElem?_set_self (List.getElem?_eq_some_iff.mp h).1, h]
  · rw [List.getElem?_set_ne (Ne.symm hj)]
theorem EnvR.forget' {i : Nat} (np : NoPk τ) (e : EnvR K E B H σ ρ α τ) (h : ∀ s, ρ[i]? = some (.bor s) → False) : EnvR K E B H σ (ρ.set i .any) (fun j => if j = i then [] else α j) τ := by
  cases hs : σ[i]? with
  | none =>
    have e1 := e.forget (ov := none) np h
    rw [List.set_eq_of_length_le (by simpa using hs)] at e1
    exact e1
  | some ov =>
    have e1 := e.forget (ov := ov) np h
    rw [set_self hs] at e1
    exact e1
end

/-! ### targets -/
abbrev G := Tm → Rho → Option Rho
def mSet (i : Nat) : G := fun t ρ => match t, ρ[i]? with
  | .rv r, some .any => some (ρ.set i (.own r))
  | .rv r, some (.own _) => some (ρ.set i (.own r))
  | _, _ => none
/-- σ' is σ but at these slots -/
def ButAt (is : List Nat) (σ σ' : L2.St) : Prop := σ'.length = σ.length ∧ ∀ j, j ∉ is → σ'[j]? = σ[j]?
abbrev TgM (K : PySem.W.Frag) (g : TG) (is : List Nat) (m : G) : Prop := ∀ {Tb : List Addr} (E : Ent Tb) (B H : Hp) (σ : L2.St) (ρ ρ' : Rho) (α : Nat → List Addr) (τ : Tau) (v : V) (t : Tm) (as : List Addr) (Q : L2.St → Hp → Prop), NoPk τ → EnvR K E B H σ ρ α ((v, t, as) :: τ) →
  m t ρ = some ρ' → (∀ σ' B' H' α', ButAt is σ σ' → EnvR K E B' H' σ' ρ' α' τ → Q σ' H') → g v σ H Q
def mSets : List G → List Tm → Rho → Option Rho
  | [], [], ρ => some ρ
  | m :: ms, t :: ts, ρ => (m t ρ).bind fun ρ' => mSets ms ts ρ'
  | _, _, _ => none
abbrev TgsM (K : PySem.W.Frag) (g : TGs) (is : List Nat) (ms : List G) : Prop := ∀ {Tb : List Addr} (E : Ent Tb) (B H : Hp) (σ : L2.St) (ρ ρ' : Rho) (α : Nat → List Addr) (τ ts : Tau) (Q : L2.St → Hp → Prop), NoPk (ts ++ τ) → EnvR K E B H σ ρ α (ts ++ τ) →
  mSets ms (ts.map (·.2.1)) ρ = some ρ' → (∀ σ' B' H' α', ButAt is σ σ' → EnvR K E B' H' σ' ρ' α' τ → Q σ' H') → g (ts.map (·.1)) σ H Q
theorem tg_name {K : PySem.W.Frag} (i : Nat) : TgM K (gName i) [i] (mSet i) := fun E B H σ ρ ρ' α τ v t as Q np e q k => by
  have q' := q
  unfold mSet at q'
  have fin : ∀ r, t = .rv r → (∀ s, ρ[i]? = some (.bor s) → False) → i < ρ.length → ρ.set i (.own r) = ρ' → gName i v σ H Q := fun r hr hb hl hk => by
    subst hr hk
    exact k _ B H _ ⟨by simp, fun j hj => by rw [List.getElem?_set_ne (fun z => hj (by simp [z]))]⟩ (e.setSlot np hb hl)
  cases t with
  | pk j => cases q'
  | rv r =>
    cases hs : ρ[i]? with
    | none => rw [hs] at q'; cases q'
    | some s =>
      have hl := (List.getElem?_eq_some_iff.mp hs).1
      rw [hs] at q'
      cases s with
      | any => exact fin r rfl (fun s z => by rw [hs] at z; cases z) hl (Option.some.inj q')
      | own x => exact fin r rfl (fun s z => by rw [hs] at z; cases z) hl (Option.some.inj q')
      | bor x => cases q'
theorem ButAt.refl (σ : L2.St) : ButAt [] σ σ := ⟨rfl, fun _ _ => rfl⟩
theorem ButAt.trans {a b : List Nat} {σ σ1 σ2 : L2.St} (h : ButAt a σ σ1) (h' : ButAt b σ1 σ2) : ButAt (a ++ b) σ σ2 :=
  ⟨h'.1.trans h.1, fun j hj => (h'.2 j fun z => hj (List.mem_append_right _ z)).trans (h.2 j fun z => hj (List.mem_append_left _ z))⟩
theorem tgs_nil {K : PySem.W.Frag} : TgsM K gNil [] [] := fun E B H σ ρ ρ' α τ ts Q np e q k => by
  cases ts with
  | nil =>
    cases q
    exact ⟨rfl, k σ B H α (ButAt.refl σ) e⟩
  | cons t ts => cases q
theorem tgs_cons {K : PySem.W.Frag} {g : TG} {gs : TGs} {is js : List Nat} {m : G} {ms : List G} (h : TgM K g is m) (hs : TgsM K gs js ms) : TgsM K (gCons g gs) (is ++ js) (m :: ms) := fun E B H σ ρ ρ' α τ ts Q np e q k => by
  cases ts with
  | nil => cases q
  | cons u ts =>
    obtain ⟨v, t, as⟩ := u
    obtain ⟨ρ1, q1, q2⟩ := Option.bind_eq_some_iff.mp (show (m t ρ).bind (fun ρ' => mSets ms (ts.map (·.2.1)) ρ') = some ρ' from q)
    have np' : NoPk (ts ++ τ) := fun x hx => np x (List.mem_cons_of_mem _ hx)
    refine ⟨v, ts.map (·.1), rfl, h E B H σ ρ ρ1 α (ts ++ τ) v t as _ np' e q1 fun σ1 B1 H1 α1 b1 e1 => ?_⟩
    exact hs E B1 H1 σ1 ρ1 ρ' α1 τ ts Q np' e1 q2 fun σ2 B2 H2 α2 b2 e2 => k σ2 B2 H2 α2 (b1.trans b2) e2
/-- the items of a sequence that is unpacked -/
def unp (t : Tm) (ρ : Rho) : Option (List Tm) := match t with
  | .rv (.tup rs) => some (rs.map .rv)
  | t => match t.tels ρ with
    | some ds => some (ds.map .v)
    | none => (t.els ρ).map fun ds => ds.map .v
def mUnp (n : Nat) (ms : List G) : G := fun t ρ => (unp t ρ).bind fun ts => when (ts.length = n) (mSets ms ts ρ)
theorem push_reps {K : PySem.W.Frag} {Tb : List Addr} {E : Ent Tb} {B H : Hp} {σ : L2.St} {ρ : Rho} {α : Nat → List Addr} {τ : Tau} : ∀ {ds : List D} {vs : List V}, EnvR K E B H σ ρ α τ → NoPk τ → Reps K B ds vs →
    ∃ ts : Tau, ts.map (·.1) = vs ∧ ts.map (·.2.1) = ds.map Tm.v ∧ NoPk (ts ++ τ) ∧ EnvR K E B H σ ρ α (ts ++ τ)
  | [], _, e, np, h => ⟨[], (show _ = [] from h).symm, rfl, np, e⟩
  | d :: ds, _, e, np, ⟨v, r, e1, h, t⟩ => by
    obtain ⟨ts, h1, h2, h3, h4⟩ := push_reps e np t
    subst e1
    refine ⟨(v, .v d, []) :: ts, by rw [List.map_cons, h1], by rw [List.map_cons, h2]; rfl, fun x hx => ?_, EnvR.push h4 h⟩
    rcases List.mem_cons.mp hx with z | z
    · rw [z]; rfl
    · exact h3 x z
theorem explode {K : PySem.W.Frag} {B H : Hp} {σ : L2.St} : ∀ {rs : List Rv} {vs : List V} {ass : List Addr}, RvRs K B H rs vs ass →
    ∃ ts : Tau, ts.map (·.1) = vs ∧ ts.map (·.2.1) = rs.map Tm.rv ∧ addrs ts = ass ∧ (∀ t ∈ ts, isRv t = true) ∧ ∀ t ∈ ts, TmR K B H σ t.1 t.2.1 t.2.2
  | [], _, _, h => ⟨[], h.1.symm, rfl, h.2.symm, fun _ z => (by cases z), fun _ z => (by cases z)⟩
  | x :: xs, _, _, ⟨v, r, a1, a2, e1, e2, h, t⟩ => by
    obtain ⟨ts, h1, h2, h3, h4, h5⟩ := explode (σ := σ) t
    subst e1 e2
    refine ⟨(v, .rv x, a1) :: ts, by rw [List.map_cons, h1], by rw [List.map_cons, h2]; rfl, by rw [← h3]; rfl, fun y hy => ?_, fun y hy => ?_⟩
    · rcases List.mem_cons.mp hy with z | z
      · rw [z]; rfl
      · exact h4 y z
    · rcases List.mem_cons.mp hy with z | z
      · rw [z]; exact h
      · exact h5 y z
theorem Reps.len {K : PySem.W.Frag} {B : Hp} {ds : List D} {vs : List V} (h : Reps K B ds vs) : vs.length = ds.length := h.length.symm
/-- (a, b, ..) = a tuple or a list -/
def gSeq (K : PySem.W.Frag) (n : Nat) (t : TGs) : TG := fun v σ H Q => gTup K n t v σ H Q ∨ gLst K n t v σ H Q
theorem pg_seq {X : Cx} {pos : Pos} {es : List Expr} {k : Nat} {t : TGs} {n : Nat} (hc : X.calm = true) (h : PGs X es t)
    (hn : (assignEach es X.env).length = n := by rfl) (hst : (assignEach es X.env).findIdx? (·.1) = none := by rfl) : PG X (.Tuple es k pos) (gSeq X.K n t) :=
  ⟨fun pins s σ H v u Q I r hw => hw.elim (fun a => (pg_tup hc h hn hst).run pins s σ H v u Q I r a) fun a => (pg_lst hc h hn hst).run pins s σ H v u Q I r a⟩
theorem tg_seq {K : PySem.W.Frag} {gs : TGs} {is : List Nat} {ms : List G} {n : Nat} (h : TgsM K gs is ms) : TgM K (gSeq K n gs) is (mUnp n ms) := fun E B H σ ρ ρ' α τ v t as Q np e q k => by
  obtain ⟨us, hu, q⟩ := Option.bind_eq_some_iff.mp q
  obtain ⟨hl, q⟩ := when_some q
  have byReps : ∀ (ds : List D) (vs : List V), us = ds.map Tm.v → Reps K B ds vs → vs.length = n ∧ gs vs σ H Q := fun ds vs e1 r => by
    obtain ⟨ts, h1, h2, h3, h4⟩ := push_reps e.pop np r
    have hln : vs.length = n := by rw [r.len, ← hl, e1, List.length_map]
    refine ⟨hln, ?_⟩
    rw [← h1]
    exact h E B H σ ρ ρ' α τ ts Q h3 h4 (by rw [h2, ← e1]; exact q) k
  have viaD : ((match t.tels ρ with
      | some ds => some (ds.map Tm.v)
      | none => (t.els ρ).map fun ds => ds.map Tm.v) = some us) → gSeq K n gs v σ H Q := fun hu => by
    cases ht : t.tels ρ with
    | some ds =>
      rw [ht] at hu
      cases hu
      obtain ⟨a, vs, k1, k2, k3⟩ := e.tels List.mem_cons_self ht
      obtain ⟨k4, k5⟩ := byReps ds vs rfl k3
      exact .inl ⟨a, vs, k1, k2, k4, k5⟩
    | none =>
      rw [ht] at hu
      cases he : t.els ρ with
      | none => rw [he] at hu; cases hu
      | some ds =>
        rw [he] at hu
        cases hu
        obtain ⟨a, vs, k1, k2, k3⟩ := e.els List.mem_cons_self he
        obtain ⟨k4, k5⟩ := byReps ds vs rfl k3
        exact .inr ⟨a, vs, k1, SqL.of k2, k4, k5⟩
  unfold unp at hu
  cases t with
  | pk i => exact viaD hu
  | rv r =>
    cases r with
    | val d => exact viaD hu
    | own rs => exact viaD hu
    | tup rs =>
      cases hu
      have T : RvR K B H (.tup rs) v as := e.tm _ List.mem_cons_self
      obtain ⟨l, vs, ass, k1, k2, k3, k4, k5⟩ := T
      obtain ⟨ts, h1, h2, h3, h4, h5⟩ := explode (σ := σ) k4
      subst k5
      have hnt := List.nodup_cons.mp (show (l :: (ass ++ addrs τ)).Nodup from e.nt)
      have ha : addrs (ts ++ τ) = ass ++ addrs τ := by rw [← h3]; unfold addrs; rw [List.flatMap_append]
      have e2 : EnvR K E B H σ ρ α (ts ++ τ) := ⟨e.bh, e.b0, e.nb, e.fr, e.wr, e.rt, e.br, e.sl, fun u hu => (List.mem_append.mp hu).elim (h5 u) fun z => e.tm u (List.mem_cons_of_mem _ z), e.nd, e.dj, by rw [ha]; exact hnt.2,
        fun i l' hl' => e.dt i l' (by rw [ha] at hl'; exact List.mem_cons_of_mem _ hl'), e.ho, e.hb, fun l' hl' => e.ht l' (by rw [ha] at hl'; exact List.mem_cons_of_mem _ hl'), e.ln⟩
      refine .inl ⟨l, vs, k1, SqT.of k2, ?_, ?_⟩
      · rw [← h1, List.length_map, ← hl, List.length_map]
        have := congrArg List.length h2
        rw [List.length_map, List.length_map] at this
        exact this
      · rw [← h1]
        exact h E B H σ ρ ρ' α τ ts Q (fun x hx => (List.mem_append.mp hx).elim (h4 x) (np x)) e2 (by rw [h2]; exact q) k

/-! ### statements -/
section
variable {X : Cx} {W : WX} {cv : Cv} {pos : Pos}
def DG (X : Cx) (e : Expr) (is : List Nat) (m : G) : Prop := ∃ g, PG X e g ∧ TgM X.K g is m
def DGs (X : Cx) (es : List Expr) (is : List Nat) (ms : List G) : Prop := ∃ g, PGs X es g ∧ TgsM X.K g is ms
theorem g_name (i : Nat) {x : Str} (hN : X.N.Nodup) (hi : X.N[i]? = some x := by rfl) (hx : Loc X.env.scope x := by first | exact .inl rfl | exact .inr rfl) (hf : X.fn x = true ∨ X.env.scope.names.lookup x = some .local := by first | exact .inl rfl | exact .inr rfl | assumption) : DG X (.Name x pos) [i] (mSet i) := ⟨_, pg_name hN hi hx hf, tg_name i⟩
theorem gs_nil : DGs X [] [] [] := ⟨_, pgs_nil, tgs_nil⟩
theorem gs_cons {e : Expr} {es : List Expr} {is js : List Nat} {m : G} {ms : List G} (h : DG X e is m) (hs : DGs X es js ms)
    (hst : (assignEach (e :: es) X.env).map (·.2) = assign e X.env :: (assignEach es X.env).map (·.2) := by rfl) : DGs X (e :: es) (is ++ js) (m :: ms) := let ⟨_, h1, h2⟩ := h; let ⟨_, h3, h4⟩ := hs; ⟨_, pgs_cons h1 h3 hst, tgs_cons h2 h4⟩
theorem g_seq {es : List Expr} {k : Nat} {is : List Nat} {ms : List G} {n : Nat} (hc : X.calm = true) (h : DGs X es is ms)
    (hn : (assignEach es X.env).length = n := by rfl) (hst : (assignEach es X.env).findIdx? (·.1) = none := by rfl) : DG X (.Tuple es k pos) is (mUnp n ms) := let ⟨_, h1, h2⟩ := h; ⟨_, pg_seq hc h1 hn hst, tg_seq h2⟩

def put (o : Rho → Option Rho) : M Unit := fun ρ => match o ρ with
  | some ρ' => .ok () ρ'
  | none => .bad
theorem Post.put {o : Rho → Option Rho} {ρ : Rho} {f : Unit → Rho → Prop} {g : Str → Rho → Prop} (h : Post (put o ρ) f g) : ∃ ρ', o ρ = some ρ' ∧ f () ρ' := by
  unfold Pd.put at h
  cases e : o ρ with
  | none => rw [e] at h; exact h.elim
  | some a => rw [e] at h; exact ⟨a, rfl, h⟩
def mNx : M Fl := M.pure .nx
def mAsg (me : M Tm) (mt : G) : M Fl := me.bind fun t => (put (mt t)).bind fun _ => mNx
theorem noPk_nil : NoPk [] := fun _ z => by cases z
theorem st_asg {K : PySem.W.Frag} {te : TE} {g : TG} {is : List Nat} {me : M Tm} {mt : G} (h : EvM K W cv te me) (hg : TgM K g is mt) : StM K W cv (tAsg te g) (mAsg me mt) := fun E B H σ ρ α D e q => by
  refine h E B H σ ρ α [] _ e ?_
  refine Post.imp (Post.bind q) (fun t ρ1 z v as B1 H1 α1 e1 => ?_) fun c ρ' z B' H' α' e' => z σ B' H' α' e'
  obtain ⟨ρ2, h1, h2⟩ := Post.put (Post.bind z)
  exact hg E B1 H1 σ ρ1 ρ2 α1 [] v t as _ noPk_nil e1 h1 fun σ' B' H' α' _ e' => h2 σ' B' H' α' e'
theorem s_asg {tg e : Expr} {is : List Nat} {me : M Tm} {mt : G} (h : DE X W cv e me) (hg : DG X tg is mt) (hs : swapsWithSole [tg] e pos.line X.env = pure false := by rfl) (hw : swappedStores [tg] e X.env = pure none := by rfl)
    (h1 : (assignEach [tg] X.env).map (·.2) = [assign tg X.env] := by rfl) : DS X W cv (.Assign [tg] e pos) (mAsg me mt) := let ⟨_, h3, h4⟩ := h; let ⟨_, h5, h6⟩ := hg; ⟨_, ps_asg h3 h5 hs hw h1, st_asg h4 h6⟩
theorem s_set (i : Nat) {x : Str} {e : Expr} {me : M Tm} {pos' : Pos} (hN : X.N.Nodup) (he : DE X W cv e me) (hi : X.N[i]? = some x := by rfl) (hx : Loc X.env.scope x := by first | exact .inl rfl | exact .inr rfl) (hs : swapsWith e (some (.Name x pos')) pos.line X.env = pure false := by rfl) (hf : X.fn x = true ∨ X.env.scope.names.lookup x = some .local := by first | exact .inl rfl | exact .inr rfl | assumption) :
    DS X W cv (.Assign [.Name x pos'] e pos) (mAsg me (mSet i)) := let ⟨_, h3, h4⟩ := he; ⟨_, ps_set hN hi hx h3 hs hf, st_asg h4 (tg_name i)⟩

/-! ### blocks -/
def mSeq (a b : M Fl) : M Fl := a.bind fun f => match f with
  | .nx => b
  | f => M.pure f
theorem st_seq {K : PySem.W.Frag} {t u : TS} {a b : M Fl} (h : StM K W cv t a) (h' : StM K W cv u b) : StM K W cv (tSeq t u) (mSeq a b) := fun E B H σ ρ α D e q => by
  refine h E B H σ ρ α _ e ?_
  refine Post.imp (Post.bind q) (fun f ρ1 z => ?_) fun c ρ' z => z
  cases f with
  | nx => exact fun σ' B' H' α' e' => h' E B' H' σ' ρ1 α' D e' z
  | rt r => exact z
  | bk => exact z
  | ct => exact z
theorem b_nil : DSs X W cv [] mNx := ⟨_, pss_nil, fun E B H σ ρ α D e q => q σ B H α e⟩
theorem b_cons {s : Stmt} {ss : List Stmt} {a b : M Fl} (h : DS X W cv s a) (h' : DSs X W cv ss b) : DSs X W cv (s :: ss) (mSeq a b) := let ⟨_, h1, h2⟩ := h; let ⟨_, h3, h4⟩ := h'; ⟨_, pss_cons h1 h3, st_seq h2 h4⟩
theorem b_one {s : Stmt} {a : M Fl} (h : DS X W cv s a) : DSs X W cv [s] a := let ⟨_, h1, h2⟩ := h; ⟨_, pss_one h1, h2⟩
theorem s_pass : DS X W cv (.Pass pos) mNx := ⟨_, ps_pass, fun E B H σ ρ α D e q => q σ B H α e⟩
def mBk : M Fl := M.pure .bk
def mCt : M Fl := M.pure .ct
theorem s_break : DS X W cv (.Break pos) mBk := ⟨_, ps_break, fun E B H σ ρ α D e q => q σ B H α e⟩
theorem s_continue : DS X W cv (.Continue pos) mCt := ⟨_, ps_continue, fun E B H σ ρ α D e q => q σ B H α e⟩
/-- return e; pk must not leave -/
def mRet (m : M Tm) : M Fl := m.bind fun t => match t with
  | .rv r => M.pure (.rt r)
  | .pk _ => fun _ => .bad
theorem s_ret {e : Expr} {m : M Tm} (h : DE X W cv e m) : DS X W cv (.Return (some e) pos) (mRet m) := by
  obtain ⟨t, h1, h2⟩ := h
  refine ⟨_, ps_ret h1, fun E B H σ ρ α D e q => ?_⟩
  refine h2 E B H σ ρ α [] _ e ?_
  refine Post.imp (Post.bind q) (fun t ρ1 z v as B1 H1 α1 e1 => ?_) fun c ρ' z B' H' α' e' => z σ B' H' α' e'
  cases t with
  | rv r => exact z v as σ B1 H1 α1 e1
  | pk i => exact z.elim
theorem s_retN : DS X W cv (.Return none pos) (M.pure (.rt (.val .non))) := ⟨_, ps_retN, fun E B H σ ρ α D e q => q .non [] σ B H α (e.push rfl)⟩
def mDrop (m : M Tm) : M Fl := m.bind fun _ => mNx
theorem s_expr {e : Expr} {m : M Tm} (h : DE X W cv e m) (hs : swapsWith e none pos.line X.env = pure false := by rfl) : DS X W cv (.Expr e pos) (mDrop m) := by
  obtain ⟨t, h1, h2⟩ := h
  refine ⟨_, ps_expr h1 hs, fun E B H σ ρ α D e q => ?_⟩
  refine h2 E B H σ ρ α [] _ e ?_
  exact Post.imp (Post.bind q) (fun t ρ1 z v as B1 H1 α1 e1 => z σ B1 H1 α1 e1.pop) fun c ρ' z B' H' α' e' => z σ B' H' α' e'
def mIf (c : M Bool) (a b : M Fl) : M Fl := c.bind fun k => if k = true then a else b
theorem s_if {c : Expr} {as bs : List Stmt} {mc : M Bool} {a b : M Fl} (hc : DT X W cv c mc) (ha : DSs X W cv as a) (hb : DSs X W cv bs b) : DS X W cv (.If c as bs pos) (mIf mc a b) := by
  obtain ⟨t0, h5, h6⟩ := hc
  obtain ⟨t, h1, h2⟩ := ha
  obtain ⟨t', h3, h4⟩ := hb
  refine ⟨_, ps_if h5 h1 h3, fun E B H σ ρ α D e q => ?_⟩
  refine h6 E B H σ ρ α [] _ e ?_
  refine Post.imp (Post.bind q) (fun c ρ1 z B1 H1 α1 e1 => ?_) fun c ρ' z B' H' α' e' => z σ B' H' α' e'
  cases c with
  | true =>
    rw [if_pos rfl] at z ⊢
    exact h2 E B1 H1 σ ρ1 α1 D e1 z
  | false =>
    rw [if_neg Bool.false_ne_true] at z ⊢
    exact h4 E B1 H1 σ ρ1 α1 D e1 z
/-- raise C('..') -/
def mErr (c : Str) : M Fl := fun ρ => .err c ρ
theorem s_raise {e : Expr} {c : Str} (hc : X.calm = true) (tk : L2N.Takes X W) (he : L2N.PMk X e (fun _ H Q => Q (cv.f c) none H)) : DS X W cv (.Raise (some e) none pos) (mErr c) := ⟨_, L2N.ps_raise hc tk he, fun E B H σ ρ α D e q => q σ B H α e⟩
end
end Pd
set_option Elab.async false
set_option linter.all false
set_option maxRecDepth 100000
set_option maxHeartbeats 2000000
/-! Pd4: while, for, comprehensions. -/
namespace Pd
open PySem PySem.Spec PyProof.Rows L2

/-! ### slots forgotten -/
def fgt1 (j : Nat) (ρ : Rho) : Option Rho := match ρ[j]? with
  | some (.bor _) => none
  | _ => some (ρ.set j .any)
def fgt : List Nat → Rho → Option Rho
  | [], ρ => some ρ
  | j :: js, ρ => (fgt1 j ρ).bind (fgt js)
section
variable {K : PySem.W.Frag} {Tb : List Addr} {E : Ent Tb} {B B' H H' : Hp} {σ : L2.St} {ρ ρ' : Rho} {α : Nat → List Addr} {τ : Tau} {v : V} {as : List Addr} {t : Tm}
theorem fgt1_bor {j : Nat} (h : fgt1 j ρ = some ρ') : (∀ s, ρ[j]? = some (.bor s) → False) ∧ ρ' = ρ.set j .any := by
  unfold fgt1 at h
  split at h
  · cases h
  · rename_i x hx
    cases h
    exact ⟨fun s hs => hx s hs, rfl⟩
theorem EnvR.fgts (np : NoPk τ) : ∀ {js : List Nat} {ρ : Rho} {α : Nat → List Addr}, EnvR K E B H σ ρ α τ → fgt js ρ = some ρ' → ∃ α', EnvR K E B H σ ρ' α' τ
  | [], _, α, e, h => by
    cases h
    exact ⟨α, e⟩
  | j :: js, ρ, α, e, h => by
    obtain ⟨ρ1, h1, h2⟩ := Option.bind_eq_some_iff.mp h
    obtain ⟨h3, h4⟩ := fgt1_bor h1
    subst h4
    exact EnvR.fgts np (e.forget' np h3) h2
end
abbrev mFgt (js : List Nat) : M Unit := put (fgt js)
theorem Post.bindU {β : Type} {o : Rho → Option Rho} {k : M β} {ρ : Rho} {f : β → Rho → Prop} {g : Str → Rho → Prop} (h : Post ((Pd.put o).bind (fun _ => k) ρ) f g) : ∃ ρ', o ρ = some ρ' ∧ Post (k ρ') f g := Post.put (Post.bind h)

/-- the same entry, with what is frozen now as its ground -/
abbrev Ent.at {Tb : List Addr} (E : Ent Tb) (B : Hp) : Ent Tb := { E with B0 := B }
theorem EnvR.rebase {K : PySem.W.Frag} {Tb : List Addr} {E : Ent Tb} {B H : Hp} {σ : L2.St} {ρ : Rho} {α : Nat → List Addr} {τ : Tau} (e : EnvR K E B H σ ρ α τ) : EnvR K (E.at B) B H σ ρ α τ :=
  ⟨e.bh, Same.refl _, fun p hp => .inl hp, ⟨e.fr.fr, e.fr.tk, e.fr.tn, fun p ps h => by
    obtain ⟨ps', h1, _⟩ := e.fr.tk p ps h
    exact e.tabB h1, e.fr.tg⟩, e.wr, e.rt, e.br, e.sl, e.tm, e.nd, e.dj, e.nt, e.dt, e.ho, e.hb, e.ht, e.ln⟩
theorem EnvR.unbase {K : PySem.W.Frag} {Tb : List Addr} {E : Ent Tb} {Bk B H : Hp} {σ : L2.St} {ρ : Rho} {α : Nat → List Addr} {τ : Tau} (s : Same E.B0 Bk) (n : ∀ p, Bk p ≠ none → E.B0 p ≠ none ∨ E.H0 p = none) (e : EnvR K (E.at Bk) B H σ ρ α τ) : EnvR K E B H σ ρ α τ :=
  ⟨e.bh, s.trans e.b0, fun p hp => (e.nb p hp).elim (n p) .inr, ⟨e.fr.fr, e.fr.tk, e.fr.tn, fun p ps h => s.free (e.fr.t0 p ps h), e.fr.tg⟩, e.wr, e.rt, e.br, e.sl, e.tm, e.nd, e.dj, e.nt, e.dt, e.ho, e.hb, e.ht, e.ln⟩
theorem StP.base {K : PySem.W.Frag} {Tb : List Addr} {E : Ent Tb} {Bk : Hp} {D : Ends} (s : Same E.B0 Bk) (n : ∀ p, Bk p ≠ none → E.B0 p ≠ none ∨ E.H0 p = none) : ∀ {f : Fl} {ρ : Rho}, StP K E D f ρ → StP K (E.at Bk) D f ρ
  | .nx, _, h => fun σ' B' H' α' e => h σ' B' H' α' (e.unbase s n)
  | .rt r, _, h => fun v as σ' B' H' α' e => h v as σ' B' H' α' (e.unbase s n)
  | .bk, _, h => fun σ' B' H' α' e => h σ' B' H' α' (e.unbase s n)
  | .ct, _, h => fun σ' B' H' α' e => h σ' B' H' α' (e.unbase s n)

/-! ### while -/
def mWhile (c : M Bool) (b : M Fl) (js : List Nat) : Nat → M Fl
  | 0 => fun _ => .bad
  | n + 1 => (mFgt js).bind fun _ => c.bind fun k => if k = true then b.bind fun f => match f with
      | .nx => mWhile c b js n
      | .ct => mWhile c b js n
      | .bk => (mFgt js).bind fun _ => mNx
      | .rt r => M.pure (.rt r)
    else mNx
theorem st_while {K : PySem.W.Frag} {W : WX} {cv : Cv} {tc : TT} {tb : TS} {c : M Bool} {b : M Fl} {js : List Nat} {n : Nat} (hc : TtM K W cv tc c) (hb : StM K W cv tb b) : StM K W cv (tWhile tc tb) (mWhile c b js n) := fun E B H σ ρ α D e q => by
  refine ⟨fun m σ H => ∃ B ρ α, EnvR K E B H σ ρ α [] ∧ Post (mWhile c b js m ρ) (StP K E D) (GS K W cv E), ⟨n, B, ρ, α, e, q⟩, ?_⟩
  rintro m σ1 H1 ⟨B1, ρ1, α1, e1, q1⟩
  cases m with
  | zero => exact q1.elim
  | succ m =>
    obtain ⟨ρ2, k1, k2⟩ := Post.bindU q1
    obtain ⟨α2, e2⟩ := EnvR.fgts noPk_nil e1 k1
    refine hc E B1 H1 σ1 ρ2 α2 [] _ e2 ?_
    refine Post.imp (Post.bind k2) (fun k ρ3 z B3 H3 α3 e3 => ?_) fun c ρ' z B' H' α' e' => z σ1 B' H' α' e'
    cases k with
    | false =>
      rw [if_neg Bool.false_ne_true] at z ⊢
      exact z σ1 B3 H3 α3 e3
    | true =>
      rw [if_pos rfl] at z ⊢
      refine ⟨fun σ' H' => ∃ B ρ α, EnvR K E B H' σ' ρ α [] ∧ Post (mWhile c b js m ρ) (StP K E D) (GS K W cv E), fun σ' H' h => ⟨m, Nat.lt_succ_self m, h⟩, ?_⟩
      refine hb E B3 H3 σ1 ρ3 α3 _ e3 ?_
      refine Post.imp (Post.bind z) (fun f ρ4 y => ?_) fun c ρ' z => z
      cases f with
      | nx => exact fun σ' B' H' α' e' => ⟨B', ρ4, α', e', y⟩
      | ct => exact fun σ' B' H' α' e' => ⟨B', ρ4, α', e', y⟩
      | bk =>
        intro σ' B' H' α' e'
        obtain ⟨ρ5, y1, y2⟩ := Post.bindU y
        obtain ⟨α5, e5⟩ := EnvR.fgts noPk_nil e' y1
        exact y2 σ' B' H' α5 e5
      | rt r => exact y

/-! ### what is walked -/
/-- J walks the data ds, while what is frozen at B stands; a pair may be made for each turn -/
def WalkD (K : PySem.W.Frag) (B : Hp) (J : It) (ds : List D) : Prop := ∃ Y, Walk J ds.length (fun H => Same B H) Y ∧ ∀ i H x H', i < ds.length → Same B H → Y i H x H' → ∃ d, ds[i]? = some d ∧
  ((H' = H ∧ Rep K B d x) ∨ ∃ T vs es, x = .ref T ∧ H T = none ∧ H' = upd H T (.tup vs) ∧ d = .tup es ∧ Reps K B es vs)
def ItM (K : PySem.W.Frag) (W : WX) (cv : Cv) (wi : TI) (m : M (List D)) : Prop := ∀ (E : Ent cv.tb) (B H : Hp) (σ : L2.St) (ρ : Rho) (α : Nat → List Addr) (τ : Tau) (R : It → Hp → Prop), EnvR K E B H σ ρ α τ →
  Post (m ρ) (fun ds ρ' => ∀ J B' H' α', EnvR K E B' H' σ ρ' α' τ → WalkD K B' J ds → R J H') (GE K W cv E σ τ) → wi σ H R
def DI (X : Cx) (W : WX) (cv : Cv) (tg e : Expr) (m : M (List D)) : Prop := ∃ wi, PI X tg e wi ∧ ItM X.K W cv wi m

def mLoop (tg : G) (b : M Fl) (js : List Nat) : List D → M Fl
  | [] => (mFgt js).bind fun _ => mNx
  | d :: ds => (mFgt js).bind fun _ => (put (tg (.v d))).bind fun _ => b.bind fun f => match f with
      | .nx => mLoop tg b js ds
      | .ct => mLoop tg b js ds
      | .bk => (mFgt js).bind fun _ => mNx
      | .rt r => M.pure (.rt r)
def mFor (it : M (List D)) (tg : G) (b : M Fl) (js : List Nat) : M Fl := it.bind fun ds => mLoop tg b js ds
theorem drop_at {β : Type} {l : List β} {i : Nat} {d : β} (h : l[i]? = some d) : l.drop i = d :: l.drop (i + 1) := by
  obtain ⟨hi, e⟩ := List.getElem?_eq_some_iff.mp h
  rw [List.drop_eq_getElem_cons hi, e]
/-- the item of a turn joins the temporaries -/
theorem item_push {K : PySem.W.Frag} {Tb : List Addr} {E : Ent Tb} {Bk B H H' : Hp} {σ : L2.St} {ρ : Rho} {α : Nat → List Addr} {τ : Tau} {d : D} {x : V} (s : Same Bk B) (e : EnvR K E B H σ ρ α τ)
    (h : (H' = H ∧ Rep K Bk d x) ∨ ∃ T vs es, x = .ref T ∧ H T = none ∧ H' = upd H T (.tup vs) ∧ d = .tup es ∧ Reps K Bk es vs) : ∃ B', Same B B' ∧ EnvR K E B' H' σ ρ α ((x, .v d, []) :: τ) := by
  rcases h with ⟨h1, h2⟩ | ⟨T, vs, es, h1, h2, h3, h4, h5⟩
  · subst h1
    exact ⟨B, Same.refl _, e.push (h2.mono s)⟩
  · subst h1 h3 h4
    exact ⟨_, Same.upd (e.bh.free h2), e.newTup h2 (h5.mono s)⟩
theorem st_for {K : PySem.W.Frag} {W : WX} {cv : Cv} {wi : TI} {g : TG} {tb : TS} {is : List Nat} {it : M (List D)} {tg : G} {b : M Fl} {js : List Nat} (hi : ItM K W cv wi it) (hg : TgM K g is tg) (hb : StM K W cv tb b) : StM K W cv (tFor wi g tb) (mFor it tg b js) := fun E B H σ ρ α D e q => by
  refine hi E B H σ ρ α [] _ e ?_
  refine Post.imp (Post.bind q) (fun ds ρ1 z J Bk H1 α1 e1 w => ?_) fun c ρ' z B' H' α' e' => z σ B' H' α' e'
  obtain ⟨Y, w1, w2⟩ := w
  have z0 : Post (mLoop tg b js ds ρ1) (StP K (E.at Bk) D) (GS K W cv (E.at Bk)) := Post.imp z (fun f ρ' h => StP.base e1.b0 e1.nb h) fun c ρ' h σ' B' H' α' e' => h σ' B' H' α' (e'.unbase e1.b0 e1.nb)
  refine for_it w1 (fun i σ H => ∃ B ρ α, EnvR K (E.at Bk) B H σ ρ α [] ∧ Post (mLoop tg b js (ds.drop i) ρ) (StP K (E.at Bk) D) (GS K W cv (E.at Bk))) ⟨Bk, ρ1, α1, e1.rebase, z0⟩ (fun i σ H _ ⟨B, ρ, α, e, _⟩ => e.b0.trans e.bh) ?_ ?_
  · rintro i x σ2 H2 H2' hi2 ⟨B2, ρ2, α2, e2, q2⟩ y
    obtain ⟨d, hd, hx⟩ := w2 i H2 x H2' hi2 (e2.b0.trans e2.bh) y
    rw [drop_at hd] at q2
    obtain ⟨ρ3, k1, k2⟩ := Post.bindU q2
    obtain ⟨α3, e3⟩ := EnvR.fgts noPk_nil e2 k1
    obtain ⟨ρ4, k3, k4⟩ := Post.bindU k2
    obtain ⟨B3, s3, e4⟩ := item_push e2.b0 e3 hx
    refine hg _ B3 H2' σ2 ρ3 ρ4 α3 [] x (.v d) [] _ noPk_nil e4 k3 fun σ5 B5 H5 α5 _ e5 => ?_
    refine hb _ B5 H5 σ5 ρ4 α5 _ e5 ?_
    refine Post.imp (Post.bind k4) (fun f ρ6 y => ?_) fun c ρ' z => z
    cases f with
    | nx => exact fun σ' B' H' α' e' => ⟨B', ρ6, α', e', y⟩
    | ct => exact fun σ' B' H' α' e' => ⟨B', ρ6, α', e', y⟩
    | bk =>
      intro σ' B' H' α' e'
      obtain ⟨ρ7, y1, y2⟩ := Post.bindU y
      obtain ⟨α7, e7⟩ := EnvR.fgts noPk_nil e' y1
      exact y2 σ' B' H' α7 e7
    | rt r => exact y
  · rintro σ2 H2 ⟨B2, ρ2, α2, e2, q2⟩
    rw [List.drop_length] at q2
    obtain ⟨ρ3, k1, k2⟩ := Post.bindU q2
    obtain ⟨α3, e3⟩ := EnvR.fgts noPk_nil e2 k1
    exact k2 σ2 B2 H2 α3 e3
section
variable {X : Cx} {W : WX} {cv : Cv} {pos : Pos}
theorem s_while {c : Expr} {body : List Stmt} {mc : M Bool} {mb : M Fl} (js : List Nat) (n : Nat) (hp : PassesOwn (model X.prog X.w) X.A X.env X.xe) (hc : DT X W cv c mc) (hb : DSs X W cv body mb) : DS X W cv (.While c body [] pos) (mWhile mc mb js n) :=
  let ⟨_, h1, h2⟩ := hc; let ⟨_, h3, h4⟩ := hb; ⟨_, ps_while hp h1 h3, st_while h2 h4⟩
theorem s_for {tg iter : Expr} {body : List Stmt} {is : List Nat} {it : M (List D)} {mt : G} {mb : M Fl} (js : List Nat) (hp : PassesOwn (model X.prog X.w) X.A X.env X.xe) (hc : X.calm = true) (hi : DI X W cv tg iter it) (hg : DG X tg is mt) (hb : DSs X W cv body mb)
    (hs : ∀ x, foldedSetIterable iter X.env x = pure x := by intro _; rfl) : DS X W cv (.For tg iter body [] pos) (mFor it mt mb js) :=
  let ⟨_, h1, h2⟩ := hi; let ⟨_, h3, h4⟩ := hg; let ⟨_, h5, h6⟩ := hb; ⟨_, ps_for hp hc h1 h3 h5 hs, st_for h2 h4 h6⟩
end

/-! ### lists, tuples, ranges, walked -/
theorem walkD_list {K : PySem.W.Frag} {B : Hp} {a : Addr} {vs : List V} {ds : List D} (h : SqL K B a vs) (r : Reps K B ds vs) : WalkD K B (Itl K a) ds := by
  refine ⟨YAt vs, ?_, fun i H x H' hi s y => ?_⟩
  · rw [r.length]
    exact (walk_list (xs := vs)).mono (fun H s => sqL_same s h) fun _ _ _ _ _ _ y => y
  · obtain ⟨d, h1, h2⟩ := r.getV y.2
    exact ⟨d, h1, .inl ⟨y.1, h2⟩⟩
theorem walkD_tup {K : PySem.W.Frag} {B : Hp} {a : Addr} {vs : List V} {ds : List D} (h : SqT K B a vs) (r : Reps K B ds vs) : WalkD K B (Itt K a) ds := by
  refine ⟨YAt vs, ?_, fun i H x H' hi s y => ?_⟩
  · rw [r.length]
    exact (walk_tup (xs := vs)).mono (fun H s => sqT_same s h) fun _ _ _ _ _ _ y => y
  · obtain ⟨d, h1, h2⟩ := r.getV y.2
    exact ⟨d, h1, .inl ⟨y.1, h2⟩⟩
/-- lo, lo + 1, .. below hi -/
def rngD (lo hi : Int) : List D := (List.range (hi - lo).toNat).map fun i => D.int (lo + (i : Nat))
theorem walkD_range {K : PySem.W.Frag} {B : Hp} {lo hi : Int} : WalkD K B (Itr lo (hi - lo).toNat) (rngD lo hi) := by
  have hl : (rngD lo hi).length = (hi - lo).toNat := by unfold rngD; rw [List.length_map, List.length_range]
  refine ⟨YFn fun i => .int (lo + i), ?_, fun i H x H' hi2 s y => ?_⟩
  · rw [hl]
    exact (walk_range (lo := lo) (n := (hi - lo).toNat)).mono (fun _ _ => trivial) fun _ _ _ _ _ _ y => y
  · rw [hl] at hi2
    refine ⟨.int (lo + (i : Nat)), ?_, .inl ⟨y.1, y.2⟩⟩
    unfold rngD
    rw [List.getElem?_map, List.getElem?_range hi2]
    rfl
def iOr (w w' : TI) : TI := fun σ H R => w σ H R ∨ w' σ H R
theorem PI.or {X : Cx} {tg e : Expr} {w w' : TI} (h : PI X tg e w) (h' : PI X tg e w') : PI X tg e (iOr w w') := ⟨fun pins s σ H R I hw => hw.elim (fun a => h.run pins s σ H R I a) fun a => h'.run pins s σ H R I a⟩
/-- a list or a tuple that is walked is frozen first -/
def seqD : D → Option (List D)
  | .lst ds => some ds
  | .fls ds => some ds
  | .tup ds => some ds
  | _ => none
def fItems (t : Tm) (_ : Rho) : Option (List D) := match t with
  | .rv (.val d) => seqD d
  | _ => none
def mSeqIt (m : M Tm) : M (List D) := (mFz m).bind fun t => lift (fItems t)
theorem TE_or {K : PySem.W.Frag} {W : WX} {cv : Cv} {te : TE} {m : M Tm} (h : EvM K W cv te m) : ItM K W cv (fun σ H R => te σ H fun x H1 => (∃ a, x = .ref a ∧ (∃ xs, SqL K H1 a xs) ∧ R (Itl K a) H1) ∨ ∃ a, x = .ref a ∧ (∃ xs, SqT K H1 a xs) ∧ R (Itt K a) H1) (mSeqIt m) := fun E B H σ ρ α τ R e q => by
  refine ev_fz h E B H σ ρ α τ _ e ?_
  refine Post.imp (Post.bind q) (fun t ρ1 z v as B1 H1 α1 e1 => ?_) fun c ρ' z => z
  obtain ⟨ds, k1, k2⟩ := Post.lift z
  cases t with
  | pk i => cases k1
  | rv r =>
    cases r with
    | own _ => cases k1
    | tup _ => cases k1
    | val d =>
      have rp : Rep K B1 d v := e1.topV List.mem_cons_self
      cases d with
      | lst xs =>
        cases k1
        obtain ⟨a, vs, h1, h2, h3⟩ := rp
        exact .inl ⟨a, h1, ⟨vs, SqL.of (e1.bh _ _ h2)⟩, k2 _ B1 H1 α1 e1.pop (walkD_list (SqL.of h2) h3)⟩
      | fls xs =>
        cases k1
        obtain ⟨a, vs, h1, h2, h3⟩ := rp
        exact .inl ⟨a, h1, ⟨vs, sqL_same e1.bh h2⟩, k2 _ B1 H1 α1 e1.pop (walkD_list h2 h3)⟩
      | tup xs =>
        cases k1
        obtain ⟨a, vs, h1, h2, h3⟩ := rp
        exact .inr ⟨a, h1, ⟨vs, sqT_same e1.bh h2⟩, k2 _ B1 H1 α1 e1.pop (walkD_tup h2 h3)⟩
      | _ => cases k1
/-- iter of a list or of a tuple -/
theorem pi_seq {X : Cx} {tg l : Expr} {tl : TE} (hl : PE X l tl) : PI X tg l (fun σ H R => tl σ H fun x H1 => (∃ a, x = .ref a ∧ (∃ xs, SqL X.K H1 a xs) ∧ R (Itl X.K a) H1) ∨ ∃ a, x = .ref a ∧ (∃ xs, SqT X.K H1 a xs) ∧ R (Itt X.K a) H1) := by
  refine ⟨fun pins s σ H R I h => ?_⟩
  refine thn (hl.run pins s σ H _ I h) fun v s1 ⟨x, H1, I1, r1, q1⟩ => ?_
  rcases q1 with ⟨a, e, ⟨xs, hq⟩, q⟩ | ⟨a, e, ⟨xs, hq⟩, q⟩
  · subst e
    cases r1
    obtain ⟨its, rv, p, hz⟩ := I1.list hq
    refine wpAny_pyIter_list p.isList ?_
    refine ⟨s1.heap.objs.size, [s1.heap.objs.size], _, _, H1, rfl, I1.kept (t' := s1.toks) fun b o e => Heap.get?_push_of_some _ e, turn_list a _, ⟨_, Heap.get?_push_size _ rfl, rfl, rfl⟩, fun b hb => ?_, q⟩
    have e : b = s1.heap.objs.size := by simpa using hb
    subst e
    exact I1.fpOk (Nat.le_refl _) (I1.hok.fresh (Nat.le_refl _))
  · subst e
    cases r1
    obtain ⟨its, rv, p, hz⟩ := I1.tuple hq
    refine wpAny_pyIter_tuple (show s1.heap.IsTuple a its.toArray from p) ?_
    refine ⟨s1.heap.objs.size, [s1.heap.objs.size], _, _, H1, rfl, I1.kept (t' := s1.toks) fun b o e => Heap.get?_push_of_some _ e, turn_tuple a _, ⟨_, Heap.get?_push_size _ rfl, rfl, rfl⟩, fun b hb => ?_, q⟩
    have e : b = s1.heap.objs.size := by simpa using hb
    subst e
    exact I1.fpOk (Nat.le_refl _) (I1.hok.fresh (Nat.le_refl _))
section
variable {X : Cx} {W : WX} {cv : Cv} {tg : Expr}
theorem i_seq {e : Expr} {m : M Tm} (h : DE X W cv e m) : DI X W cv tg e (mSeqIt m) := let ⟨_, h1, h2⟩ := h; ⟨_, pi_seq h1, TE_or h2⟩
def inLine (i : Int) : Prop := -(2 ^ 62) ≤ i ∧ i < 2 ^ 62
instance (i : Int) : Decidable (inLine i) := inferInstanceAs (Decidable (_ ∧ _))
def fRng1 (ts : List Tm) (_ : Rho) : Option (List D) := match ts with
  | [.rv (.val (.int j))] => when (inLine j) (some (rngD 0 j))
  | _ => none
def fRng2 (ts : List Tm) (_ : Rho) : Option (List D) := match ts with
  | [.rv (.val (.int i)), .rv (.val (.int j))] => when (inLine i ∧ inLine j) (some (rngD i j))
  | _ => none
def mRng1 (ms : M (List Tm)) : M (List D) := ms.bind fun ts => lift (fRng1 ts)
def mRng2 (ms : M (List Tm)) : M (List D) := ms.bind fun ts => lift (fRng2 ts)
theorem tau1 {ts : Tau} {t : Tm} (h : ts.map (·.2.1) = [t]) : ∃ v as, ts = [(v, t, as)] := by
  match ts, h with
  | [(v, t', as)], h =>
    cases h
    exact ⟨v, as, rfl⟩
theorem tau2 {ts : Tau} {t u : Tm} (h : ts.map (·.2.1) = [t, u]) : ∃ v as w bs, ts = [(v, t, as), (w, u, bs)] := by
  match ts, h with
  | [(v, t', as), (w, u', bs)], h =>
    cases h
    exact ⟨v, as, w, bs, rfl⟩
theorem tau3 {ts : Tau} {t u x : Tm} (h : ts.map (·.2.1) = [t, u, x]) : ∃ v as w bs y cs, ts = [(v, t, as), (w, u, bs), (y, x, cs)] := by
  match ts, h with
  | [(v, t', as), (w, u', bs), (y, x', cs)], h =>
    cases h
    exact ⟨v, as, w, bs, y, cs, rfl⟩
theorem i_range1 {a : Expr} {ms : M (List Tm)} {p pos : Pos} (hg : Gl X "range") (hm : X.mg "range" = none) (ha : DA X W cv [a] ms) (hs : starEach [a] X.env = [(false, eval a X.env)] := by rfl) : DI X W cv tg (.Call (.Name "range" p) [a] [] pos) (mRng1 ms) := by
  obtain ⟨t, h1, h2⟩ := ha
  refine ⟨_, pi_range1 hg hm h1 hs, fun E B H σ ρ α τ R e q => ?_⟩
  refine h2 E B H σ ρ α τ _ e ?_
  refine Post.imp (Post.bind q) (fun rs ρ1 z ts B1 H1 α1 ht e1 => ?_) fun c ρ' z => z
  obtain ⟨ds, k1, k2⟩ := Post.lift z
  unfold fRng1 at k1
  split at k1
  · rename_i j
    obtain ⟨hl, k1⟩ := when_some k1
    cases k1
    obtain ⟨v, as, rfl⟩ := tau1 ht
    have hv : v = .int j := e1.topV List.mem_cons_self
    refine ⟨j, by rw [List.map_cons, hv]; rfl, hl.1, hl.2, ?_⟩
    have w := walkD_range (K := X.K) (B := B1) (lo := 0) (hi := j)
    rw [Int.sub_zero] at w
    exact k2 _ B1 H1 α1 (EnvR.pop e1) w
  · cases k1
theorem i_range2 {a b : Expr} {ms : M (List Tm)} {p pos : Pos} (hg : Gl X "range") (hm : X.mg "range" = none) (ha : DA X W cv [a, b] ms) (hs : starEach [a, b] X.env = [(false, eval a X.env), (false, eval b X.env)] := by rfl) (hs2 : starEach [b] X.env = [(false, eval b X.env)] := by rfl) : DI X W cv tg (.Call (.Name "range" p) [a, b] [] pos) (mRng2 ms) := by
  obtain ⟨t, h1, h2⟩ := ha
  refine ⟨_, pi_range2 hg hm h1 hs hs2, fun E B H σ ρ α τ R e q => ?_⟩
  refine h2 E B H σ ρ α τ _ e ?_
  refine Post.imp (Post.bind q) (fun rs ρ1 z ts B1 H1 α1 ht e1 => ?_) fun c ρ' z => z
  obtain ⟨ds, k1, k2⟩ := Post.lift z
  unfold fRng2 at k1
  split at k1
  · rename_i i j
    obtain ⟨⟨hl, hl2⟩, k1⟩ := when_some k1
    cases k1
    obtain ⟨v, as, w, bs, rfl⟩ := tau2 ht
    have hv : v = .int i := e1.topV List.mem_cons_self
    have hw : w = .int j := e1.topV (List.mem_cons_of_mem _ List.mem_cons_self)
    refine ⟨i, j, by rw [List.map_cons, List.map_cons, hv, hw]; rfl, ⟨hl.1, hl.2, hl2.1, hl2.2⟩, ?_⟩
    exact k2 _ B1 H1 α1 (EnvR.pop (EnvR.pop e1)) walkD_range
  · cases k1
end
end Pd
set_option Elab.async false
set_option linter.all false
set_option maxRecDepth 100000
set_option maxHeartbeats 2000000
/-! Pd5: list comprehensions. -/
namespace Pd
open PySem PySem.Spec PyProof.Rows L2

section
variable {K : PySem.W.Frag} {Tb : List Addr} {E : Ent Tb} {B B' H H' : Hp} {σ σ' : L2.St} {ρ ρ' : Rho} {α : Nat → List Addr} {τ : Tau} {v : V} {as : List Addr} {t : Tm}
/-- the values of slots that are forgotten do not matter -/
theorem EnvR.reslot (np : NoPk τ) (e : EnvR K E B H σ ρ α τ) (hl : σ'.length = σ.length) (h : ∀ (j : Nat) (s : Sl), ρ[j]? = some s → s ≠ Sl.any → σ'[j]? = σ[j]?) : EnvR K E B H σ' ρ α τ := by
  refine ⟨e.bh, e.b0, e.nb, e.fr, e.wr, fun p hp => ?_, e.br, fun j => ?_, fun u hu => (e.tm u hu).slots (np u hu), e.nd, e.dj, e.nt, e.dt, e.ho, e.hb, e.ht, hl.trans e.ln⟩
  · obtain ⟨h1, r, h2⟩ := e.rt p hp
    exact ⟨(h _ _ h2 (fun z => by cases z)).trans h1, r, h2⟩
  · have S := e.sl j
    cases hs : ρ[j]? with
    | none =>
      rw [hs] at S
      exact S
    | some s =>
      rw [hs] at S
      cases s with
      | any => exact S
      | own r => rw [h j _ hs (fun z => by cases z)]; exact S
      | bor r => rw [h j _ hs (fun z => by cases z)]; exact S
/-- the list of plain data on top is changed -/
theorem EnvR.updTop {l : Addr} {ds : List D} {us : List V} (e : EnvR K E B H σ ρ α ((.ref l, .o ds, [l]) :: τ)) {es : List D} (r : Reps K B es us) : EnvR K E B (L2.upd H l (.lst us)) σ ρ α ((.ref l, .o es, [l]) :: τ) := by
  have T : RvR K B H (.own (ds.map .val)) (.ref l) [l] := e.tm _ List.mem_cons_self
  obtain ⟨l', vs, ass, h1, h2, h3, h4, h5⟩ := T
  cases h1
  have nl : ∀ i, l ∉ α i := fun i => e.dt i l (List.mem_append_left _ (by simp))
  have nt : l ∉ addrs τ := fun z => (List.nodup_append.mp (show ([l] ++ addrs τ).Nodup from e.nt)).2.2 l (by simp) l z rfl
  have hl0 : E.H0 l = none := e.ht l (List.mem_append_left _ (by simp))
  have keep : ∀ p, p ≠ l → L2.upd H l (.lst us) p = H p := fun p hp => upd_ne hp
  refine ⟨fun p o q => ?_, e.b0, e.nb, e.fr.write (as := [l]) (fun p hp => keep p fun z => hp (by simp [z])) (fun p hp ps => ?_) (fun p hp ps => ?_) (fun p hp => .inl ?_), fun p hp => ?_, e.rt, e.br, fun j => ?_, fun u hu => ?_, e.nd, e.dj, e.nt, e.dt, e.ho, e.hb, e.ht, e.ln⟩
  · rw [keep p (fun z => by rw [z, h3] at q; cases q)]
    exact e.bh p o q
  · rw [show p = l from by simpa using hp, h2]
    intro z
    cases z
  · rw [show p = l from by simpa using hp, upd_same]
    intro z
    cases z
  · rw [show p = l from by simpa using hp]
    exact hl0
  · by_cases hz : p = l
    · rw [hz, upd_same]; simp
    · rw [keep p hz]; exact e.wr p hp
  · exact (e.sl j).frame (Same.refl _) (fun q hq => keep q (fun z => nl j (z ▸ hq))) fun q hq => (e.liveS j q hq).2
  · rcases List.mem_cons.mp hu with z | z
    · subst z
      exact ⟨l, us, [], rfl, upd_same, h3, RvRs.ofReps r, rfl⟩
    · exact (e.tm u (List.mem_cons_of_mem _ z)).frame (Same.refl _) (fun q hq => keep q (fun y => nt (y ▸ mem_addrs z hq))) fun q hq => (e.liveT q (List.mem_append_right _ (mem_addrs z hq))).2
end

/-- as wipe, of what is known -/
def wipR : List Nat → Rho → Option Rho
  | [], ρ => some ρ
  | v :: vs, ρ => (wipR vs ρ).bind (fgt1 v)
/-- the comprehension's own names have again what they had, if plain data -/
def keepV : Option Sl → Sl
  | some (.own (.val d)) => .own (.val d)
  | _ => .any
def rest (ρ1 : Rho) : List Nat → Rho → Rho
  | [], ρ => ρ
  | v :: vs, ρ => (rest ρ1 vs ρ).set v (keepV ρ1[v]?)
theorem rest_length (ρ1 ρ : Rho) : ∀ vs, (rest ρ1 vs ρ).length = ρ.length
  | [] => rfl
  | v :: vs => by unfold rest; rw [List.length_set, rest_length ρ1 ρ vs]
theorem rest_out {ρ1 ρ : Rho} {j : Nat} : ∀ {vs : List Nat}, j ∉ vs → (rest ρ1 vs ρ)[j]? = ρ[j]?
  | [], _ => rfl
  | v :: vs, h => by
    unfold rest
    rw [List.getElem?_set_ne (fun z => h (by simp [z])), rest_out fun z => h (List.mem_cons_of_mem _ z)]
theorem rest_in {ρ1 ρ : Rho} {j : Nat} (hj : j < ρ.length) : ∀ {vs : List Nat}, j ∈ vs → (rest ρ1 vs ρ)[j]? = some (keepV ρ1[j]?)
  | [], h => by cases h
  | v :: vs, h => by
    unfold rest
    by_cases hv : v = j
    · subst hv
      rw [List.getElem?_set_self (by rw [rest_length]; exact hj)]
    · rw [List.getElem?_set_ne hv]
      exact rest_in hj ((List.mem_cons.mp h).resolve_left fun z => hv z.symm)
theorem wipe_out {σ : L2.St} {j : Nat} : ∀ {vs : List Nat}, j ∉ vs → (wipe σ vs)[j]? = σ[j]?
  | [], _ => rfl
  | v :: vs, h => by
    unfold wipe
    rw [List.getElem?_set_ne (fun z => h (by simp [z])), wipe_out fun z => h (List.mem_cons_of_mem _ z)]
theorem wipe_in {σ : L2.St} {j : Nat} (hj : j < σ.length) : ∀ {vs : List Nat}, j ∈ vs → (wipe σ vs)[j]? = some none
  | [], h => by cases h
  | v :: vs, h => by
    unfold wipe
    by_cases hv : v = j
    · subst hv
      rw [List.getElem?_set_self (by rw [wipe_length]; exact hj)]
    · rw [List.getElem?_set_ne hv]
      exact wipe_in hj ((List.mem_cons.mp h).resolve_left fun z => hv z.symm)
theorem wipe_eq {σ σ2 : L2.St} {vs is : List Nat} (hi : ∀ i ∈ is, i ∈ vs) (h : ButAt is (wipe σ vs) σ2) : wipe σ2 vs = wipe σ vs := by
  have hl : σ2.length = σ.length := h.1.trans (wipe_length σ vs)
  apply List.ext_getElem?
  intro j
  by_cases hj : j ∈ vs
  · by_cases hlt : j < σ.length
    · rw [wipe_in (by omega) hj, wipe_in hlt hj]
    · rw [List.getElem?_eq_none (by rw [wipe_length]; omega), List.getElem?_eq_none (by rw [wipe_length]; omega)]
  · rw [wipe_out hj, h.2 j fun z => hj (hi j z)]
section
variable {K : PySem.W.Frag} {Tb : List Addr} {E : Ent Tb} {B B' H H' : Hp} {σ σ' : L2.St} {ρ ρ' : Rho} {α : Nat → List Addr} {τ : Tau}
theorem EnvR.wipes (np : NoPk τ) : ∀ {vs : List Nat} {ρ' : Rho}, EnvR K E B H σ ρ α τ → wipR vs ρ = some ρ' → ∃ α', EnvR K E B H (wipe σ vs) ρ' α' τ
  | [], ρ', e, h => by
    cases h
    exact ⟨α, e⟩
  | v :: vs, ρ', e, h => by
    obtain ⟨ρ1, h1, h2⟩ := Option.bind_eq_some_iff.mp h
    obtain ⟨α1, e1⟩ := EnvR.wipes np e h1
    obtain ⟨h3, h4⟩ := fgt1_bor h2
    subst h4
    exact ⟨_, e1.forget (ov := none) np h3⟩
theorem fgt_any : ∀ {js : List Nat} {ρ ρ' : Rho}, fgt js ρ = some ρ' → ρ'.length = ρ.length ∧ ∀ (j : Nat) (s : Sl), ρ'[j]? = some s → s ≠ Sl.any → j ∉ js
  | [], ρ, ρ', h => by
    cases h
    exact ⟨rfl, fun _ _ _ _ z => by cases z⟩
  | j :: js, ρ, ρ', h => by
    obtain ⟨ρ1, h1, h2⟩ := Option.bind_eq_some_iff.mp h
    obtain ⟨h3, h4⟩ := fgt1_bor h1
    have ih := fgt_any h2
    subst h4
    refine ⟨by rw [ih.1, List.length_set], fun k s hs hn hm => ?_⟩
    rcases List.mem_cons.mp hm with z | z
    · -- slot j stays forgotten
      subst z
      have key : ∀ {js : List Nat} {ρ ρ' : Rho}, fgt js ρ = some ρ' → ρ[k]? = some .any ∨ ρ[k]? = none → ρ'[k]? = some .any ∨ ρ'[k]? = none := by
        intro js
        induction js with
        | nil =>
          intro ρ ρ' h hk
          cases h
          exact hk
        | cons i is ih2 =>
          intro ρ ρ' h hk
          obtain ⟨ρ2, k1, k2⟩ := Option.bind_eq_some_iff.mp h
          obtain ⟨_, k4⟩ := fgt1_bor k1
          subst k4
          refine ih2 k2 ?_
          by_cases hik : i = k
          · subst hik
            by_cases hl : i < ρ.length
            · exact .inl (List.getElem?_set_self hl)
            · exact .inr (List.getElem?_eq_none (by simpa using hl))
          · rw [List.getElem?_set_ne hik]
            exact hk
      have hk : (ρ.set k Sl.any)[k]? = some .any ∨ (ρ.set k Sl.any)[k]? = none := by
        by_cases hl : k < ρ.length
        · exact .inl (List.getElem?_set_self hl)
        · exact .inr (List.getElem?_eq_none (by simpa using hl))
      rcases key h2 hk with y | y
      · rw [hs] at y
        exact hn (Option.some.inj y)
      · rw [hs] at y
        cases y
    · exact ih.2 k s hs hn z
/-- behind the comprehension: the own names as before, the temporaries that were names' are back -/
theorem EnvR.restore {Bk Hk : Hp} {ρ1 ρ2 : Rho} {α1 α2 : Nat → List Addr} {vs : List Nat} {u : V × Tm × List Addr} (e1 : EnvR K E Bk Hk σ ρ1 α1 τ) (hu : isRv u = true) (e : EnvR K (E.at Bk) B H (wipe σ vs) ρ2 α2 (u :: τ.filter isRv)) (hl : ρ2.length = ρ1.length)
    (hb : ∀ j ∈ vs, ∀ r, ρ1[j]? = some (.bor r) → False) :
    EnvR K E B H σ (rest ρ1 vs ρ2) (fun j => if j ∈ vs then [] else α2 j) (u :: τ) := by
  have e' := e.unbase e1.b0 e1.nb
  have adr : addrs (u :: τ) = addrs (u :: τ.filter isRv) := by
    have key : ∀ τ : Tau, (∀ t ∈ τ, isRv t = true ∨ t.2.2 = []) → addrs τ = addrs (τ.filter isRv) := by
      intro τ
      induction τ with
      | nil => intro _; rfl
      | cons t τ ih =>
        intro h
        have i := ih fun x hx => h x (List.mem_cons_of_mem _ hx)
        by_cases ht : isRv t = true
        · rw [List.filter_cons_of_pos ht]
          show t.2.2 ++ addrs τ = t.2.2 ++ addrs (τ.filter isRv)
          rw [i]
        · rw [List.filter_cons_of_neg ht]
          show t.2.2 ++ addrs τ = _
          rw [(h t List.mem_cons_self).resolve_left ht, List.nil_append, i]
    show u.2.2 ++ addrs τ = u.2.2 ++ addrs (τ.filter isRv)
    rw [key τ fun t ht => ?_]
    obtain ⟨v, t0, as⟩ := t
    cases t0 with
    | rv r => exact .inl rfl
    | pk i => exact .inr (e1.tm _ ht).1
  have nobor : ∀ j ∈ vs, ∀ r, (rest ρ1 vs ρ2)[j]? = some (.bor r) → False := fun j hj r hr => by
    by_cases hlt : j < ρ2.length
    · rw [rest_in hlt hj] at hr
      unfold keepV at hr
      split at hr <;> cases hr
    · rw [List.getElem?_eq_none (by rw [rest_length]; omega)] at hr
      cases hr
  have noroot : ∀ p ∈ E.roots, p.1 ∉ vs := fun p hp hm => by
    obtain ⟨_, r, hr⟩ := e1.rt p hp
    exact hb _ hm r hr
  refine ⟨e'.bh, e'.b0, e'.nb, e'.fr, e'.wr, fun p hp => ⟨(e1.rt p hp).1, ?_⟩, fun j r hj => ?_, fun j => ?_, fun t ht => ?_, fun j => ?_, fun j k hjk l hl => ?_, by rw [adr]; exact e'.nt, fun j l hl => ?_, fun j r hj => ?_, fun j r hj => ?_, by rw [adr]; exact e'.ht, ?_⟩
  · obtain ⟨_, r, hr⟩ := e'.rt p hp
    exact ⟨r, by rw [rest_out (noroot p hp)]; exact hr⟩
  · by_cases hm : j ∈ vs
    · exact (nobor j hm r hj).elim
    · rw [rest_out hm] at hj
      exact e'.br j r hj
  · by_cases hm : j ∈ vs
    · rw [if_pos hm]
      by_cases hlt : j < ρ2.length
      · rw [rest_in hlt hm]
        have S := e1.sl j
        unfold keepV
        split
        · rename_i d hd
          rw [hd] at S
          obtain ⟨v, h1, h2⟩ := S
          exact ⟨v, h1, rfl, h2.2.mono e.b0⟩
        · rfl
      · have z : (rest ρ1 vs ρ2)[j]? = none := List.getElem?_eq_none (by rw [rest_length]; omega)
        rw [z]
        rfl
    · rw [if_neg hm, rest_out hm, ← wipe_out (σ := σ) hm]
      exact e'.sl j
  · rcases List.mem_cons.mp ht with z | z
    · subst z
      exact (e'.tm _ List.mem_cons_self).slots hu
    · by_cases hr : isRv t = true
      · exact (e'.tm t (List.mem_cons_of_mem _ (List.mem_filter.mpr ⟨z, hr⟩))).slots hr
      · obtain ⟨v, t0, as⟩ := t
        cases t0 with
        | rv r => exact absurd rfl hr
        | pk i => exact e1.tm _ z
  · by_cases hm : j ∈ vs
    · rw [if_pos hm]; exact List.nodup_nil
    · rw [if_neg hm]; exact e'.nd j
  · by_cases hm : j ∈ vs
    · rw [if_pos hm] at hl; cases hl
    · rw [if_neg hm] at hl
      by_cases hm2 : k ∈ vs
      · rw [if_pos hm2]; simp
      · rw [if_neg hm2]; exact e'.dj j k hjk l hl
  · rw [adr] at hl
    by_cases hm : j ∈ vs
    · rw [if_pos hm]; simp
    · rw [if_neg hm]; exact e'.dt j l hl
  · by_cases hm : j ∈ vs
    · rw [if_pos hm]; intro l hl; cases hl
    · rw [if_neg hm]
      rw [rest_out hm] at hj
      exact e'.ho j r hj
  · by_cases hm : j ∈ vs
    · rw [if_pos hm]; intro l hl; cases hl
    · rw [if_neg hm]
      rw [rest_out hm] at hj
      exact e'.hb j r hj
  · rw [rest_length, hl, e1.ln]
theorem EnvR.dropPk (e : EnvR K E B H σ ρ α τ) : EnvR K E B H σ ρ α (τ.filter isRv) := by
  have sub : (addrs (τ.filter isRv)).Sublist (addrs τ) := by
    clear e
    induction τ with
    | nil => exact List.Sublist.refl _
    | cons t τ ih =>
      by_cases ht : isRv t = true
      · rw [List.filter_cons_of_pos ht]
        show (t.2.2 ++ addrs (τ.filter isRv)).Sublist (t.2.2 ++ addrs τ)
        exact (List.Sublist.refl _).append ih
      · rw [List.filter_cons_of_neg ht]
        exact ih.trans (List.sublist_append_right _ _)
  exact ⟨e.bh, e.b0, e.nb, e.fr, e.wr, e.rt, e.br, e.sl, fun u hu => e.tm u (List.mem_filter.mp hu).1, e.nd, e.dj, e.nt.sublist sub, fun i l hl => e.dt i l (sub.subset hl), e.ho, e.hb, fun l hl => e.ht l (sub.subset hl), e.ln⟩
end
theorem noPk_filter (τ : Tau) : NoPk (τ.filter isRv) := fun t ht => (List.mem_filter.mp ht).2

/-! ### the comprehension -/
def fVal (t : Tm) (_ : Rho) : Option D := match t with
  | .rv (.val d) => some d
  | _ => none
def mLcL (tg : G) (c : M Bool) (el : M Tm) (vs : List Nat) : List D → List D → M (List D)
  | [], acc => M.pure acc
  | d :: ds, acc => (put (tg (.v d))).bind fun _ => c.bind fun k => if k = true then (mFz el).bind fun t => (lift (fVal t)).bind fun y => (mFgt vs).bind fun _ => mLcL tg c el vs ds (acc ++ [y])
      else (mFgt vs).bind fun _ => mLcL tg c el vs ds acc
def lcEnd (ρ1 : Rho) (vs : List Nat) (r : Res (List D)) : Res Tm := match r with
  | .ok acc ρ2 => if ρ2.length = ρ1.length then .ok (.o acc) (rest ρ1 vs ρ2) else .bad
  | _ => .bad
def mLc (it : M (List D)) (tg : G) (c : M Bool) (el : M Tm) (vs : List Nat) : M Tm := it.bind fun ds => fun ρ1 => if ds.length ≤ 100000 then match wipR vs ρ1 with
    | none => .bad
    | some ρw => lcEnd ρ1 vs (mLcL tg c el vs ds [] ρw)
  else .bad
abbrev W0 : WX := fun _ _ _ _ => False
theorem wipR_bor : ∀ {vs : List Nat} {ρ ρ' : Rho}, wipR vs ρ = some ρ' → ∀ j ∈ vs, ∀ r, ρ[j]? = some (.bor r) → False
  | [], _, _, _, j, hj, _, _ => by cases hj
  | v :: vs, ρ, ρ', h, j, hj, r, hr => by
    obtain ⟨ρ1, h1, h2⟩ := Option.bind_eq_some_iff.mp h
    by_cases hm : j ∈ vs
    · exact wipR_bor h1 j hm r hr
    · have e : j = v := (List.mem_cons.mp hj).resolve_right hm
      subst e
      have key : ∀ {vs : List Nat} {ρ ρ' : Rho}, wipR vs ρ = some ρ' → j ∉ vs → ρ'[j]? = ρ[j]? := by
        intro vs
        induction vs with
        | nil =>
          intro ρ ρ' h _
          cases h
          rfl
        | cons w vs ih =>
          intro ρ ρ' h hn
          obtain ⟨ρ2, k1, k2⟩ := Option.bind_eq_some_iff.mp h
          obtain ⟨_, k4⟩ := fgt1_bor k2
          subst k4
          rw [List.getElem?_set_ne (fun z => hn (by simp [z])), ih k1 fun z => hn (List.mem_cons_of_mem _ z)]
      exact (fgt1_bor h2).1 r ((key h1 hm).trans hr)
theorem ev_lc {K : PySem.W.Frag} {W : WX} {cv : Cv} {wi : TI} {g : TG} {tt : TT} {te : TE} {is vs : List Nat} {it : M (List D)} {tg : G} {c : M Bool} {el : M Tm} (hi : ItM K W cv wi it) (hg : TgM K g is tg) (hsub : ∀ i ∈ is, i ∈ vs) (hc : TtM K W0 cv tt c) (he : EvM K W0 cv te el) :
    EvM K W cv (tLc wi g tt te vs) (mLc it tg c el vs) := fun E B H σ ρ α τ Q e q => by
  refine hi E B H σ ρ α τ _ e ?_
  refine Post.imp (Post.bind q) (fun ds ρ1 z J Bk H1 α1 e1 w => ?_) fun c ρ' z => z
  by_cases hlen' : ¬ ds.length ≤ 100000
  · rw [if_neg hlen'] at z
    exact z.elim
  have hlen : ds.length ≤ 100000 := Decidable.not_not.mp hlen'
  rw [if_pos hlen] at z
  cases hw : wipR vs ρ1 with
  | none => rw [hw] at z; exact z.elim
  | some ρw =>
    rw [hw] at z
    obtain ⟨Y, w1, w2⟩ := w
    intro Dl hD
    have hlb := wipR_bor hw
    obtain ⟨αw, ew⟩ := EnvR.wipes (noPk_filter τ) (e1.dropPk) hw
    have ew1 := (ew.newOwn (ds := []) (vs := []) hD Reps.nil).rebase
    -- what is wanted at the end
    have zL : Post (mLcL tg c el vs ds [] ρw) (fun acc ρ2 => ρ2.length = ρ1.length ∧ ∀ B' H' α', EnvR K E B' H' σ (rest ρ1 vs ρ2) α' ((.ref Dl, .o acc, [Dl]) :: τ) → Q (.ref Dl) H') (fun _ _ => False) := by
      have z1 : Post (lcEnd ρ1 vs (mLcL tg c el vs ds [] ρw)) _ _ := z
      generalize mLcL tg c el vs ds [] ρw = R at z1 ⊢
      cases R with
      | bad => exact z1
      | err c ρ' => exact z1.elim
      | ok acc ρ2 =>
        by_cases h2 : ρ2.length = ρ1.length
        · have e2 : lcEnd ρ1 vs (.ok acc ρ2) = .ok (.o acc) (rest ρ1 vs ρ2) := if_pos h2
          rw [e2] at z1
          exact ⟨h2, fun B' H' α' e' => z1 (.ref Dl) [Dl] B' H' α' e'⟩
        · have e2 : lcEnd ρ1 vs (.ok acc ρ2) = .bad := if_neg h2
          rw [e2] at z1
          exact z1.elim
    refine lc_it w1 (fun i H => ∃ B ρ α acc, EnvR K (E.at Bk) B H (wipe σ vs) ρ α ((.ref Dl, .o acc, [Dl]) :: τ.filter isRv) ∧ acc.length ≤ i ∧
        Post (mLcL tg c el vs (ds.drop i) acc ρ) (fun acc ρ2 => ρ2.length = ρ1.length ∧ ∀ B' H' α', EnvR K E B' H' σ (rest ρ1 vs ρ2) α' ((.ref Dl, .o acc, [Dl]) :: τ) → Q (.ref Dl) H') (fun _ _ => False))
      ⟨Bk, ρw, αw, [], ew1, Nat.le_refl _, zL⟩ (fun i H _ ⟨B, ρ, α, acc, e, _⟩ => e.b0.trans e.bh) ?_ ?_
    · rintro i x H2 H2' hi2 ⟨B2, ρ2, α2, acc, e2, ha, q2⟩ y
      obtain ⟨d, hd, hx⟩ := w2 i H2 x H2' hi2 (e2.b0.trans e2.bh) y
      rw [drop_at hd] at q2
      obtain ⟨ρ3, k1, k2⟩ := Post.bindU q2
      have np : NoPk ((V.ref Dl, Tm.o acc, [Dl]) :: τ.filter isRv) := fun t ht => by
        rcases List.mem_cons.mp ht with z | z
        · rw [z]; rfl
        · exact noPk_filter τ t z
      obtain ⟨B3, s3, e3⟩ := item_push e2.b0 e2 hx
      refine hg _ B3 H2' _ ρ2 ρ3 α2 _ x (.v d) [] _ np e3 k1 fun σ4 B4 H4 α4 but e4 => ⟨wipe_eq hsub but, ?_⟩
      have back : ∀ {B H : Hp} {ρ ρ' : Rho} {α : Nat → List Addr} {acc : List D}, EnvR K (E.at Bk) B H σ4 ρ α ((.ref Dl, .o acc, [Dl]) :: τ.filter isRv) → fgt vs ρ = some ρ' → ∃ α', EnvR K (E.at Bk) B H (wipe σ vs) ρ' α' ((.ref Dl, .o acc, [Dl]) :: τ.filter isRv) := fun {B H ρ ρ' α acc} e h => by
        have np : NoPk ((V.ref Dl, Tm.o acc, [Dl]) :: τ.filter isRv) := fun t ht => by
          rcases List.mem_cons.mp ht with z | z
          · rw [z]; rfl
          · exact noPk_filter τ t z
        obtain ⟨α', e'⟩ := EnvR.fgts np e h
        refine ⟨α', e'.reslot np (by rw [but.1]) fun j s hs hn => ?_⟩
        exact (but.2 j fun z => (fgt_any h).2 j s hs hn (hsub j z)).symm
      refine hc _ B4 H4 σ4 ρ3 α4 _ _ e4 ?_
      refine Post.imp (Post.bind k2) (fun k ρ5 y5 B5 H5 α5 e5 => ?_) fun c ρ' z => z.elim
      cases k with
      | false =>
        rw [if_neg Bool.false_ne_true] at y5 ⊢
        obtain ⟨ρ6, y6, y7⟩ := Post.bindU y5
        obtain ⟨α6, e6⟩ := back e5 y6
        exact ⟨B5, ρ6, α6, acc, e6, by omega, y7⟩
      | true =>
        rw [if_pos rfl] at y5 ⊢
        refine ev_fz he _ B5 H5 σ4 ρ5 α5 _ _ e5 ?_
        refine Post.imp (Post.bind y5) (fun t ρ6 y6 v as B6 H6 α6 e6 => ?_) fun c ρ' z => z.elim
        obtain ⟨dy, y7, y8⟩ := Post.lift (Post.bind y6)
        obtain ⟨ρ7, y9, y10⟩ := Post.bindU y8
        unfold fVal at y7
        split at y7
        · cases y7
          have rv : Rep K B6 dy v := e6.topV List.mem_cons_self
          have T : RvR K B6 H6 (.own (acc.map .val)) (.ref Dl) [Dl] := e6.tm _ (List.mem_cons_of_mem _ List.mem_cons_self)
          obtain ⟨l', us, ass, h1, h2, h3, h4, h5⟩ := T
          cases h1
          have ru : Reps K B6 acc us := (h4.flat (flat_map acc)).1
          refine ⟨us, h2, ?_, ?_⟩
          · rw [← ru.length]
            have : ds.length ≤ 100000 := hlen
            exact Nat.lt_of_le_of_lt (show acc.length ≤ 100000 by omega) (by decide)
          · have e7 := EnvR.updTop (EnvR.pop e6) (Reps.append ru (Reps.one rv))
            obtain ⟨α8, e8⟩ := back e7 y9
            refine ⟨B6, ρ7, α8, acc ++ [dy], e8, by rw [List.length_append]; simp; omega, y10⟩
        · cases y7
    · rintro H2 ⟨B2, ρ2, α2, acc, e2, ha, q2⟩
      rw [List.drop_length] at q2
      obtain ⟨h2, k⟩ := (show ρ2.length = ρ1.length ∧ _ from q2)
      exact k B2 H2 _ (EnvR.restore e1 rfl e2 h2 hlb)

/-! ### the rules; the block's readings for every block at once -/
section
variable {X : Cx} {W : WX} {cv : Cv} {pos : Pos}
def PTsM (X : Cx) (W : WX) (cv : Cv) (cs : List Expr) (m : M Bool) : Prop := ∃ t, PTs X cs t ∧ TtM X.K W cv t m
theorem c_nil : PTsM X W cv [] (M.pure true) := ⟨_, pts_nil, fun E B H σ ρ α τ Q e q => q B H α e⟩
theorem c_one {c : Expr} {m : M Bool} (h : DT X W cv c m) : PTsM X W cv [c] m := let ⟨_, h1, h2⟩ := h; ⟨_, pts_one h1, h2⟩
structure BlkIx where
  s : Shared
  H : Hp
  C : Addr
  cl : List (Str × Addr)
  fp : List Addr
abbrev BlkIx.cx (i : BlkIx) (X : Cx) (scope : Scope) : Cx := X.blk i.s i.H scope (compEnvC scope i.cl i.C X.env) i.fp
theorem fam_E {scope : Scope} {e : Expr} {m : M Tm} (h : ∀ i : BlkIx, DE (i.cx X scope) W cv e m) : ∃ T, (∀ i : BlkIx, PE (i.cx X scope) e T) ∧ EvM X.K W cv T m := by
  refine ⟨fun σ H Q => ∀ i, (Classical.choose (h i)) σ H Q, fun i => ⟨fun pins s σ H Q I hw => ?_⟩, fun E B H σ ρ α τ Q e q i => ?_⟩
  · exact (Classical.choose_spec (h i)).1.run pins s σ H Q I (hw i)
  · exact (Classical.choose_spec (h i)).2 E B H σ ρ α τ Q e q
theorem fam_T {scope : Scope} {cs : List Expr} {m : M Bool} (h : ∀ i : BlkIx, PTsM (i.cx X scope) W cv cs m) : ∃ T, (∀ i : BlkIx, PTs (i.cx X scope) cs T) ∧ TtM X.K W cv T m := by
  refine ⟨fun σ H Q => ∀ i, (Classical.choose (h i)) σ H Q, fun i => ⟨fun pins s σ H Q I hw => ?_⟩, fun E B H σ ρ α τ Q e q i => ?_⟩
  · exact (Classical.choose_spec (h i)).1.run pins s σ H Q I (hw i)
  · exact (Classical.choose_spec (h i)).2 E B H σ ρ α τ Q e q
theorem fam_G {scope : Scope} {tg : Expr} {is : List Nat} {m : G} (h : ∀ i : BlkIx, DG (i.cx X scope) tg is m) : ∃ T, (∀ i : BlkIx, PG (i.cx X scope) tg T) ∧ TgM X.K T is m := by
  refine ⟨fun v σ H Q => ∀ i, (Classical.choose (h i)) v σ H Q, fun i => ⟨fun pins s σ H v u Q I r hw => ?_⟩, fun E B H σ ρ ρ' α τ v t as Q np e q k i => ?_⟩
  · exact (Classical.choose_spec (h i)).1.run pins s σ H v u Q I r (hw i)
  · exact (Classical.choose_spec (h i)).2 E B H σ ρ ρ' α τ v t as Q np e q k
theorem e_lc {elt tg iter : Expr} {ifs : List Expr} {scope : Scope} (own : List (Str × Nat)) {is : List Nat} {it : M (List D)} {mt : G} {c : M Bool} {el : M Tm} (hc : X.calm = true) (hN : X.N.Nodup) (hi : DI X W cv tg iter it) (ok : BlkOk X.N X.env.scope scope own)
    (hg : ∀ i : BlkIx, DG (i.cx X scope) tg is mt) (ht : ∀ i : BlkIx, PTsM (i.cx X scope) W0 cv ifs c) (he : ∀ i : BlkIx, DE (i.cx X scope) W0 cv elt el) (hsub : ∀ i ∈ is, i ∈ own.map (·.2) := by decide) (hs : ∀ x, foldedSetIterable iter X.env x = pure x := by intro _; rfl) :
    DE X W cv (.ListComp elt [⟨tg, iter, ifs, 0⟩] scope pos) (mLc it mt c el (own.map (·.2))) := by
  obtain ⟨wi, h1, h2⟩ := hi
  obtain ⟨g, h3, h4⟩ := fam_G hg
  obtain ⟨tt, h5, h6⟩ := fam_T ht
  obtain ⟨te, h7, h8⟩ := fam_E he
  exact ⟨_, pe_lc hc hN h1 ok (fun s H C cl fp => h3 ⟨s, H, C, cl, fp⟩) (fun s H C cl fp => h5 ⟨s, H, C, cl, fp⟩) (fun s H C cl fp => h7 ⟨s, H, C, cl, fp⟩) hs, ev_lc h2 h4 hsub h6 h8⟩
theorem s_setLc (i : Nat) {y : Str} {py : Pos} {elt tg iter : Expr} {ifs : List Expr} {scope : Scope} (own : List (Str × Nat)) {is : List Nat} {it : M (List D)} {mt : G} {c : M Bool} {el : M Tm} {cpos : Pos} (fz : M Tm → M Tm) (hfz : fz = id ∨ fz = mFz) (hc : X.calm = true) (hN : X.N.Nodup) (hi : DI X W cv tg iter it) (ok : BlkOk X.N X.env.scope scope own)
    (hg : ∀ i : BlkIx, DG (i.cx X scope) tg is mt) (ht : ∀ i : BlkIx, PTsM (i.cx X scope) W0 cv ifs c) (he : ∀ i : BlkIx, DE (i.cx X scope) W0 cv elt el) (hsw : swapsWith (.ListComp elt [⟨tg, iter, ifs, 0⟩] scope cpos) (some (.Name y py)) pos.line X.env = pure true)
    (hy : X.N[i]? = some y := by rfl) (hyl : X.env.scope.names.lookup y = some .local := by rfl) (hsub : ∀ i ∈ is, i ∈ own.map (·.2) := by decide) (hs : ∀ x, foldedSetIterable iter X.env x = pure x := by intro _; rfl) :
    DS X W cv (.Assign [.Name y py] (.ListComp elt [⟨tg, iter, ifs, 0⟩] scope cpos) pos) (mAsg (fz (mLc it mt c el (own.map (·.2)))) (mSet i)) := by
  obtain ⟨wi, h1, h2⟩ := hi
  obtain ⟨g, h3, h4⟩ := fam_G hg
  obtain ⟨tt, h5, h6⟩ := fam_T ht
  obtain ⟨te, h7, h8⟩ := fam_E he
  refine ⟨_, ps_setLc hc hN hy hyl hsw h1 ok (fun s H C cl fp => h3 ⟨s, H, C, cl, fp⟩) (fun s H C cl fp => h5 ⟨s, H, C, cl, fp⟩) (fun s H C cl fp => h7 ⟨s, H, C, cl, fp⟩) hs, ?_⟩
  have k := ev_lc (W := W) h2 h4 hsub h6 h8
  rcases hfz with z | z
  · subst z
    exact st_asg k (tg_name i)
  · subst z
    exact st_asg (ev_fz k) (tg_name i)
end
end Pd
set_option Elab.async false
set_option linter.all false
set_option maxRecDepth 100000
set_option maxHeartbeats 2000000
/-! Pd6: lists that change; calls of defs; a def by its body. -/
namespace Pd
open PySem PySem.Spec PyProof.Rows L2

def setR (i : Nat) (r : Rv) (ρ : Rho) : Rho := match ρ[i]? with
  | some (.bor _) => ρ.set i (.bor r)
  | _ => ρ.set i (.own r)
theorem setR_length (i : Nat) (r : Rv) (ρ : Rho) : (setR i r ρ).length = ρ.length := by
  unfold setR
  split <;> rw [List.length_set]
theorem setR_ne {i j : Nat} {r : Rv} {ρ : Rho} (h : j ≠ i) : (setR i r ρ)[j]? = ρ[j]? := by
  unfold setR
  split <;> rw [List.getElem?_set_ne (Ne.symm h)]
section
variable {K : PySem.W.Frag} {Tb : List Addr} {E : Ent Tb} {B B' H H' : Hp} {σ σ' : L2.St} {ρ ρ' : Rho} {α : Nat → List Addr} {τ : Tau} {v : V} {as : List Addr} {t : Tm} {i : Nat}
theorem EnvR.slot (e : EnvR K E B H σ ρ α τ) {r : Rv} (h : slR ρ[i]? = some r) : ∃ v, σ[i]? = some (some v) ∧ RvR K B H r v (α i) := by
  have S := e.sl i
  cases hs : ρ[i]? with
  | none => rw [hs] at h; cases h
  | some s =>
    rw [hs] at h S
    cases s with
    | any => cases h
    | own r' => cases h; exact S
    | bor r' => cases h; exact S
/-- the tree of slot i is another one from now on, at the same root; its nodes: the elder ones, those of the temporary on top -/
theorem EnvR.treeSet {u : V × Tm × List Addr} {r r' : Rv} {v : V} {bs : List Addr} (e : EnvR K E B H σ ρ α (u :: τ)) (h : slR ρ[i]? = some r) (hv : σ[i]? = some (some v)) (bh : Same B H') (hr : RvR K B H' r' v bs) (hn : bs.Nodup) (hsub : ∀ l ∈ bs, l ∈ α i ∨ l ∈ u.2.2)
    (keep : ∀ p, p ∉ α i → H' p = H p) (there : ∀ p, H p ≠ none → H' p ≠ none) (notb : ∀ p ∈ α i, ∀ ps, H' p ≠ some (.tbl ps)) : EnvR K E B H' σ (setR i r' ρ) (fun j => if j = i then bs else α j) τ := by
  have hi : i < ρ.length := by
    cases hs : ρ[i]? with
    | none => rw [hs] at h; cases h
    | some s => exact (List.getElem?_eq_some_iff.mp hs).1
  have hnt := List.nodup_append.mp (show (u.2.2 ++ addrs τ).Nodup from e.nt)
  have kind : (∃ r0, ρ[i]? = some (.own r0) ∧ setR i r' ρ = ρ.set i (.own r')) ∨ ∃ r0, ρ[i]? = some (.bor r0) ∧ setR i r' ρ = ρ.set i (.bor r') := by
    cases hs : ρ[i]? with
    | none => rw [hs] at h; cases h
    | some s =>
      cases s with
      | any => rw [hs] at h; cases h
      | own r0 => exact .inl ⟨r0, rfl, by unfold setR; rw [hs]⟩
      | bor r0 => exact .inr ⟨r0, rfl, by unfold setR; rw [hs]⟩
  have at_i : (setR i r' ρ)[i]? = some (.own r') ∨ (setR i r' ρ)[i]? = some (.bor r') := by
    rcases kind with ⟨r0, _, q⟩ | ⟨r0, _, q⟩
    · exact .inl (by rw [q, List.getElem?_set_self hi])
    · exact .inr (by rw [q, List.getElem?_set_self hi])
  have disjS : ∀ j, j ≠ i → ∀ l ∈ bs, l ∉ α j := fun j hj l hl z => by
    rcases hsub l hl with y | y
    · exact e.dj i j (Ne.symm hj) l y z
    · exact e.dt j l (List.mem_append_left _ y) z
  have hiH0 : ∀ l ∈ α i, l ∉ addrs τ := fun l hl z => e.dt i l (List.mem_append_right _ z) hl
  refine ⟨bh, e.b0, e.nb, e.fr.write (as := α i) keep (e.ntS i) notb (fun p z => ?_), fun p hp => there p (e.wr p hp), fun p hp => ?_, fun j r0 hj => ?_, fun j => ?_, fun t ht => ?_, fun j => ?_, fun j k hjk l hl => ?_, hnt.2.1, fun j l hl => ?_, fun j r0 hj => ?_, fun j r0 hj => ?_, fun l hl => e.ht l (List.mem_append_right _ hl), by rw [setR_length, e.ln]⟩
  · rcases kind with ⟨r0, k1, _⟩ | ⟨r0, k1, _⟩
    · exact .inl (e.ho i r0 k1 p z)
    · exact e.hb i r0 k1 p z
  · obtain ⟨h1, r0, h2⟩ := e.rt p hp
    refine ⟨h1, ?_⟩
    by_cases hpi : p.1 = i
    · rcases kind with ⟨r1, k1, k2⟩ | ⟨r1, k1, k2⟩
      · rw [hpi, k1] at h2; cases h2
      · exact ⟨r', by rw [hpi, k2, List.getElem?_set_self hi]⟩
    · exact ⟨r0, by rw [setR_ne hpi]; exact h2⟩
  · by_cases hji : j = i
    · subst hji
      rcases kind with ⟨r1, k1, k2⟩ | ⟨r1, k1, k2⟩
      · rw [k2, List.getElem?_set_self hi] at hj; cases hj
      · exact e.br j r1 k1
    · rw [setR_ne hji] at hj
      exact e.br j r0 hj
  · by_cases hji : j = i
    · subst hji
      rw [if_pos rfl]
      rcases at_i with q | q
      · rw [q]; exact ⟨v, hv, hr⟩
      · rw [q]; exact ⟨v, hv, hr⟩
    · rw [if_neg hji, setR_ne hji]
      exact (e.sl j).frame (Same.refl _) (fun l hl => keep l fun z => e.dj j i hji l hl z) fun l hl => (e.liveS j l hl).2
  · exact (e.tm t (List.mem_cons_of_mem _ ht)).frame (Same.refl _) (fun l hl => keep l fun z => hiH0 l z (mem_addrs ht hl)) fun l hl => (e.liveT l (List.mem_append_right _ (mem_addrs ht hl))).2
  · by_cases hji : j = i
    · rw [if_pos hji]; exact hn
    · rw [if_neg hji]; exact e.nd j
  · by_cases hji : j = i
    · rw [if_pos hji] at hl
      rw [if_neg (fun z => hjk (hji.trans z.symm))]
      exact disjS k (fun z => hjk (hji.trans z.symm)) l hl
    · rw [if_neg hji] at hl
      by_cases hki : k = i
      · rw [if_pos hki]
        exact fun z => disjS j hji l z hl
      · rw [if_neg hki]; exact e.dj j k hjk l hl
  · by_cases hji : j = i
    · rw [if_pos hji]
      intro z
      rcases hsub l z with y | y
      · exact hiH0 l y hl
      · exact hnt.2.2 l y l hl rfl
    · rw [if_neg hji]; exact e.dt j l (List.mem_append_right _ hl)
  · by_cases hji : j = i
    · subst hji
      rw [if_pos rfl]
      intro l hl
      rcases kind with ⟨r1, k1, k2⟩ | ⟨r1, k1, k2⟩
      · rcases hsub l hl with y | y
        · exact e.ho j r1 k1 l y
        · exact e.ht l (List.mem_append_left _ y)
      · rw [k2, List.getElem?_set_self hi] at hj; cases hj
    · rw [if_neg hji]
      rw [setR_ne hji] at hj
      exact e.ho j r0 hj
  · by_cases hji : j = i
    · subst hji
      rw [if_pos rfl]
      intro l hl
      rcases kind with ⟨r1, k1, k2⟩ | ⟨r1, k1, k2⟩
      · rw [k2, List.getElem?_set_self hi] at hj; cases hj
      · rcases hsub l hl with y | y
        · exact e.hb j r1 k1 l y
        · exact .inl (e.ht l (List.mem_append_left _ y))
    · rw [if_neg hji]
      rw [setR_ne hji] at hj
      exact e.hb j r0 hj
/-- the list at slot i takes other items -/
theorem EnvR.listSet {u : V × Tm × List Addr} {rs rs' : List Rv} {l : Addr} {vs vs' : List V} {ass ass' : List Addr} (e : EnvR K E B H σ ρ α (u :: τ)) (h : slR ρ[i]? = some (.own rs)) (hv : σ[i]? = some (some (.ref l))) (hl : H l = some (.lst vs)) (hb : B l = none) (ha : α i = l :: ass)
    (hr : RvRs K B H rs' vs' ass') (hn : ass'.Nodup) (hsub : ∀ x ∈ ass', x ∈ ass ∨ x ∈ u.2.2) : EnvR K E B (L2.upd H l (.lst vs')) σ (setR i (.own rs') ρ) (fun j => if j = i then l :: ass' else α j) τ := by
  have nl : l ∉ ass := by
    have := e.nd i
    rw [ha] at this
    exact (List.nodup_cons.mp this).1
  have nu : l ∉ u.2.2 := fun z => e.dt i l (List.mem_append_left _ z) (by rw [ha]; exact List.mem_cons_self)
  have nl' : l ∉ ass' := fun z => (hsub l z).elim nl nu
  have fr := RvRs.frame (H' := L2.upd H l (.lst vs')) (Same.refl B) hr (fun x hx => upd_ne fun z => nl' (z ▸ hx)) (fun x hx => (hr.live x hx).2)
  refine e.treeSet (r' := .own rs') h hv (fun p o q => ?_) ⟨l, vs', ass', rfl, upd_same, hb, fr, rfl⟩ (List.nodup_cons.mpr ⟨nl', hn⟩) (fun x hx => ?_) (fun p hp => upd_ne fun z => hp (by rw [z, ha]; exact List.mem_cons_self)) (fun p hp => ?_) (fun p hp ps => ?_)
  · by_cases hz : p = l
    · rw [hz, hb] at q; cases q
    · rw [upd_ne hz]; exact e.bh p o q
  · rw [ha]
    rcases List.mem_cons.mp hx with z | z
    · exact .inl (by rw [z]; exact List.mem_cons_self)
    · rcases hsub x z with y | y
      · exact .inl (List.mem_cons_of_mem _ y)
      · exact .inr y
  · by_cases hz : p = l
    · rw [hz, upd_same]; simp
    · rw [upd_ne hz]; exact hp
  · by_cases hz : p = l
    · rw [hz, upd_same]
      intro y
      cases y
    · rw [upd_ne hz]; exact e.ntS i p hp ps
end
theorem RvRs.append {K : PySem.W.Frag} {B H : Hp} : ∀ {xs ys : List Rv} {vs us : List V} {as bs : List Addr}, RvRs K B H xs vs as → RvRs K B H ys us bs → RvRs K B H (xs ++ ys) (vs ++ us) (as ++ bs)
  | [], _, _, _, _, _, h, h2 => by
    obtain ⟨e1, e2⟩ := (show _ = [] ∧ _ = [] from h)
    subst e1 e2
    exact h2
  | x :: xs, _, _, _, _, _, ⟨v, r, a1, a2, e1, e2, h, t⟩, h2 => by
    subst e1 e2
    exact ⟨v, r ++ _, a1, a2 ++ _, rfl, List.append_assoc _ _ _, h, RvRs.append t h2⟩
theorem RvRs.one {K : PySem.W.Frag} {B H : Hp} {r : Rv} {v : V} {as : List Addr} (h : RvR K B H r v as) : RvRs K B H [r] [v] as := ⟨v, [], as, [], rfl, (List.append_nil _).symm, h, rfl, rfl⟩
theorem RvRs.set {K : PySem.W.Frag} {B H : Hp} {r : Rv} {v : V} {bs : List Addr} (hr : RvR K B H r v bs) (hb : bs.Nodup) : ∀ {xs : List Rv} {vs : List V} {as : List Addr} (n : Nat), n < xs.length → RvRs K B H xs vs as → as.Nodup → (∀ a ∈ as, a ∉ bs) →
    ∃ cs, RvRs K B H (xs.set n r) (vs.set n v) cs ∧ cs.Nodup ∧ ∀ c ∈ cs, c ∈ as ∨ c ∈ bs
  | [], _, _, n, hn, _, _, _ => by cases hn
  | x :: xs, _, _, 0, _, ⟨u, q, a1, a2, e1, e2, h, t⟩, nd, dj => by
    subst e1 e2
    have n2 := (List.nodup_append.mp nd).2.1
    refine ⟨bs ++ a2, ⟨v, q, bs, a2, rfl, rfl, hr, t⟩, List.nodup_append.mpr ⟨hb, n2, fun a ha b hb2 z => dj b (List.mem_append_right _ hb2) (z ▸ ha)⟩, fun c hc => ?_⟩
    rcases List.mem_append.mp hc with z | z
    · exact .inr z
    · exact .inl (List.mem_append_right _ z)
  | x :: xs, _, _, n + 1, hn, ⟨u, q, a1, a2, e1, e2, h, t⟩, nd, dj => by
    subst e1 e2
    obtain ⟨n1, n2, n3⟩ := List.nodup_append.mp nd
    obtain ⟨cs, h1, h2, h3⟩ := RvRs.set hr hb n (Nat.lt_of_succ_lt_succ hn) t n2 fun a ha => dj a (List.mem_append_right _ ha)
    refine ⟨a1 ++ cs, ⟨u, q.set n v, a1, cs, rfl, rfl, h, h1⟩, List.nodup_append.mpr ⟨n1, h2, fun a ha b hb2 z => ?_⟩, fun c hc => ?_⟩
    · rcases h3 b hb2 with y | y
      · exact n3 a ha b y z
      · exact dj a (List.mem_append_left _ ha) (z ▸ y)
    · rcases List.mem_append.mp hc with z | z
      · exact .inl (List.mem_append_left _ z)
      · rcases h3 c z with y | y
        · exact .inl (List.mem_append_right _ y)
        · exact .inr y

/-! ### xs.append(e), xs[k] = e, x op= e -/
def isL (i : Nat) (ρ : Rho) : Option Unit := match slR ρ[i]? with
  | some (.own _) => some ()
  | _ => none
theorem isL_some {i : Nat} {ρ : Rho} (h : isL i ρ = some ()) : ∃ rs, slR ρ[i]? = some (.own rs) := by
  unfold isL at h
  split at h
  · rename_i rs q
    exact ⟨rs, q⟩
  · cases h
def fApp (i : Nat) (t : Tm) (ρ : Rho) : Option Rho := match t, slR ρ[i]? with
  | .rv r, some (.own rs) => when (rs.length < 100000) (some (setR i (.own (rs ++ [r])) ρ))
  | _, _ => none
def mApp (i : Nat) (me : M Tm) : M Fl := (lift (isL i)).bind fun _ => me.bind fun t => (put (fApp i t)).bind fun _ => mNx
def fSetIx (i : Nat) (t k : Tm) (ρ : Rho) : Option Rho := match t, k, slR ρ[i]? with
  | .rv r, .rv (.val (.int j)), some (.own rs) => (ixN rs.length j).bind fun n => some (setR i (.own (rs.set n r)) ρ)
  | _, _, _ => none
def mSetIx (i : Nat) (mk me : M Tm) : M Fl := me.bind fun t => (lift (isL i)).bind fun _ => mk.bind fun k => (put (fSetIx i t k)).bind fun _ => mNx
theorem fSetIx_some {i : Nat} {t k : Tm} {ρ ρ' : Rho} (h : fSetIx i t k ρ = some ρ') : ∃ r j rs n, t = .rv r ∧ k = .v (.int j) ∧ slR ρ[i]? = some (.own rs) ∧ ixN rs.length j = some n ∧ setR i (.own (rs.set n r)) ρ = ρ' := by
  unfold fSetIx at h
  split at h
  · rename_i r j rs q
    obtain ⟨n, hn, h⟩ := Option.bind_eq_some_iff.mp h
    cases h
    exact ⟨r, j, rs, n, rfl, rfl, q, hn, rfl⟩
  · cases h
theorem st_app {K : PySem.W.Frag} {W : WX} {cv : Cv} {te : TE} {me : M Tm} (i : Nat) (h : EvM K W cv te me) : StM K W cv (tDrop (tBM K "list" rAppend (tVar i) (tCons te tNil))) (mApp i me) := fun E B H σ ρ α D e q => by
  obtain ⟨_, k1, k2⟩ := Post.lift (Post.bind q)
  obtain ⟨rs0, hr0⟩ := isL_some k1
  obtain ⟨v0, hv0, l, vs0, ass0, z1, z2, z3, z4, z5⟩ := e.slot hr0
  subst z1
  refine ⟨.ref l, hv0, Or.inl ⟨rfl, _, SqL.of z2⟩, ?_⟩
  refine h E B H σ ρ α [] _ e ?_
  refine Post.imp (Post.bind k2) (fun t ρ1 z v as B1 H1 α1 e1 => ?_) fun c ρ' z B' H' α' e' => z σ B' H' α' e'
  obtain ⟨ρ2, y1, y2⟩ := Post.bindU z
  unfold fApp at y1
  split at y1
  · rename_i _ _ r rs hrs
    obtain ⟨hlen, y1⟩ := when_some y1
    cases y1
    obtain ⟨v1, hv1, l1, vs1, ass1, x1, x2, x3, x4, x5⟩ := e1.slot hrs
    subst x1
    rw [hv0] at hv1
    cases hv1
    have T : RvR K B1 H1 r v as := e1.tm _ List.mem_cons_self
    have nd : (ass1 ++ as).Nodup := by
      have n1 := e1.nd i
      rw [x5] at n1
      refine List.nodup_append.mpr ⟨(List.nodup_cons.mp n1).2, (List.nodup_append.mp (show (as ++ addrs []).Nodup from e1.nt)).1, fun a ha b hb z => ?_⟩
      subst z
      exact e1.dt i a (List.mem_append_left _ hb) (by rw [x5]; exact List.mem_cons_of_mem _ ha)
    have e2 := e1.listSet hrs hv0 x2 x3 x5 (RvRs.append x4 (RvRs.one T)) nd (fun x hx => List.mem_append.mp hx)
    refine ⟨l, vs1, v, rfl, rfl, x2, ?_, y2 σ B1 _ _ e2⟩
    rw [← x4.length]
    exact Nat.lt_of_lt_of_le hlen (by decide)
  · cases y1
theorem st_setIx {K : PySem.W.Frag} {W : WX} {cv : Cv} {te tk : TE} {me mk : M Tm} (i : Nat) (h : EvM K W cv te me) (hk : EvM K W cv tk mk) : StM K W cv (tAsg te (gSub (tVar i) tk rSetL)) (mSetIx i mk me) := fun E B H σ ρ α D e q => by
  refine h E B H σ ρ α [] _ e ?_
  refine Post.imp (Post.bind q) (fun t ρ1 z v as B1 H1 α1 e1 => ?_) fun c ρ' z B' H' α' e' => z σ B' H' α' e'
  obtain ⟨_, k1, k2⟩ := Post.lift (Post.bind z)
  obtain ⟨rs0, hr0⟩ := isL_some k1
  obtain ⟨v0, hv0, l, vs0, ass0, z1, z2, z3, z4, z5⟩ := e1.slot hr0
  subst z1
  refine ⟨.ref l, hv0, ?_⟩
  refine hk E B1 H1 σ ρ1 α1 _ _ e1 ?_
  refine Post.imp (Post.bind k2) (fun k ρ2 z w bs B2 H2 α2 e2 => ?_) fun c ρ' z B' H' α' e' => z σ B' H' α' e'.pop
  obtain ⟨ρ3, y1, y2⟩ := Post.bindU z
  obtain ⟨r, j, rs, n, et, ek, hrs, hn, eρ⟩ := fSetIx_some y1
  subst et ek eρ
  have e3 := e2.pop
  have hw : w = .int j := e2.topV List.mem_cons_self
  subst hw
  obtain ⟨v1, hv1, l1, vs1, ass1, x1, x2, x3, x4, x5⟩ := e3.slot hrs
  subst x1
  rw [hv0] at hv1
  cases hv1
  have T : RvR K B2 H2 r v as := e3.tm _ List.mem_cons_self
  have n1 := e3.nd i
  rw [x5] at n1
  have hnl : n < rs.length := (ixN_seq hn).2.1
  obtain ⟨cs, c1, c2, c3⟩ := RvRs.set T (List.nodup_append.mp (show (as ++ addrs []).Nodup from e3.nt)).1 n hnl x4 (List.nodup_cons.mp n1).2 fun a ha z => e3.dt i a (List.mem_append_left _ z) (by rw [x5]; exact List.mem_cons_of_mem _ ha)
  have e4 := e3.listSet hrs hv0 x2 x3 x5 c1 c2 c3
  exact ⟨l, vs1, j, n, rfl, rfl, x2, by rw [← x4.length]; exact hn, y2 σ B2 _ _ e4⟩
/-- x op= e, x plain data -/
def IpM (K : PySem.W.Frag) (r : TIp) (f : Tm → Tm → Rho → Option Tm) : Prop := OpM K r f
def mAug (i : Nat) (f : Tm → Tm → Rho → Option Tm) (me : M Tm) : M Fl := (mVar i).bind fun x => me.bind fun y => (lift (f x y)).bind fun z => (put (mSet i z)).bind fun _ => mNx
theorem st_aug {K : PySem.W.Frag} {W : WX} {cv : Cv} {te : TE} {me : M Tm} {ti : TIp} {f : Tm → Tm → Rho → Option Tm} (i : Nat) (hf : OpM K ti f) (h : EvM K W cv te me) : StM K W cv (tAug i te ti) (mAug i f me) := fun E B H σ ρ α D e q => by
  have key := ev_var (K := K) (W := W) (cv := cv) i E B H σ ρ α [] (fun x H1 => te σ H1 fun y H2 => ti x y H2 fun z H3 => D.nx (σ.set i (some z)) H3) e ?_
  · obtain ⟨v, h1, h2⟩ := key
    exact ⟨v, h1, h2⟩
  · refine Post.imp (Post.bind q) (fun x ρ1 z v as B1 H1 α1 e1 => ?_) fun c ρ' z B' H' α' e' => z σ B' H' α' e'
    refine h E B1 H1 σ ρ1 α1 _ _ e1 ?_
    refine Post.imp (Post.bind z) (fun y ρ2 z w bs B2 H2 α2 e2 => ?_) fun c ρ' z B' H' α' e' => z σ B' H' α' e'.pop
    obtain ⟨t, y1, y2⟩ := Post.lift (Post.bind z)
    obtain ⟨ρ3, y3, y4⟩ := Post.bindU y2
    refine hf E B2 H2 σ ρ2 α2 _ v w x y as bs _ t e2 y1 fun u cs B3 H3 α3 e3 => ?_
    exact tg_name (K := K) i E B3 H3 σ ρ2 ρ3 α3 [] u t cs _ noPk_nil e3.drop2 y3 fun σ' B' H' α' _ e' => y4 σ' B' H' α' e'
section
variable {X : Cx} {W : WX} {cv : Cv} {pos : Pos}
theorem s_aug (i : Nat) {x : Str} {e : Expr} {me : M Tm} {op : Operator} {ti : TIp} {f : Tm → Tm → Rho → Option Tm} {pos' : Pos} (hN : X.N.Nodup) (ho : PIp X op ti) (hf : OpM X.K ti f) (he : DE X W cv e me) (hi : X.N[i]? = some x := by rfl) (hx : Loc X.env.scope x := by first | exact .inl rfl | exact .inr rfl) (hfn : X.fn x = true ∨ X.env.scope.names.lookup x = some .local := by first | exact .inl rfl | exact .inr rfl | assumption) :
    DS X W cv (.AugAssign (.Name x pos') op e pos) (mAug i f me) := let ⟨_, h1, h2⟩ := he; ⟨_, ps_aug hN hi hx h1 ho hfn, st_aug i hf h2⟩
theorem s_setIx (i : Nat) {x : Str} {k e : Expr} {mk me : M Tm} {p p2 : Pos} (hk : DE X W cv k mk) (he : DE X W cv e me) (hi : X.N[i]? = some x := by rfl) (hv : Vis X.env.scope x := by first | exact Or.inl rfl | exact Or.inr (Or.inl rfl) | exact Or.inr (Or.inr rfl))
    (ha : ∀ v, assign (.Subscript (.Name x p) k p2) X.env v = (do
      let ov ← holding [v] (eval (.Name x p) X.env)
      let iv ← holding [v, ov] (eval k X.env)
      standAt p2
      holding [v, ov, iv] (setItem ov iv v)
      release [v, ov, iv] []) := by intro _; rfl)
    (hs : swapsWithSole [.Subscript (.Name x p) k p2] e pos.line X.env = pure false := by rfl) (hw : swappedStores [.Subscript (.Name x p) k p2] e X.env = pure none := by rfl)
    (h1 : (assignEach [.Subscript (.Name x p) k p2] X.env).map (·.2) = [assign (.Subscript (.Name x p) k p2) X.env] := by rfl) (hd : (x == ("__debug__" : Str)) = false := by decide) (hcd : (x == ("__classdict__" : Str)) = false := by decide) :
    DS X W cv (.Assign [.Subscript (.Name x p) k p2] e pos) (mSetIx i mk me) := let ⟨_, h3, h4⟩ := hk; let ⟨_, h5, h6⟩ := he; ⟨_, ps_asg h5 (pg_sub (pe_var hi hv hd hcd) h3 set_list ha) hs hw h1, st_setIx i h6 h4⟩
end
end Pd
set_option Elab.async false
set_option linter.all false
set_option maxRecDepth 100000
set_option maxHeartbeats 2000000
/-! Pd7: calls of defs; a def by its body; methods of built-in types. -/
namespace Pd
open PySem PySem.Spec PyProof.Rows L2

/-! ### what a def does: F takes the slots of the parameters, hands back a tree and what is left of the borrowed ones -/
def spF (K : PySem.W.Frag) (cv : Cv) (n : Nat) (F : M Rv) : Sp := fun vs H Q E => ∃ (En : Ent cv.tb) (args : Rho) (α : Nat → List Addr) (B : Hp), vs.length = n ∧ En.H0 = H ∧ En.B0 = B ∧ EnvR K En B H (vs.map some) args α [] ∧
  Post (F args) (fun r args' => ∀ v as B' H' α', EnvR K En B' H' (vs.map some) args' α' [(v, .rv r, as)] → Q v H') (fun c args' => ∀ B' H' α', EnvR K En B' H' (vs.map some) args' α' [] → E (cv.f c) none H')
def keepA : Rho → Rho → Rho
  | [], _ => []
  | .bor _ :: as, s :: ρ => s :: keepA as ρ
  | _ :: as, _ :: ρ => .any :: keepA as ρ
  | _ :: as, [] => .any :: keepA as []
theorem keepA_length : ∀ (as ρ : Rho), (keepA as ρ).length = as.length
  | [], _ => rfl
  | .bor _ :: as, s :: ρ => congrArg (· + 1) (keepA_length as ρ)
  | .bor _ :: as, [] => congrArg (· + 1) (keepA_length as [])
  | .own _ :: as, s :: ρ => congrArg (· + 1) (keepA_length as ρ)
  | .own _ :: as, [] => congrArg (· + 1) (keepA_length as [])
  | .any :: as, s :: ρ => congrArg (· + 1) (keepA_length as ρ)
  | .any :: as, [] => congrArg (· + 1) (keepA_length as [])
theorem keepA_get : ∀ {as ρ : Rho} {j : Nat}, (keepA as ρ)[j]? = some .any ∨ (∃ r, as[j]? = some (.bor r) ∧ (keepA as ρ)[j]? = ρ[j]? ∧ ρ[j]? ≠ none) ∨ (as[j]? = none ∧ (keepA as ρ)[j]? = none)
  | [], _, j => .inr (.inr ⟨by simp, by simp [keepA]⟩)
  | a :: as, [], 0 => by
    refine .inl ?_
    cases a <;> rfl
  | .bor r :: as, s :: ρ, 0 => .inr (.inl ⟨r, rfl, rfl, by simp⟩)
  | .own r :: as, s :: ρ, 0 => .inl rfl
  | .any :: as, s :: ρ, 0 => .inl rfl
  | a :: as, [], j + 1 => by
    have ih := @keepA_get as [] j
    have e : (keepA (a :: as) [])[j + 1]? = (keepA as [])[j]? := by cases a <;> rfl
    rw [e]
    rcases ih with h | ⟨r, h1, h2, h3⟩ | ⟨h1, h2⟩
    · exact .inl h
    · simp at h3
    · exact .inr (.inr ⟨by simpa using h1, h2⟩)
  | a :: as, s :: ρ, j + 1 => by
    have ih := @keepA_get as ρ j
    have e : (keepA (a :: as) (s :: ρ))[j + 1]? = (keepA as ρ)[j]? := by cases a <;> rfl
    rw [e]
    simpa using ih
def runDef (N n : Nat) (m : M Fl) : M Rv := fun args => match m (args ++ List.replicate (N - n) .any) with
  | .ok .nx ρ' => .ok (.val .non) (keepA args ρ')
  | .ok (.rt r) ρ' => .ok r (keepA args ρ')
  | .err c ρ' => .err c (keepA args ρ')
  | _ => .bad
def isBor : Option Sl → Bool
  | some (.bor _) => true
  | _ => false
section
variable {K : PySem.W.Frag} {Tb : List Addr} {E : Ent Tb} {B B' H H' : Hp} {σ σ' : L2.St} {ρ ρ' : Rho} {α : Nat → List Addr} {τ : Tau} {v : V} {as : List Addr} {t : Tm} {i : Nat}
theorem EnvR.out (e : EnvR K E B H σ ρ α τ) {j : Nat} (h : ρ[j]? = none ∨ ρ[j]? = some .any) : α j = [] := by
  have S := e.sl j
  rcases h with h | h
  · rw [h] at S; exact S
  · rw [h] at S; exact S
theorem EnvR.ext {k : Nat} (e : EnvR K E B H σ ρ α []) : EnvR K E B H (σ ++ List.replicate k none) (ρ ++ List.replicate k .any) α [] := by
  have hr : ∀ j (s : Sl), (ρ ++ List.replicate k Sl.any)[j]? = some s → s ≠ .any → ρ[j]? = some s := fun j s h hn => by
    by_cases hj : j < ρ.length
    · rwa [List.getElem?_append_left hj] at h
    · rw [List.getElem?_append_right (by omega), List.getElem?_replicate] at h
      split at h
      · cases h; exact absurd rfl hn
      · cases h
  have at_ : ∀ j, j < ρ.length → (σ ++ List.replicate k none)[j]? = σ[j]? ∧ (ρ ++ List.replicate k Sl.any)[j]? = ρ[j]? := fun j hj => ⟨List.getElem?_append_left (by rw [e.ln]; exact hj), List.getElem?_append_left hj⟩
  refine ⟨e.bh, e.b0, e.nb, e.fr, e.wr, fun p hp => ?_, fun j r hj => e.br j r (hr j _ hj (fun z => by cases z)), fun j => ?_, (fun t ht => by cases ht), e.nd, e.dj, e.nt, e.dt, fun j r hj => e.ho j r (hr j _ hj (fun z => by cases z)), fun j r hj => e.hb j r (hr j _ hj (fun z => by cases z)), e.ht, by simp [e.ln]⟩
  · obtain ⟨h1, r, h2⟩ := e.rt p hp
    have hl := (List.getElem?_eq_some_iff.mp h2).1
    exact ⟨(at_ _ hl).1.trans h1, r, (at_ _ hl).2.trans h2⟩
  · by_cases hj : j < ρ.length
    · rw [(at_ j hj).1, (at_ j hj).2]
      exact e.sl j
    · rw [e.out (.inl (List.getElem?_eq_none (by omega)))]
      cases hs : (ρ ++ List.replicate k Sl.any)[j]? with
      | none => rfl
      | some s =>
        rw [List.getElem?_append_right (by omega), List.getElem?_replicate] at hs
        split at hs
        · cases hs; rfl
        · cases hs
/-- at the end of a def: the parameters' slots as the caller sees them -/
theorem EnvR.leave {vs : List V} {args : Rho} {α0 : Nat → List Addr} {B0 H0 : Hp} {n : Nat} (e0 : EnvR K E B0 H0 (vs.map some) args α0 []) (e : EnvR K E B H σ ρ α τ) (np : NoPk τ) : EnvR K E B H (vs.map some) (keepA args ρ) (fun j => if isBor (keepA args ρ)[j]? = true then α j else []) τ := by
  have bor : ∀ j s, (keepA args ρ)[j]? = some s → s ≠ .any → ∃ r a, args[j]? = some (.bor r) ∧ (j, a) ∈ E.roots ∧ s = s ∧ ρ[j]? = some s ∧ (∃ r', s = .bor r') ∧ σ[j]? = some (some a) ∧ (vs.map some)[j]? = some (some a) := fun j s h hn => by
    rcases @keepA_get args ρ j with q | ⟨r, q1, q2, q3⟩ | ⟨q1, q2⟩
    · rw [q] at h; exact absurd (Option.some.inj h).symm hn
    · obtain ⟨a, ha⟩ := e0.br j r q1
      rw [h] at q2
      obtain ⟨h1, r', h2⟩ := e.rt (j, a) ha
      rw [← q2] at h2
      exact ⟨r, a, q1, ha, rfl, q2.symm, ⟨r', Option.some.inj h2⟩, h1, (e0.rt (j, a) ha).1⟩
    · rw [q2] at h; cases h
  have cases_ : ∀ j, ((keepA args ρ)[j]? = some .any ∨ (keepA args ρ)[j]? = none) ∨ ∃ r' a, (keepA args ρ)[j]? = some (.bor r') ∧ (j, a) ∈ E.roots ∧ ρ[j]? = some (.bor r') ∧ σ[j]? = some (some a) ∧ (vs.map some)[j]? = some (some a) := fun j => by
    cases h : (keepA args ρ)[j]? with
    | none => exact .inl (.inr rfl)
    | some s =>
      by_cases hn : s = .any
      · exact .inl (.inl (by rw [hn]))
      · obtain ⟨r, a, k1, k2, _, k4, ⟨r', k5⟩, k6, k7⟩ := bor j s h hn
        subst k5
        exact .inr ⟨r', a, rfl, k2, k4, k6, k7⟩
  refine ⟨e.bh, e.b0, e.nb, e.fr, e.wr, fun p hp => ⟨(e0.rt p hp).1, ?_⟩, fun j r hj => ?_, fun j => ?_, fun t ht => (e.tm t ht).slots (np t ht), fun j => ?_, fun j k hjk l hl => ?_, e.nt, fun j l hl => ?_, fun j r hj => ?_, fun j r hj => ?_, e.ht, ?_⟩
  · obtain ⟨_, r, h2⟩ := e0.rt p hp
    obtain ⟨_, r', h3⟩ := e.rt p hp
    rcases @keepA_get args ρ p.1 with q | ⟨r1, q1, q2, q3⟩ | ⟨q1, q2⟩
    · -- it was borrowed: not forgotten
      have key : ∀ {as ρ : Rho} {j : Nat} {r r' : Rv}, as[j]? = some (.bor r) → ρ[j]? = some (.bor r') → (keepA as ρ)[j]? = some (.bor r') := by
        intro as
        induction as with
        | nil => intro ρ j r r' h; simp at h
        | cons a as ih =>
          intro ρ j r r' h1 h2
          cases ρ with
          | nil => simp at h2
          | cons s ρ =>
            cases j with
            | zero =>
              have e1 : a = .bor r := by simpa using h1
              have e2 : s = .bor r' := by simpa using h2
              subst e1 e2
              rfl
            | succ j =>
              have e : (keepA (a :: as) (s :: ρ))[j + 1]? = (keepA as ρ)[j]? := by cases a <;> rfl
              rw [e]
              exact ih (by simpa using h1) (by simpa using h2)
      exact ⟨r', key h2 h3⟩
    · exact ⟨r', q2.trans h3⟩
    · rw [q1] at h2; cases h2
  · obtain ⟨r1, a, k1, k2, _⟩ := bor j _ hj (fun z => by cases z)
    exact ⟨a, k2⟩
  · rcases cases_ j with h | ⟨r', a, h1, h2, h3, h4, h5⟩
    · rcases h with h | h
      · rw [h]; rfl
      · rw [h]; rfl
    · rw [h1, if_pos (show isBor (some (Sl.bor r')) = true from rfl), h5]
      have S := e.sl j
      rw [h3, h4] at S
      exact S
  · split
    · exact e.nd j
    · exact List.nodup_nil
  · by_cases h1 : isBor (keepA args ρ)[j]? = true
    · rw [if_pos h1] at hl
      by_cases h2 : isBor (keepA args ρ)[k]? = true
      · rw [if_pos h2]; exact e.dj j k hjk l hl
      · rw [if_neg h2]; simp
    · rw [if_neg h1] at hl; cases hl
  · by_cases h2 : isBor (keepA args ρ)[j]? = true
    · rw [if_pos h2]; exact e.dt j l hl
    · rw [if_neg h2]; simp
  · rcases cases_ j with h | ⟨r', a, h1, _⟩
    · rcases h with h | h
      · rw [h] at hj; cases hj
      · rw [h] at hj; cases hj
    · rw [h1] at hj; cases hj
  · rcases cases_ j with h | ⟨r', a, h1, h2, h3, _⟩
    · rcases h with h | h
      · rw [h] at hj; cases hj
      · rw [h] at hj; cases hj
    · rw [h1, if_pos (show isBor (some (Sl.bor r')) = true from rfl)]
      exact e.hb j r' h3
  · rw [keepA_length, List.length_map]
    have := e0.ln
    rw [List.length_map] at this
    exact this
end
/-! ### calls -/
def argOf (ρ : Rho) : Tm → Option Sl
  | .rv (.val d) => some (.own (.val d))
  | .pk i => (slR ρ[i]?).map .bor
  | _ => none
def args? (ρ : Rho) : List Tm → Option Rho
  | [] => some []
  | t :: ts => (argOf ρ t).bind fun a => (args? ρ ts).bind fun as => some (a :: as)
/-- the borrowed argument: its place, the slot -/
def pkAt : List Tm → Option (Nat × Nat)
  | [] => none
  | .pk i :: _ => some (0, i)
  | _ :: ts => (pkAt ts).map fun p => (p.1 + 1, p.2)
def nPk : List Tm → Nat
  | [] => 0
  | .pk _ :: ts => nPk ts + 1
  | _ :: ts => nPk ts
def backP (p : Option (Nat × Nat)) (args' ρ : Rho) : Option Rho := match p with
  | none => some ρ
  | some (j, i) => match args'[j]? with
    | some (.bor r) => some (setR i r ρ)
    | _ => none
def fin (p : Option (Nat × Nat)) (ρ : Rho) (r : Res Rv) : Res Tm := match r with
  | .ok r args' => match backP p args' ρ with
    | some ρ' => .ok (.rv r) ρ'
    | none => .bad
  | .err c args' => match backP p args' ρ with
    | some ρ' => .err c ρ'
    | none => .bad
  | .bad => .bad
def callF (F : M Rv) (ts : List Tm) : M Tm := fun ρ => match args? ρ ts with
  | none => .bad
  | some args => if nPk ts ≤ 1 then fin (pkAt ts) ρ (F args) else .bad
def mCall (n : Nat) (F : M Rv) (ms : M (List Tm)) : M Tm := ms.bind fun ts ρ => if ts.length = n then callF F ts ρ else .bad
theorem argsGet {ρ : Rho} : ∀ {ts : List Tm} {args : Rho}, args? ρ ts = some args → args.length = ts.length ∧ ∀ (j : Nat) (t : Tm), ts[j]? = some t → ∃ a, args[j]? = some a ∧ argOf ρ t = some a
  | [], args, h => by
    cases h
    exact ⟨rfl, fun j t q => by simp at q⟩
  | t :: ts, args, h => by
    obtain ⟨a, h1, h2⟩ := Option.bind_eq_some_iff.mp h
    obtain ⟨as, h3, h4⟩ := Option.bind_eq_some_iff.mp h2
    cases h4
    obtain ⟨k1, k2⟩ := argsGet h3
    refine ⟨by rw [List.length_cons, List.length_cons, k1], fun j u q => ?_⟩
    cases j with
    | zero =>
      have e : t = u := by simpa using q
      subst e
      exact ⟨a, rfl, h1⟩
    | succ j =>
      obtain ⟨b, k3, k4⟩ := k2 j u (by simpa using q)
      exact ⟨b, by simpa using k3, k4⟩
theorem nPk_zero : ∀ {ts : List Tm}, nPk ts = 0 → ∀ (j i : Nat), ts[j]? ≠ some (Tm.pk i)
  | [], _, j, i => by simp
  | .pk k :: ts, h, j, i => by simp [nPk] at h
  | .rv r :: ts, h, j, i => by
    cases j with
    | zero => simp
    | succ j => simpa using nPk_zero (ts := ts) h j i
theorem pkAt_none : ∀ {ts : List Tm}, pkAt ts = none → ∀ (j i : Nat), ts[j]? ≠ some (Tm.pk i)
  | [], _, j, i => by simp
  | .pk k :: ts, h, j, i => by cases h
  | .rv r :: ts, h, j, i => by
    have h' : pkAt ts = none := by
      have q : (pkAt ts).map (fun p => (p.1 + 1, p.2)) = none := h
      simpa using q
    cases j with
    | zero => simp
    | succ j => simpa using pkAt_none h' j i
theorem pkAt_some : ∀ {ts : List Tm} {j i : Nat}, pkAt ts = some (j, i) → nPk ts ≤ 1 → ts[j]? = some (Tm.pk i) ∧ ∀ (j' i' : Nat), ts[j']? = some (Tm.pk i') → j' = j ∧ i' = i
  | [], _, _, h, _ => by cases h
  | .pk k :: ts, j, i, h, hn => by
    cases h
    have hz : nPk ts = 0 := by simp [nPk] at hn; exact hn
    refine ⟨rfl, fun j' i' q => ?_⟩
    cases j' with
    | zero =>
      have e : Tm.pk k = Tm.pk i' := by simpa using q
      cases e
      exact ⟨rfl, rfl⟩
    | succ j' => exact absurd (by simpa using q) (nPk_zero hz j' i')
  | .rv r :: ts, j, i, h, hn => by
    have q : (pkAt ts).map (fun p => (p.1 + 1, p.2)) = some (j, i) := h
    cases hp : pkAt ts with
    | none => rw [hp] at q; cases q
    | some p =>
      rw [hp] at q
      obtain ⟨a, b⟩ := p
      cases q
      obtain ⟨k1, k2⟩ := pkAt_some hp hn
      refine ⟨by simpa using k1, fun j' i' q => ?_⟩
      cases j' with
      | zero => simp at q
      | succ j' =>
        obtain ⟨k3, k4⟩ := k2 j' i' (by simpa using q)
        exact ⟨by rw [k3], k4⟩
section
variable {K : PySem.W.Frag} {Tb : List Addr} {E : Ent Tb} {B B' H H' : Hp} {σ σ' : L2.St} {ρ ρ' : Rho} {α : Nat → List Addr} {τ : Tau} {v : V} {as : List Addr} {t : Tm} {i : Nat}
theorem tau_get {ts : Tau} {j : Nat} {t : Tm} (h : (ts.map (·.2.1))[j]? = some t) : ∃ v as, ts[j]? = some (v, t, as) ∧ (ts.map (·.1))[j]? = some v := by
  rw [List.getElem?_map] at h
  cases q : ts[j]? with
  | none => rw [q] at h; cases h
  | some u =>
    obtain ⟨v, t', as⟩ := u
    rw [q] at h
    cases h
    exact ⟨v, as, rfl, by rw [List.getElem?_map, q]; rfl⟩
/-- the entry of a callee -/
def entOf (Tb : List Addr) (B H : Hp) (α : Nat → List Addr) (p : Option (Nat × Nat)) (root : V) : Ent Tb := match p with
  | none => ⟨B, H, [], []⟩
  | some (j, i) => ⟨B, H, α i, [(j, root)]⟩
def alOf (α : Nat → List Addr) (p : Option (Nat × Nat)) (j : Nat) : List Addr := match p with
  | none => []
  | some (j', i) => if j = j' then α i else []
/-- the callee's start -/
theorem EnvR.enter {ts : Tau} {args : Rho} (e : EnvR K E B H σ ρ α (ts ++ τ)) (ha : args? ρ (ts.map (·.2.1)) = some args) (hn : nPk (ts.map (·.2.1)) ≤ 1) :
    ∃ root, (∀ j i, pkAt (ts.map (·.2.1)) = some (j, i) → σ[i]? = some (some root) ∧ (ts.map (·.1))[j]? = some root) ∧ EnvR K (entOf Tb B H α (pkAt (ts.map (·.2.1))) root) B H ((ts.map (·.1)).map some) args (alOf α (pkAt (ts.map (·.2.1)))) [] := by
  obtain ⟨hlen, hget⟩ := argsGet ha
  have lenA : args.length = ts.length := by rw [hlen, List.length_map]
  have none_of : ∀ j, ts.length ≤ j → args[j]? = none := fun j h => List.getElem?_eq_none (by omega)
  have vsj : ∀ j v, (ts.map (·.1))[j]? = some v → ((ts.map (·.1)).map some)[j]? = some (some v) := fun j v h => by rw [List.getElem?_map, h]; rfl
  have argj : ∀ (j : Nat) a, args[j]? = some a → ∃ v t as, ts[j]? = some (v, t, as) ∧ (ts.map (·.1))[j]? = some v ∧ (ts.map (·.2.1))[j]? = some t ∧ argOf ρ t = some a := fun j a h => by
    have hj : j < ts.length := by have := (List.getElem?_eq_some_iff.mp h).1; omega
    have hq : (ts.map (·.2.1))[j]? = some ((ts.map (·.2.1))[j]'(by rw [List.length_map]; exact hj)) := List.getElem?_eq_getElem _
    obtain ⟨b, h1, h2⟩ := hget j _ hq
    rw [h] at h1
    cases h1
    obtain ⟨v, as, h3, h4⟩ := tau_get hq
    exact ⟨v, _, as, h3, h4, hq, h2⟩
  cases hp : pkAt (ts.map (·.2.1)) with
  | none =>
    have nopk := pkAt_none hp
    refine ⟨.non, fun j i h => (by cases h), ?_⟩
    have only : ∀ (j : Nat) (s : Sl), args[j]? = some s → ∃ d v, s = .own (.val d) ∧ (ts.map (·.1))[j]? = some v ∧ Rep K B d v := fun j s h => by
      obtain ⟨v, t, as, h1, h2, h3, h4⟩ := argj j s h
      cases t with
      | pk i => exact absurd h3 (nopk j i)
      | rv r =>
        cases r with
        | val d => cases h4; exact ⟨d, v, rfl, h2, e.topV (List.mem_append_left _ (List.mem_of_getElem? h1))⟩
        | own _ => cases h4
        | tup _ => cases h4
    refine ⟨e.bh, Same.refl _, fun p hp => .inl hp, Frm.start (fun p ps h => e.tabB h) (fun p h => e.tab h) _, fun p hp => (by cases hp), fun p hp => (by cases hp), fun j r h => ?_, fun j => ?_, fun t ht => (by cases ht), fun j => List.nodup_nil, fun j k _ l hl => (by cases hl), List.nodup_nil, fun j l hl => (by cases hl), fun j r h l hl => (by cases hl), fun j r h l hl => (by cases hl), fun l hl => (by cases hl), by rw [List.length_map, List.length_map, lenA]⟩
    · obtain ⟨d, v, k1, _⟩ := only j _ h
      cases k1
    · cases hs : args[j]? with
      | none => rfl
      | some s =>
        obtain ⟨d, v, k1, k2, k3⟩ := only j s hs
        subst k1
        exact ⟨v, vsj j v k2, rfl, k3⟩
  | some p =>
    obtain ⟨j0, i0⟩ := p
    obtain ⟨hj0, huniq⟩ := pkAt_some hp hn
    obtain ⟨v0, as0, h1, h2⟩ := tau_get hj0
    obtain ⟨a0, h3, h4⟩ := hget j0 _ hj0
    have T : TmR K B H σ v0 (.pk i0) as0 := e.tm _ (List.mem_append_left _ (List.mem_of_getElem? h1))
    obtain ⟨_, hv0⟩ := T
    have h4' : (slR ρ[i0]?).map Sl.bor = some a0 := h4
    cases hr : slR ρ[i0]? with
    | none => rw [hr] at h4'; cases h4'
    | some r0 =>
      rw [hr] at h4'
      cases h4'
      obtain ⟨u, hu, hR⟩ := e.slot hr
      rw [hv0] at hu
      cases hu
      refine ⟨v0, fun j i h => ?_, ?_⟩
      · cases h
        exact ⟨hv0, h2⟩
      have at_ : ∀ (j : Nat) (s : Sl), args[j]? = some s → (∃ d v, s = .own (.val d) ∧ j ≠ j0 ∧ (ts.map (·.1))[j]? = some v ∧ Rep K B d v) ∨ (j = j0 ∧ s = .bor r0) := fun j s h => by
        obtain ⟨v, t, as, k1, k2, k3, k4⟩ := argj j s h
        cases t with
        | pk i =>
          obtain ⟨k5, k6⟩ := huniq j i k3
          subst k5 k6
          rw [h] at h3
          have k4' : (slR ρ[i]?).map Sl.bor = some s := k4
          rw [hr] at k4'
          cases k4'
          exact .inr ⟨rfl, rfl⟩
        | rv r =>
          cases r with
          | val d =>
            cases k4
            refine .inl ⟨d, v, rfl, fun z => ?_, k2, e.topV (List.mem_append_left _ (List.mem_of_getElem? k1))⟩
            rw [z, hj0] at k3
            cases k3
          | own _ => cases k4
          | tup _ => cases k4
      have al : ∀ j, alOf α (some (j0, i0)) j = if j = j0 then α i0 else [] := fun j => rfl
      have lv := e.liveS i0
      refine ⟨e.bh, Same.refl _, fun p hp => .inl hp, Frm.start (fun p ps h => e.tabB h) (fun p h => e.tab h) _, fun p hp => (lv p hp).1, fun p hp => ?_, fun j r h => ?_, fun j => ?_, fun t ht => (by cases ht), fun j => ?_, fun j k hjk l hl => ?_, List.nodup_nil, fun j l hl => (by cases hl), fun j r h l hl => ?_, fun j r h l hl => ?_, fun l hl => (by cases hl), by rw [List.length_map, List.length_map, lenA]⟩
      · have hp' : p = (j0, v0) := by simpa [entOf] using hp
        subst hp'
        refine ⟨vsj j0 v0 h2, r0, h3⟩
      · rcases at_ j _ h with ⟨d, v, k1, _⟩ | ⟨k1, k2⟩
        · cases k1
        · exact ⟨v0, by rw [k1]; exact List.mem_cons_self⟩
      · cases hs : args[j]? with
        | none =>
          show alOf α (some (j0, i0)) j = []
          rw [al, if_neg (fun z => by rw [z, h3] at hs; cases hs)]
        | some s =>
          rcases at_ j s hs with ⟨d, v, k1, k2, k3, k4⟩ | ⟨k1, k2⟩
          · subst k1
            refine ⟨v, vsj j v k3, ?_, k4⟩
            rw [al, if_neg k2]
          · subst k1 k2
            refine ⟨v0, vsj j v0 h2, ?_⟩
            rw [al, if_pos rfl]
            exact hR
      · rw [al]
        split
        · exact e.nd i0
        · exact List.nodup_nil
      · rw [al] at hl ⊢
        by_cases hj : j = j0
        · rw [if_neg (fun z => hjk (hj.trans z.symm))]
          simp
        · rw [if_neg hj] at hl
          cases hl
      · rcases at_ j _ h with ⟨d, v, k1, k2, _⟩ | ⟨k1, k2⟩
        · rw [al, if_neg k2] at hl
          cases hl
        · cases k2
      · rcases at_ j _ h with ⟨d, v, k1, _⟩ | ⟨k1, k2⟩
        · cases k1
        · rw [al, if_pos k1] at hl
          exact .inr hl
/-- behind the call -/
theorem EnvR.back {ts : Tau} {args args' : Rho} {root : V} {p : Option (Nat × Nat)} {α' : Nat → List Addr} {τ' : Tau} (e : EnvR K E B H σ ρ α (ts ++ τ)) (hp : p = pkAt (ts.map (·.2.1))) (hn : nPk (ts.map (·.2.1)) ≤ 1) (ha : args? ρ (ts.map (·.2.1)) = some args)
    (hroot : ∀ j i, p = some (j, i) → σ[i]? = some (some root) ∧ (ts.map (·.1))[j]? = some root) (np : NoPk τ') (e' : EnvR K (entOf Tb B H α p root) B' H' ((ts.map (·.1)).map some) args' α' τ') (hb : backP p args' ρ = some ρ') :
    ∃ α'', EnvR K E B' H' σ ρ' α'' (τ' ++ τ) := by
  have e1 : EnvR K E B H σ ρ α τ := e.pops
  have b0 : (entOf Tb B H α p root).B0 = B := by cases p <;> rfl
  have h0 : (entOf Tb B H α p root).H0 = H := by cases p <;> rfl
  have eb0 : Same B B' := by have := e'.b0; rw [b0] at this; exact this
  have enb : ∀ q, B' q ≠ none → B q ≠ none ∨ H q = none := fun q hq => by have := e'.nb q hq; rw [b0, h0] at this; exact this
  have keepB : ∀ l, H l ≠ none → B l = none → B' l = none := fun l h1 h2 => by
    cases q : B' l with
    | none => rfl
    | some o =>
      rcases enb l (by rw [q]; simp) with z | z
      · exact absurd h2 z
      · exact absurd z h1
  have eht : ∀ l ∈ addrs τ', H l = none := fun l hl => by have := e'.ht l hl; rw [h0] at this; exact this
  have ht' : ∀ l ∈ addrs τ', E.H0 l = none := fun l hl => e1.new0 (eht l hl)
  have apart : ∀ l ∈ addrs τ', l ∉ addrs τ := fun l hl z => (e1.liveT l z).1 (eht l hl)
  have adr : addrs (τ' ++ τ) = addrs τ' ++ addrs τ := by unfold addrs; rw [List.flatMap_append]
  have ntt : (addrs (τ' ++ τ)).Nodup := by rw [adr]; exact List.nodup_append.mpr ⟨e'.nt, e1.nt, fun a h1 b h2 z => apart a h1 (z ▸ h2)⟩
  have nb1 : ∀ q, B' q ≠ none → E.B0 q ≠ none ∨ E.H0 q = none := fun q hq => by
    rcases enb q hq with z | z
    · exact e1.nb q z
    · exact .inr (e1.new0 z)
  have efrm : ∀ {as : List Addr}, (∀ p ∈ as, ∀ ps, H p ≠ some (.tbl ps)) → (∀ p ∈ as, E.H0 p = none ∨ p ∈ E.Wr) → Frm Tb B H as H' → Frm Tb E.B0 E.H0 E.Wr H' := fun {as} h1 h2 f => by
    refine ⟨fun p o q k1 k2 => f.fr p o (e1.fr.fr p o q k1 k2) (fun z => (h2 p z).elim (fun y => by rw [y] at q; cases q) k1) k2, fun p ps q => ?_, fun p ps q => ?_, e1.fr.t0, e1.fr.tg⟩
    · obtain ⟨ps1, k1, k2⟩ := e1.fr.tk p ps q
      obtain ⟨ps2, k3, k4⟩ := f.tk p ps1 k1
      exact ⟨ps2, k3, fun z => k4 (k2 z)⟩
    · obtain ⟨ps1, k1⟩ := f.tn p ps q
      exact e1.fr.tn p ps1 k1
  cases p with
  | none =>
    cases hb
    have efr : ∀ l, H l ≠ none → (∀ ps, H l ≠ some (.tbl ps)) → H' l = H l := fun l hl ht => by
      cases q : H l with
      | none => exact absurd q hl
      | some o => exact e'.fr.fr l o q (fun z => by cases z) (fun ps z => ht ps (by rw [q, z]))
    have ene : ∀ l, H l ≠ none → H' l ≠ none := fun l hl => by
      by_cases ht : ∃ ps, H l = some (.tbl ps)
      · obtain ⟨ps, h⟩ := ht
        obtain ⟨ps', h1, _⟩ := e'.fr.tk l ps h
        rw [h1]
        intro z
        cases z
      · rw [efr l hl fun ps z => ht ⟨ps, z⟩]
        exact hl
    refine ⟨α, e'.bh, e1.b0.trans eb0, nb1, efrm (fun z hz => by cases hz) (fun z hz => by cases hz) e'.fr, fun q hq => ene q (e1.wr q hq), e1.rt, e1.br, fun j => ?_, fun t ht => ?_, e1.nd, e1.dj, ntt, fun j l hl => ?_, e1.ho, e1.hb, fun l hl => ?_, e1.ln⟩
    · have L := e1.liveS j
      exact (e1.sl j).frame eb0 (fun l hl => efr l (L l hl).1 (e1.ntS j l hl)) fun l hl => keepB l (L l hl).1 (L l hl).2
    · rcases List.mem_append.mp ht with z | z
      · exact (e'.tm t z).slots (np t z)
      · have L := (e1.tm t z).live
        exact (e1.tm t z).frame eb0 (fun l hl => efr l (L l hl).1 (e1.ntT l (mem_addrs z hl))) fun l hl => keepB l (L l hl).1 (L l hl).2
    · rw [adr] at hl
      rcases List.mem_append.mp hl with z | z
      · exact fun y => (e1.liveS j l y).1 (eht l z)
      · exact e1.dt j l z
    · rw [adr] at hl
      rcases List.mem_append.mp hl with z | z
      · exact ht' l z
      · exact e1.ht l z
  | some pp =>
    obtain ⟨j0, i0⟩ := pp
    obtain ⟨hr1, hr2⟩ := hroot j0 i0 rfl
    unfold backP at hb
    simp only at hb
    split at hb
    rotate_left
    · cases hb
    rename_i r' hr'
    cases hb
    have efr : ∀ l, H l ≠ none → l ∉ α i0 → (∀ ps, H l ≠ some (.tbl ps)) → H' l = H l := fun l hl hn ht => by
      cases q : H l with
      | none => exact absurd q hl
      | some o => exact e'.fr.fr l o q hn (fun ps z => ht ps (by rw [q, z]))
    have ene : ∀ l, H l ≠ none → l ∉ α i0 → H' l ≠ none := fun l hl hn => by
      by_cases ht : ∃ ps, H l = some (.tbl ps)
      · obtain ⟨ps, h⟩ := ht
        obtain ⟨ps', h1, _⟩ := e'.fr.tk l ps h
        rw [h1]
        intro z
        cases z
      · rw [efr l hl hn fun ps z => ht ⟨ps, z⟩]
        exact hl
    have ewr : ∀ l ∈ α i0, H' l ≠ none := fun l hl => e'.wr l hl
    -- the slot that was lent
    obtain ⟨hj0, _⟩ := pkAt_some hp.symm hn
    obtain ⟨_, hget⟩ := argsGet ha
    obtain ⟨a0, h3, h4⟩ := hget j0 _ hj0
    have h4' : (slR ρ[i0]?).map Sl.bor = some a0 := h4
    obtain ⟨r0, hs0⟩ : ∃ r0, slR ρ[i0]? = some r0 := by
      cases hr : slR ρ[i0]? with
      | none => rw [hr] at h4'; cases h4'
      | some r0 => exact ⟨r0, rfl⟩
    have hi : i0 < ρ.length := by
      cases hs : ρ[i0]? with
      | none => rw [hs] at hs0; cases hs0
      | some s => exact (List.getElem?_eq_some_iff.mp hs).1
    have kind : (∃ r1, ρ[i0]? = some (.own r1) ∧ setR i0 r' ρ = ρ.set i0 (.own r')) ∨ ∃ r1, ρ[i0]? = some (.bor r1) ∧ setR i0 r' ρ = ρ.set i0 (.bor r') := by
      cases hs : ρ[i0]? with
      | none => rw [hs] at hs0; cases hs0
      | some s =>
        cases s with
        | any => rw [hs] at hs0; cases hs0
        | own r1 => exact .inl ⟨r1, rfl, by unfold setR; rw [hs]⟩
        | bor r1 => exact .inr ⟨r1, rfl, by unfold setR; rw [hs]⟩
    have vr : RvR K B' H' r' root (α' j0) := by
      have S := e'.sl j0
      rw [hr'] at S
      obtain ⟨u, hu, hR⟩ := S
      rw [List.getElem?_map, hr2] at hu
      cases hu
      exact hR
    have ab : ∀ l ∈ α' j0, H l = none ∨ l ∈ α i0 := fun l hl => e'.hb j0 r' hr' l hl
    have dS : ∀ j, j ≠ i0 → ∀ l ∈ α' j0, l ∉ α j := fun j hj l hl z => by
      rcases ab l hl with y | y
      · exact (e1.liveS j l z).1 y
      · exact e1.dj i0 j (Ne.symm hj) l y z
    have dT : ∀ l ∈ α' j0, l ∉ addrs τ := fun l hl z => by
      rcases ab l hl with y | y
      · exact (e1.liveT l z).1 y
      · exact e1.dt i0 l z y
    have hw0 : ∀ p ∈ α i0, E.H0 p = none ∨ p ∈ E.Wr := fun p z => by
      rcases kind with ⟨r1, k1, _⟩ | ⟨r1, k1, _⟩
      · exact .inl (e1.ho i0 r1 k1 p z)
      · exact e1.hb i0 r1 k1 p z
    refine ⟨fun j => if j = i0 then α' j0 else α j, e'.bh, e1.b0.trans eb0, nb1, efrm (e1.ntS i0) hw0 e'.fr, fun q hq => ?_, fun q hq => ?_, fun j r hj => ?_, fun j => ?_, fun t ht => ?_, fun j => ?_, fun j k hjk l hl => ?_, ntt, fun j l hl => ?_, fun j r hj => ?_, fun j r hj => ?_, fun l hl => ?_, by rw [setR_length]; exact e1.ln⟩
    · by_cases hm : q ∈ α i0
      · exact ewr q hm
      · exact ene q (e1.wr q hq) hm
    · obtain ⟨k1, r1, k2⟩ := e1.rt q hq
      refine ⟨k1, ?_⟩
      by_cases hqi : q.1 = i0
      · rcases kind with ⟨r2, k3, k4⟩ | ⟨r2, k3, k4⟩
        · rw [hqi, k3] at k2; cases k2
        · exact ⟨r', by rw [hqi, k4, List.getElem?_set_self hi]⟩
      · exact ⟨r1, by rw [setR_ne hqi]; exact k2⟩
    · by_cases hji : j = i0
      · subst hji
        rcases kind with ⟨r2, k3, k4⟩ | ⟨r2, k3, k4⟩
        · rw [k4, List.getElem?_set_self hi] at hj; cases hj
        · exact e1.br j r2 k3
      · rw [setR_ne hji] at hj
        exact e1.br j r hj
    · by_cases hji : j = i0
      · subst hji
        rw [if_pos rfl]
        rcases kind with ⟨r2, k3, k4⟩ | ⟨r2, k3, k4⟩
        · rw [k4, List.getElem?_set_self hi]; exact ⟨root, hr1, vr⟩
        · rw [k4, List.getElem?_set_self hi]; exact ⟨root, hr1, vr⟩
      · rw [if_neg hji, setR_ne hji]
        have L := e1.liveS j
        exact (e1.sl j).frame eb0 (fun l hl => efr l (L l hl).1 (fun z => e1.dj j i0 hji l hl z) (e1.ntS j l hl)) fun l hl => keepB l (L l hl).1 (L l hl).2
    · rcases List.mem_append.mp ht with z | z
      · exact (e'.tm t z).slots (np t z)
      · have L := (e1.tm t z).live
        exact (e1.tm t z).frame eb0 (fun l hl => efr l (L l hl).1 (fun y => e1.dt i0 l (mem_addrs z hl) y) (e1.ntT l (mem_addrs z hl))) fun l hl => keepB l (L l hl).1 (L l hl).2
    · by_cases hji : j = i0
      · rw [if_pos hji]; exact e'.nd j0
      · rw [if_neg hji]; exact e1.nd j
    · by_cases hji : j = i0
      · rw [if_pos hji] at hl
        rw [if_neg fun z => hjk (hji.trans z.symm)]
        exact dS k (fun z => hjk (hji.trans z.symm)) l hl
      · rw [if_neg hji] at hl
        by_cases hki : k = i0
        · rw [if_pos hki]; exact fun z => dS j hji l z hl
        · rw [if_neg hki]; exact e1.dj j k hjk l hl
    · rw [adr] at hl
      by_cases hji : j = i0
      · rw [if_pos hji]
        rcases List.mem_append.mp hl with z | z
        · exact e'.dt j0 l z
        · exact fun y => dT l y z
      · rw [if_neg hji]
        rcases List.mem_append.mp hl with z | z
        · exact fun y => (e1.liveS j l y).1 (eht l z)
        · exact e1.dt j l z
    · by_cases hji : j = i0
      · subst hji
        rw [if_pos rfl]
        intro l hl
        rcases kind with ⟨r2, k3, k4⟩ | ⟨r2, k3, k4⟩
        · rcases ab l hl with y | y
          · exact e1.new0 y
          · exact e1.ho j r2 k3 l y
        · rw [k4, List.getElem?_set_self hi] at hj; cases hj
      · rw [if_neg hji]
        rw [setR_ne hji] at hj
        exact e1.ho j r hj
    · by_cases hji : j = i0
      · subst hji
        rw [if_pos rfl]
        intro l hl
        rcases kind with ⟨r2, k3, k4⟩ | ⟨r2, k3, k4⟩
        · rw [k4, List.getElem?_set_self hi] at hj; cases hj
        · rcases ab l hl with y | y
          · exact .inl (e1.new0 y)
          · exact e1.hb j r2 k3 l y
      · rw [if_neg hji]
        rw [setR_ne hji] at hj
        exact e1.hb j r hj
    · rw [adr] at hl
      rcases List.mem_append.mp hl with z | z
      · exact ht' l z
      · exact e1.ht l z
end
theorem callF_post {F : M Rv} {ts : List Tm} {ρ : Rho} {f : Tm → Rho → Prop} {g : Str → Rho → Prop} (q : Post (callF F ts ρ) f g) : ∃ args, args? ρ ts = some args ∧ nPk ts ≤ 1 ∧ Post (fin (pkAt ts) ρ (F args)) f g := by
  unfold callF at q
  cases ha : args? ρ ts with
  | none => rw [ha] at q; exact q.elim
  | some args =>
    rw [ha] at q
    by_cases hp : nPk ts ≤ 1
    · simp only [if_pos hp] at q
      exact ⟨args, rfl, hp, q⟩
    · simp only [if_neg hp] at q
      exact q.elim
theorem whenM_post {A : Type} {p : Prop} [Decidable p] {r : Res A} {f : A → Rho → Prop} {g : Str → Rho → Prop} (q : Post (if p then r else .bad) f g) : p ∧ Post r f g := by
  by_cases hp : p
  · rw [if_pos hp] at q; exact ⟨hp, q⟩
  · rw [if_neg hp] at q; exact q.elim
theorem ev_call {K : PySem.W.Frag} {W : WX} {cv : Cv} {ta : TA} {ms : M (List Tm)} {F : M Rv} {n : Nat} (h : EvMs K W cv ta ms) : EvM K W cv (tCallS (spF K cv n F) (WE W) ta) (mCall n F ms) := fun E B H σ ρ α τ Q e q => by
  refine h E B H σ ρ α τ _ e ?_
  have q1 := Post.bind q
  generalize ms ρ = R at q1
  cases R with
  | bad => exact q1
  | err c ρ' => exact q1
  | ok rs ρ1 =>
    intro ts B1 H1 α1 ht e1
    subst ht
    have q1' : Post (if (ts.map (·.2.1)).length = n then callF F (ts.map (·.2.1)) ρ1 else .bad) (fun r ρ' => ∀ v as B' H' α', EnvR K E B' H' σ ρ' α' ((v, r, as) :: τ) → Q v H') (GE K W cv E σ τ) := q1
    obtain ⟨hl, q2⟩ := whenM_post q1'
    obtain ⟨args, ha, hp, q3⟩ := callF_post q2
    obtain ⟨root, k1, k2⟩ := EnvR.enter e1 ha hp
    refine ⟨entOf cv.tb B1 H1 α1 (pkAt (ts.map (·.2.1))) root, args, _, B1, by rw [List.length_map] at hl ⊢; exact hl, by cases pkAt (ts.map (·.2.1)) <;> rfl, by cases pkAt (ts.map (·.2.1)) <;> rfl, k2, ?_⟩
    generalize hF : F args = R2 at q3
    cases R2 with
    | bad => exact q3
    | ok r args' =>
      intro v as B' H' α' e'
      unfold fin at q3
      simp only at q3
      cases hb : backP (pkAt (ts.map (·.2.1))) args' ρ1 with
      | none => rw [hb] at q3; exact q3.elim
      | some ρ' =>
        rw [hb] at q3
        obtain ⟨α'', e''⟩ := EnvR.back e1 rfl hp ha k1 (fun t ht => by
          have z : t = (v, .rv r, as) := by simpa using ht
          rw [z]; rfl) e' hb
        exact q3 v as B' H' α'' e''
    | err c args' =>
      intro B' H' α' e'
      unfold fin at q3
      simp only at q3
      cases hb : backP (pkAt (ts.map (·.2.1))) args' ρ1 with
      | none => rw [hb] at q3; exact q3.elim
      | some ρ' =>
        rw [hb] at q3
        obtain ⟨α'', e''⟩ := EnvR.back e1 rfl hp ha k1 noPk_nil e' hb
        exact q3 B' H' α'' e''
end Pd
set_option Elab.async false
set_option linter.all false
set_option maxRecDepth 100000
set_option maxHeartbeats 2000000
/-! Pd8: the operators and built-in functions, by data. -/
namespace Pd
open PySem PySem.Spec PyProof.Rows L2

/-! ### data as PyData -/
mutual
def D.py : D → PyData
  | .non => .none
  | .bl b => .bool b
  | .int i => .int i
  | .str x => .str x
  | .tup xs => .tuple (D.pys xs)
  | .lst xs => .list (D.pys xs)
  | .fls xs => .list (D.pys xs)
  | .exc _ => .none
def D.pys : List D → List PyData
  | [] => []
  | x :: xs => x.py :: D.pys xs
end
mutual
def D.dep : D → Nat
  | .tup xs => D.deps xs + 1
  | .lst xs => D.deps xs + 1
  | .fls xs => D.deps xs + 1
  | .str x => if PyData.strOk x = true then 0 else 100
  | .exc _ => 100
  | _ => 0
def D.deps : List D → Nat
  | [] => 0
  | x :: xs => max x.dep (D.deps xs)
end
mutual
theorem D.py_lay : ∀ d : D, d.dep ≤ 60 → d.py.canLay0 = true
  | .non, _ => by simp [D.py, PyData.canLay0]
  | .bl b, _ => by simp [D.py, PyData.canLay0]
  | .int i, _ => by simp [D.py, PyData.canLay0]
  | .str x, h => by
    simp only [D.py, PyData.canLay0]
    simp only [D.dep] at h
    by_cases q : PyData.strOk x = true
    · exact q
    · rw [if_neg q] at h; omega
  | .tup xs, h => by simp only [D.py, PyData.canLay0]; simp only [D.dep] at h; exact D.pys_lay xs (by omega)
  | .lst xs, h => by simp only [D.py, PyData.canLay0]; simp only [D.dep] at h; exact D.pys_lay xs (by omega)
  | .fls xs, h => by simp only [D.py, PyData.canLay0]; simp only [D.dep] at h; exact D.pys_lay xs (by omega)
  | .exc _, h => by simp [D.dep] at h
theorem D.pys_lay : ∀ ds : List D, D.deps ds ≤ 60 → PyData.canLayAll0 (D.pys ds) = true
  | [], _ => by simp [D.pys, PyData.canLayAll0]
  | x :: xs, h => by
    simp only [D.deps] at h
    simp only [D.pys, PyData.canLayAll0, D.py_lay x (by omega), D.pys_lay xs (by omega), Bool.and_self]
end
mutual
theorem D.py_depth : ∀ d : D, d.py.depth ≤ d.dep + 1
  | .non => by simp [D.py, PyData.depth]
  | .bl b => by simp [D.py, PyData.depth]
  | .int i => by simp [D.py, PyData.depth]
  | .str x => by simp [D.py, PyData.depth]
  | .tup xs => by have := D.pys_depth xs; simp only [D.py, PyData.depth, D.dep]; omega
  | .lst xs => by have := D.pys_depth xs; simp only [D.py, PyData.depth, D.dep]; omega
  | .fls xs => by have := D.pys_depth xs; simp only [D.py, PyData.depth, D.dep]; omega
  | .exc _ => by simp [D.py, PyData.depth]
theorem D.pys_depth : ∀ ds : List D, PyData.depthAll (D.pys ds) ≤ D.deps ds + 1
  | [] => by simp [D.pys, PyData.depthAll]
  | x :: xs => by have h1 := D.py_depth x; have h2 := D.pys_depth xs; simp only [D.pys, PyData.depthAll, D.deps]; omega
end
theorem D.shaped {d : D} (h : d.dep ≤ 60) : SeqAt.shaped d.py = true := by
  have := D.py_depth d
  show (d.py.canLay0 && decide (d.py.depth ≤ 64)) = true
  rw [D.py_lay d h, Bool.true_and]
  exact decide_eq_true (by omega)
theorem D.shapeds {ds : List D} (h : D.deps ds ≤ 59) : SeqAt.shaped (.list (D.pys ds)) = true := D.shaped (d := .lst ds) (by simp only [D.dep]; omega)
mutual
theorem Rep.dp {K : PySem.W.Frag} {H : Hp} : ∀ {d : D} {v : V}, Rep K H d v → d.dep ≤ 60 → Dp K H v d.py
  | .non, _, h, _ => by cases (show _ = V.non from h); exact .non
  | .bl b, _, h, _ => by cases (show _ = V.bl b from h); exact .bl b
  | .int i, _, h, _ => by cases (show _ = V.int i from h); exact .int i
  | .str x, _, h, _ => by cases (show _ = V.str x from h); exact .str x
  | .tup xs, _, ⟨a, vs, e, h, r⟩, k => by subst e; simp only [D.dep] at k; exact .tup h (Reps.dp r (by omega))
  | .lst xs, _, ⟨a, vs, e, h, r⟩, k => by subst e; simp only [D.dep] at k; exact .lst (SqL.of h) (Reps.dp r (by omega))
  | .fls xs, _, ⟨a, vs, e, h, r⟩, k => by subst e; simp only [D.dep] at k; exact .lst h (Reps.dp r (by omega))
  | .exc _, _, _, k => by simp [D.dep] at k
theorem Reps.dp {K : PySem.W.Frag} {H : Hp} : ∀ {ds : List D} {vs : List V}, Reps K H ds vs → D.deps ds ≤ 60 → DpAll K H vs (D.pys ds)
  | [], _, h, _ => by cases (show _ = [] from h); exact .nil
  | d :: ds, _, ⟨v, r, e, h, t⟩, k => by subst e; simp only [D.deps] at k; exact .cons (Rep.dp h (by omega)) (Reps.dp t (by omega))
end
/-! ### helpers -/
abbrev MM (τ : Tau) (x : V) (t : Tm) (as : List Addr) : Prop := (x, t, as) ∈ τ
section
variable {K : PySem.W.Frag} {Tb : List Addr} {E : Ent Tb} {B H : Hp} {σ : L2.St} {ρ : Rho} {α : Nat → List Addr} {τ : Tau} {x y : V} {tx ty : Tm} {ax ay : List Addr}
theorem EnvR.seqL (e : EnvR K E B H σ ρ α τ) (h : (x, tx, ax) ∈ τ) {ds : List D} (q : tx.elsF ρ = some ds) : ∃ a vs, x = .ref a ∧ SqL K H a vs ∧ Reps K H ds vs := by
  obtain ⟨a, vs, h1, h2, h3⟩ := e.elsF h q
  exact ⟨a, vs, h1, h2, h3.mono e.bh⟩
theorem EnvR.seqT (e : EnvR K E B H σ ρ α τ) (h : (x, tx, ax) ∈ τ) {ds : List D} (q : tx.tels ρ = some ds) : ∃ a vs, x = .ref a ∧ SqT K H a vs ∧ Reps K H ds vs := by
  obtain ⟨a, vs, h1, h2, h3⟩ := e.tels h q
  exact ⟨a, vs, h1, h2, h3.mono e.bh⟩
end
theorem m2a {a b : V × Tm × List Addr} {τ : Tau} : a ∈ a :: b :: τ := List.mem_cons_self
theorem m2b {a b : V × Tm × List Addr} {τ : Tau} : b ∈ a :: b :: τ := List.mem_cons_of_mem _ List.mem_cons_self
theorem m1 {a : V × Tm × List Addr} {τ : Tau} : a ∈ a :: τ := List.mem_cons_self
theorem line6 {n : Nat} (h : n ≤ 100000) : n ≤ sizeLine := by rw [sizeLine_eq]; omega
theorem OpM.or1 {K : PySem.W.Frag} {r r' : R2} {f : Tm → Tm → Rho → Option Tm} (h : OpM K r f) : OpM K (fun x y H Q => r x y H Q ∨ r' x y H Q) f := fun E B H σ ρ α τ x y tx ty ax ay Q t e q k => .inl (h E B H σ ρ α τ x y tx ty ax ay Q t e q k)
theorem OpM.or2 {K : PySem.W.Frag} {r r' : R2} {f : Tm → Tm → Rho → Option Tm} (h : OpM K r' f) : OpM K (fun x y H Q => r x y H Q ∨ r' x y H Q) f := fun E B H σ ρ α τ x y tx ty ax ay Q t e q k => .inr (h E B H σ ρ α τ x y tx ty ax ay Q t e q k)
/-- f, else g -/
def orF (f g : Tm → Tm → Rho → Option Tm) : Tm → Tm → Rho → Option Tm := fun x y ρ => match f x y ρ with
  | some t => some t
  | none => g x y ρ
theorem OpM.orF {K : PySem.W.Frag} {r r' : R2} {f g : Tm → Tm → Rho → Option Tm} (h : OpM K r f) (h' : OpM K r' g) : OpM K (fun x y H Q => r x y H Q ∨ r' x y H Q) (orF f g) := fun E B H σ ρ α τ x y tx ty ax ay Q t e q k => by
  unfold Pd.orF at q
  cases hf : f tx ty ρ with
  | some u =>
    rw [hf] at q
    cases q
    exact .inl (h E B H σ ρ α τ x y tx ty ax ay Q _ e hf k)
  | none =>
    rw [hf] at q
    exact .inr (h' E B H σ ρ α τ x y tx ty ax ay Q t e q k)
/-! ### ints -/
def fII (C : Int → Int → Prop) [∀ i j, Decidable (C i j)] (g : Int → Int → D) : Tm → Tm → Rho → Option Tm := fun x y _ => match x, y with
  | .rv (.val (.int i)), .rv (.val (.int j)) => when (C i j) (some (.v (g i j)))
  | _, _ => none
theorem om_I {K : PySem.W.Frag} {C : Int → Int → Prop} [∀ i j, Decidable (C i j)] {g : Int → Int → D} {gv : Int → Int → V} (hg : ∀ i j B, Rep K B (g i j) (gv i j)) : OpM K (rI C gv) (fII C g) := fun E B H σ ρ α τ x y tx ty ax ay Q t e q k => by
  unfold fII at q
  split at q
  · rename_i i j
    obtain ⟨hc, q⟩ := when_some q
    cases q
    have h1 : x = .int i := e.topV m2b
    have h2 : y = .int j := e.topV m2a
    exact ⟨i, j, h1, h2, hc, k _ [] B H α (e.push (hg i j B))⟩
  · cases q
def fI0 (g : Int → Int → D) : Tm → Tm → Rho → Option Tm := fun x y _ => match x, y with
  | .rv (.val (.int i)), .rv (.val (.int j)) => some (.v (g i j))
  | _, _ => none
theorem om_I0 {K : PySem.W.Frag} {g : Int → Int → D} {gv : Int → Int → V} (hg : ∀ i j B, Rep K B (g i j) (gv i j)) : OpM K (rI0 gv) (fI0 g) := fun E B H σ ρ α τ x y tx ty ax ay Q t e q k => by
  unfold fI0 at q
  split at q
  · rename_i i j
    cases q
    have h1 : x = .int i := e.topV m2b
    have h2 : y = .int j := e.topV m2a
    exact ⟨i, j, h1, h2, k _ [] B H α (e.push (hg i j B))⟩
  · cases q
theorem om_Ii {K : PySem.W.Frag} {C : Int → Int → Prop} [∀ i j, Decidable (C i j)] {g : Int → Int → Int} : OpM K (rI C fun i j => .int (g i j)) (fII C fun i j => .int (g i j)) := om_I (g := fun i j => .int (g i j)) (gv := fun i j => .int (g i j)) fun _ _ _ => rfl
theorem om_Ii0 {K : PySem.W.Frag} {g : Int → Int → Int} : OpM K (rI0 fun i j => .int (g i j)) (fI0 fun i j => .int (g i j)) := om_I0 (g := fun i j => .int (g i j)) (gv := fun i j => .int (g i j)) fun _ _ _ => rfl
theorem om_Ib0 {K : PySem.W.Frag} {g : Int → Int → Bool} : OpM K (rI0 fun i j => .bl (g i j)) (fI0 fun i j => .bl (g i j)) := om_I0 (g := fun i j => .bl (g i j)) (gv := fun i j => .bl (g i j)) fun _ _ _ => rfl
instance (i j : Int) : Decidable (CMulW i j) := by unfold CMulW; infer_instance
instance (i j : Int) : Decidable (CDivW i j) := by unfold CDivW; infer_instance
instance (i j : Int) : Decidable (CPow i j) := by unfold CPow; infer_instance
/-! ### + -/
def fCatS : Tm → Tm → Rho → Option Tm := fun x y _ => match x, y with
  | .rv (.val (.str i)), .rv (.val (.str j)) => when (i.length + j.length ≤ 100000) (some (.v (.str (i ++ j))))
  | _, _ => none
theorem om_catS {K : PySem.W.Frag} : OpM K (fun x y H Q => ∃ i j, x = .str i ∧ y = .str j ∧ i.length + j.length ≤ sizeLine ∧ Q (.str (i ++ j)) H) fCatS := fun E B H σ ρ α τ x y tx ty ax ay Q t e q k => by
  unfold fCatS at q
  split at q
  · rename_i i j
    obtain ⟨hc, q⟩ := when_some q
    cases q
    have h1 : x = .str i := e.topV m2b
    have h2 : y = .str j := e.topV m2a
    exact ⟨i, j, h1, h2, line6 hc, k _ [] B H α (e.push rfl)⟩
  · cases q
def fCatL : Tm → Tm → Rho → Option Tm := fun x y ρ => match x.els ρ, y.els ρ with
  | some a, some b => when (a.length + b.length ≤ 100000) (some (.o (a ++ b)))
  | _, _ => none
theorem om_catL {K : PySem.W.Frag} : OpM K rCat fCatL := fun E B H σ ρ α τ x y tx ty ax ay Q t e q k => by
  unfold fCatL at q
  split at q
  · rename_i a b ha hb
    obtain ⟨hc, q⟩ := when_some q
    cases q
    obtain ⟨p1, vs, h1, h2, h3⟩ := e.els m2b ha
    obtain ⟨p2, us, h4, h5, h6⟩ := e.els m2a hb
    refine ⟨p1, p2, vs, us, h1, h4, h2, h5, by rw [← h3.length, ← h6.length]; exact line6 hc, fun p hp => k _ [p] _ _ α (e.newOwn hp (h3.append h6))⟩
  · cases q
def fCatT : Tm → Tm → Rho → Option Tm := fun x y _ => match x, y with
  | .rv (.val (.tup a)), .rv (.val (.tup b)) => when (a.length + b.length ≤ 100000) (some (.v (.tup (a ++ b))))
  | _, _ => none
theorem Reps.nil_iff {K : PySem.W.Frag} {B : Hp} {ds : List D} {vs : List V} (h : Reps K B ds vs) : vs = [] ↔ ds = [] := by
  have := h.length
  constructor
  · intro z; rw [z] at this; exact List.length_eq_zero_iff.mp this
  · intro z; rw [z] at this; exact List.length_eq_zero_iff.mp this.symm
theorem om_catT {K : PySem.W.Frag} : OpM K (rCatA K) fCatT := fun E B H σ ρ α τ x y tx ty ax ay Q t e q k => by
  unfold fCatT at q
  split at q
  · rename_i a b
    obtain ⟨hc, q⟩ := when_some q
    cases q
    have r1 : Rep K B (.tup a) x := e.topV m2b
    have r2 : Rep K B (.tup b) y := e.topV m2a
    obtain ⟨p1, vs, h1, h2, h3⟩ := id r1
    obtain ⟨p2, us, h4, h5, h6⟩ := id r2
    refine ⟨p1, p2, vs, us, h1, h4, sqT_same e.bh h2, sqT_same e.bh h5, by rw [← h3.length, ← h6.length]; exact line6 hc, fun z => ?_, fun _ z => ?_, fun _ _ p hp => k _ [] _ _ α (e.newTup hp (h3.append h6))⟩
    · have z' := h3.nil_iff.mp z
      subst z'
      exact k _ [] B H α (e.push (by rw [List.nil_append, ← h4]; exact r2))
    · have z' := h6.nil_iff.mp z
      subst z'
      exact k _ [] B H α (e.push (by rw [List.append_nil, ← h1]; exact r1))
  · cases q
def fAdd : Tm → Tm → Rho → Option Tm := orF (fI0 fun i j => .int (i + j)) (orF fCatS (orF fCatL fCatT))
def fSub : Tm → Tm → Rho → Option Tm := fI0 fun i j => .int (i - j)
/-! ### * // % ** and bits -/
def fRepL : Tm → Tm → Rho → Option Tm := fun x y ρ => match x.els ρ, y with
  | some a, .rv (.val (.int k)) => when (-(2 ^ 63) ≤ k ∧ k < 2 ^ 63 ∧ a.length * k.toNat ≤ 100000) (some (.o (List.replicate k.toNat a).flatten))
  | _, _ => none
theorem Reps.flatten {K : PySem.W.Frag} {B : Hp} {ds : List D} {vs : List V} (h : Reps K B ds vs) : ∀ n, Reps K B (List.replicate n ds).flatten (List.replicate n vs).flatten
  | 0 => Reps.nil
  | n + 1 => by
    rw [List.replicate_succ, List.replicate_succ, List.flatten_cons, List.flatten_cons]
    exact h.append (Reps.flatten h n)
theorem om_repL {K : PySem.W.Frag} : OpM K rRep fRepL := fun E B H σ ρ α τ x y tx ty ax ay Q t e q k => by
  unfold fRepL at q
  split at q
  · rename_i a n ha
    obtain ⟨⟨h1, h2, h3⟩, q⟩ := when_some q
    cases q
    obtain ⟨p1, vs, h4, h5, h6⟩ := e.els m2b ha
    have h7 : y = .int n := e.topV m2a
    exact ⟨p1, n, vs, h4, h7, h5, h1, h2, by rw [← h6.length]; exact line6 h3, fun p hp => k _ [p] _ _ α (e.newOwn hp (h6.flatten _))⟩
  · cases q
def fRepT : Tm → Tm → Rho → Option Tm := fun x y ρ => match x.tels ρ, y with
  | some a, .rv (.val (.int k)) => when (0 < a.length ∧ 2 ≤ k ∧ k ≤ 1000 ∧ a.length ≤ 1000) (some (.v (.tup (List.replicate k.toNat a).flatten)))
  | _, _ => none
theorem om_repT {K : PySem.W.Frag} : OpM K (rRepT K) fRepT := fun E B H σ ρ α τ x y tx ty ax ay Q t e q k => by
  unfold fRepT at q
  split at q
  · rename_i a n ha
    obtain ⟨⟨h1, h2, h3, h3'⟩, q⟩ := when_some q
    cases q
    obtain ⟨p1, vs, h4, h5, h6⟩ := e.tels m2b ha
    have h7 : y = .int n := e.topV m2a
    have hl := h6.length
    exact ⟨p1, n, vs, h4, h7, h5, (fun z => by rw [z] at hl; rw [hl] at h1; exact absurd h1 (by simp)), h2, h3, by omega, fun p hp => k _ [] _ _ α (e.newTup hp (h6.flatten _))⟩
  · cases q
def fMul : Tm → Tm → Rho → Option Tm := orF (fII CMulW fun i j => .int (i * j)) (orF fRepL fRepT)
def fDiv : Tm → Tm → Rho → Option Tm := fII CDivW fun i j => .int (i / j)
def fMod : Tm → Tm → Rho → Option Tm := fII (fun _ j => 0 < j) fun i j => .int (i % j)
def fPow : Tm → Tm → Rho → Option Tm := fII CPow fun i j => .int (i ^ j.toNat)
def fShr : Tm → Tm → Rho → Option Tm := fII (fun _ j => 0 ≤ j) fun i j => .int (i / 2 ^ j.toNat)
def fShl : Tm → Tm → Rho → Option Tm := fII CPow fun i j => .int (i * 2 ^ j.toNat)
def fXor : Tm → Tm → Rho → Option Tm := fI0 fun i j => .int (Builtin.bitXor i j)
def fBand : Tm → Tm → Rho → Option Tm := fI0 fun i j => .int (Builtin.bitAnd i j)
def fBor : Tm → Tm → Rho → Option Tm := fI0 fun i j => .int (Builtin.bitOr i j)
section
variable {X : Cx} {W : WX} {cv : Cv} {pos : Pos} {a b : Expr} {ma mb : M Tm}
theorem e_add (ha : DE X W cv a ma) (hb : DE X W cv b mb) : DE X W cv (.BinOp a .Add b pos) (mOp fAdd ma mb) := e_op (op_add.or (op_add_str.or (op_cat.or op_catA))) (OpM.orF (om_Ii0 (g := fun i j => i + j)) (OpM.orF om_catS (OpM.orF om_catL om_catT))) ha hb
theorem e_sub (ha : DE X W cv a ma) (hb : DE X W cv b mb) : DE X W cv (.BinOp a .Sub b pos) (mOp fSub ma mb) := e_op op_sub om_Ii0 ha hb
theorem e_mul (ha : DE X W cv a ma) (hb : DE X W cv b mb) : DE X W cv (.BinOp a .Mult b pos) (mOp fMul ma mb) := e_op (op_mulW.or (op_rep.or op_repT)) (OpM.orF (om_Ii (g := fun i j => i * j)) (OpM.orF om_repL om_repT)) ha hb
theorem e_div (ha : DE X W cv a ma) (hb : DE X W cv b mb) : DE X W cv (.BinOp a .FloorDiv b pos) (mOp fDiv ma mb) := e_op op_fdivW om_Ii ha hb
theorem e_mod (ha : DE X W cv a ma) (hb : DE X W cv b mb) : DE X W cv (.BinOp a .Mod b pos) (mOp fMod ma mb) := e_op op_mod om_Ii ha hb
theorem e_pow (ha : DE X W cv a ma) (hb : DE X W cv b mb) : DE X W cv (.BinOp a .Pow b pos) (mOp fPow ma mb) := e_op op_pow om_Ii ha hb
theorem e_shr (ha : DE X W cv a ma) (hb : DE X W cv b mb) : DE X W cv (.BinOp a .RShift b pos) (mOp fShr ma mb) := e_op op_shr om_Ii ha hb
theorem e_shl (ha : DE X W cv a ma) (hb : DE X W cv b mb) : DE X W cv (.BinOp a .LShift b pos) (mOp fShl ma mb) := e_op op_shl om_Ii ha hb
theorem e_xor (ha : DE X W cv a ma) (hb : DE X W cv b mb) : DE X W cv (.BinOp a .BitXor b pos) (mOp fXor ma mb) := e_op op_xor om_Ii0 ha hb
theorem e_band (ha : DE X W cv a ma) (hb : DE X W cv b mb) : DE X W cv (.BinOp a .BitAnd b pos) (mOp fBand ma mb) := e_op op_and om_Ii0 ha hb
theorem e_bor (ha : DE X W cv a ma) (hb : DE X W cv b mb) : DE X W cv (.BinOp a .BitOr b pos) (mOp fBor ma mb) := e_op op_or om_Ii0 ha hb
end
def fNeg : Tm → Rho → Option Tm := fun x _ => match x with
  | .rv (.val (.int i)) => some (.v (.int (-i)))
  | _ => none
theorem um_neg {K : PySem.W.Frag} : UnM K (rU fun i => .int (-i)) fNeg := fun E B H σ ρ α τ x tx ax Q t e q k => by
  unfold fNeg at q
  split at q
  · rename_i i
    cases q
    have h1 : x = .int i := e.topV m1
    exact ⟨i, h1, k _ [] B H α (e.pop.push rfl)⟩
  · cases q
/-! ### comparing -/
def fEqN (neg : Bool) : Tm → Tm → Rho → Option Tm := fun x y ρ => match x.dat ρ, y.dat ρ with
  | some d, some e => when (d.dep ≤ 60 ∧ e.dep ≤ 60) (some (.v (.bl (if neg = true then !PyData.eqv d.py e.py else PyData.eqv d.py e.py))))
  | _, _ => none
theorem om_eq {K : PySem.W.Frag} : OpM K (rEqD K) (fEqN false) := fun E B H σ ρ α τ x y tx ty ax ay Q t e q k => by
  unfold fEqN at q
  split at q
  · rename_i d d' hd hd'
    obtain ⟨⟨h1, h2⟩, q⟩ := when_some q
    cases q
    exact ⟨_, _, (e.dat m2b hd).dp h1, (e.dat m2a hd').dp h2, D.shaped h1, D.shaped h2, k _ [] B H α (e.push rfl)⟩
  · cases q
theorem om_ne {K : PySem.W.Frag} : OpM K (rNeD K) (fEqN true) := fun E B H σ ρ α τ x y tx ty ax ay Q t e q k => by
  unfold fEqN at q
  split at q
  · rename_i d d' hd hd'
    obtain ⟨⟨h1, h2⟩, q⟩ := when_some q
    cases q
    exact ⟨_, _, (e.dat m2b hd).dp h1, (e.dat m2a hd').dp h2, D.shaped h1, D.shaped h2, k _ [] B H α (e.push rfl)⟩
  · cases q
def fLt : Tm → Tm → Rho → Option Tm := fI0 fun i j => .bl (decide (i < j))
def fLe : Tm → Tm → Rho → Option Tm := fI0 fun i j => .bl (decide (i ≤ j))
def fGt : Tm → Tm → Rho → Option Tm := fI0 fun i j => .bl (decide (j < i))
def fGe : Tm → Tm → Rho → Option Tm := fI0 fun i j => .bl (decide (j ≤ i))
/-! in, not in -/
def flD : D → Bool
  | .non => true
  | .bl _ => true
  | .int _ => true
  | .str _ => true
  | _ => false
theorem flD_v {K : PySem.W.Frag} {H : Hp} {d : D} {v : V} (h : Rep K H d v) (f : flD d = true) : flatV v = true := by
  cases d with
  | non => cases (show v = V.non from h); rfl
  | bl b => cases (show v = V.bl b from h); rfl
  | int i => cases (show v = V.int i from h); rfl
  | str x => cases (show v = V.str x from h); rfl
  | _ => cases f
theorem flDs_v {K : PySem.W.Frag} {H : Hp} : ∀ {ds : List D} {vs : List V}, Reps K H ds vs → ds.all flD = true → vs.all flatV = true
  | [], _, h, _ => by cases (show _ = [] from h); rfl
  | d :: ds, _, ⟨v, r, e, h, t⟩, f => by
    subst e
    rw [List.all_cons, Bool.and_eq_true] at f ⊢
    exact ⟨flD_v h f.1, flDs_v t f.2⟩
theorem eqV_py {K : PySem.W.Frag} {H : Hp} {d e : D} {v u : V} (h : Rep K H d v) (h' : Rep K H e u) (f : flD d = true) (f' : flD e = true) : eqV v u = PyData.eqv d.py e.py := by
  cases d with
  | non => 
    cases (show v = V.non from h)
    cases e with
    | non => cases (show u = V.non from h'); simp [eqV, D.py, PyData.eqv]
    | bl b => cases (show u = V.bl b from h'); simp [eqV, D.py, PyData.eqv]
    | int i => cases (show u = V.int i from h'); simp [eqV, D.py, PyData.eqv]
    | str x => cases (show u = V.str x from h'); simp [eqV, D.py, PyData.eqv]
    | _ => cases f'
  | bl b =>
    cases (show v = V.bl b from h)
    cases e with
    | non => cases (show u = V.non from h'); simp [eqV, D.py, PyData.eqv]
    | bl b => cases (show u = V.bl b from h'); simp [eqV, D.py, PyData.eqv]
    | int i => cases (show u = V.int i from h'); simp [eqV, D.py, PyData.eqv]
    | str x => cases (show u = V.str x from h'); simp [eqV, D.py, PyData.eqv]
    | _ => cases f'
  | int i =>
    cases (show v = V.int i from h)
    cases e with
    | non => cases (show u = V.non from h'); simp [eqV, D.py, PyData.eqv]
    | bl b => cases (show u = V.bl b from h'); simp [eqV, D.py, PyData.eqv]
    | int i => cases (show u = V.int i from h'); simp [eqV, D.py, PyData.eqv]
    | str x => cases (show u = V.str x from h'); simp [eqV, D.py, PyData.eqv]
    | _ => cases f'
  | str x =>
    cases (show v = V.str x from h)
    cases e with
    | non => cases (show u = V.non from h'); simp [eqV, D.py, PyData.eqv]
    | bl b => cases (show u = V.bl b from h'); simp [eqV, D.py, PyData.eqv]
    | int i => cases (show u = V.int i from h'); simp [eqV, D.py, PyData.eqv]
    | str x => cases (show u = V.str x from h'); simp [eqV, D.py, PyData.eqv]
    | _ => cases f'
  | _ => cases f
def inD (d : D) (ds : List D) : Bool := ds.any fun z => PyData.eqv z.py d.py
theorem inV_py {K : PySem.W.Frag} {H : Hp} {d : D} {v : V} (h : Rep K H d v) (f : flD d = true) : ∀ {ds : List D} {vs : List V}, Reps K H ds vs → ds.all flD = true → inV v vs = inD d ds
  | [], _, q, _ => by cases (show _ = [] from q); rfl
  | e :: ds, _, ⟨u, r, z, h1, h2⟩, f2 => by
    subst z
    rw [List.all_cons, Bool.and_eq_true] at f2
    show (eqV u v || inV v r) = (PyData.eqv e.py d.py || inD d ds)
    rw [eqV_py h1 h f2.1 f, inV_py h f h2 f2.2]
theorem inD_pys (d : D) : ∀ ds : List D, ((D.pys ds).any fun z => PyData.eqv z d.py) = inD d ds
  | [] => rfl
  | e :: ds => by
    show (PyData.eqv e.py d.py || _) = (PyData.eqv e.py d.py || inD d ds)
    rw [inD_pys d ds]
def fInT (neg : Bool) : Tm → Tm → Rho → Option Tm := fun x y ρ => match x.dat ρ, y.tels ρ with
  | some d, some ds => when (flD d = true ∧ ds.all flD = true) (some (.v (.bl (if neg = true then !inD d ds else inD d ds))))
  | _, _ => none
theorem om_inT {K : PySem.W.Frag} {neg : Bool} : OpM K (rIn K neg) (fInT neg) := fun E B H σ ρ α τ x y tx ty ax ay Q t e q k => by
  unfold fInT at q
  split at q
  · rename_i d ds hd hds
    obtain ⟨⟨h1, h2⟩, q⟩ := when_some q
    cases q
    obtain ⟨p, vs, h3, h4, h5⟩ := e.seqT m2a hds
    have r := e.dat m2b hd
    exact ⟨p, vs, h3, .inr h4, flD_v r h1, flDs_v h5 h2, by rw [inV_py r h1 h5 h2]; exact k _ [] B H α (e.push rfl)⟩
  · cases q
def fInL (neg : Bool) : Tm → Tm → Rho → Option Tm := fun x y ρ => match x.dat ρ, y.elsF ρ with
  | some d, some ds => when (d.dep ≤ 60 ∧ D.deps ds ≤ 59) (some (.v (.bl (if neg = true then !inD d ds else inD d ds))))
  | _, _ => none
theorem om_inL {K : PySem.W.Frag} : OpM K (rInD K) (fInL false) := fun E B H σ ρ α τ x y tx ty ax ay Q t e q k => by
  unfold fInL at q
  split at q
  · rename_i d ds hd hds
    obtain ⟨⟨h1, h2⟩, q⟩ := when_some q
    cases q
    obtain ⟨p, vs, h3, h4, h5⟩ := e.seqL m2a hds
    subst h3
    exact ⟨d.py, D.pys ds, (e.dat m2b hd).dp h1, .lst h4 (h5.dp (by omega)), D.shaped h1, D.shapeds h2, by rw [inD_pys]; exact k _ [] B H α (e.push rfl)⟩
  · cases q
theorem om_notInL {K : PySem.W.Frag} : OpM K (rNotInD K) (fInL true) := fun E B H σ ρ α τ x y tx ty ax ay Q t e q k => by
  unfold fInL at q
  split at q
  · rename_i d ds hd hds
    obtain ⟨⟨h1, h2⟩, q⟩ := when_some q
    cases q
    obtain ⟨p, vs, h3, h4, h5⟩ := e.seqL m2a hds
    subst h3
    exact ⟨d.py, D.pys ds, (e.dat m2b hd).dp h1, .lst h4 (h5.dp (by omega)), D.shaped h1, D.shapeds h2, by rw [inD_pys]; exact k _ [] B H α (e.push rfl)⟩
  · cases q
def fIn (neg : Bool) : Tm → Tm → Rho → Option Tm := orF (fInT neg) (fInL neg)
/-! is None, is True -/
def isNon : D → Bool
  | .non => true
  | _ => false
theorem isNon_v {K : PySem.W.Frag} {H : Hp} {d : D} {v : V} (h : Rep K H d v) : decide (v = .non) = isNon d := by
  cases d with
  | non => cases (show v = V.non from h); rfl
  | bl b => cases (show v = V.bl b from h); rfl
  | int i => cases (show v = V.int i from h); rfl
  | str x => cases (show v = V.str x from h); rfl
  | tup xs => obtain ⟨a, vs, e, _⟩ := h; subst e; rfl
  | lst xs => obtain ⟨a, vs, e, _⟩ := h; subst e; rfl
  | fls xs => obtain ⟨a, vs, e, _⟩ := h; subst e; rfl
  | exc a => cases (show v = V.ref a from h); rfl
def fIsN (neg : Bool) : Tm → Tm → Rho → Option Tm := fun x y ρ => match x.dat ρ, y with
  | some d, .rv (.val .non) => some (.v (.bl (if neg = true then !isNon d else isNon d)))
  | _, _ => none
theorem om_isN {K : PySem.W.Frag} : OpM K (fun x y H Q => y = .non ∧ Q (.bl (decide (x = .non))) H) (fIsN false) := fun E B H σ ρ α τ x y tx ty ax ay Q t e q k => by
  unfold fIsN at q
  split at q
  · rename_i d hd
    cases q
    have h1 : y = .non := e.topV m2a
    exact ⟨h1, by rw [isNon_v (e.dat m2b hd)]; exact k _ [] B H α (e.push rfl)⟩
  · cases q
theorem om_notN {K : PySem.W.Frag} : OpM K (fun x y H Q => y = .non ∧ Q (.bl (!decide (x = .non))) H) (fIsN true) := fun E B H σ ρ α τ x y tx ty ax ay Q t e q k => by
  unfold fIsN at q
  split at q
  · rename_i d hd
    cases q
    have h1 : y = .non := e.topV m2a
    exact ⟨h1, by rw [isNon_v (e.dat m2b hd)]; exact k _ [] B H α (e.push rfl)⟩
  · cases q
def fIsB (neg : Bool) : Tm → Tm → Rho → Option Tm := fun x y _ => match x, y with
  | .rv (.val (.bl a)), .rv (.val (.bl b)) => some (.v (.bl (if neg = true then !(a == b) else a == b)))
  | _, _ => none
theorem om_isB {K : PySem.W.Frag} : OpM K rIsB (fIsB false) := fun E B H σ ρ α τ x y tx ty ax ay Q t e q k => by
  unfold fIsB at q
  split at q
  · rename_i a b
    cases q
    have h1 : x = .bl a := e.topV m2b
    have h2 : y = .bl b := e.topV m2a
    exact ⟨a, b, h1, h2, k _ [] B H α (e.push (show V.bl _ = V.bl _ from by cases a <;> cases b <;> rfl))⟩
  · cases q
theorem om_notB {K : PySem.W.Frag} : OpM K rNotB (fIsB true) := fun E B H σ ρ α τ x y tx ty ax ay Q t e q k => by
  unfold fIsB at q
  split at q
  · rename_i a b
    cases q
    have h1 : x = .bl a := e.topV m2b
    have h2 : y = .bl b := e.topV m2a
    exact ⟨a, b, h1, h2, k _ [] B H α (e.push (show V.bl _ = V.bl _ from by cases a <;> cases b <;> rfl))⟩
  · cases q
/-- a comparison: what it makes of data -/
def CmpD (X : Cx) (op : CmpOp) (f : Tm → Tm → Rho → Option Tm) : Prop := ∃ r, OpR X (compareOp op) r ∧ OpM X.K r f
section
variable {X : Cx} {W : WX} {cv : Cv} {pos : Pos} {a b c : Expr} {ma mb mc : M Tm} {f g : Tm → Tm → Rho → Option Tm} {op op' : CmpOp} {k : Nat}
theorem k_eq (h : Room k X.A) : CmpD X .Eq (fEqN false) := ⟨_, op_eqD h.units, om_eq⟩
theorem k_ne (h : Room k X.A) : CmpD X .NotEq (fEqN true) := ⟨_, op_neD h.units, om_ne⟩
theorem k_lt : CmpD X .Lt fLt := ⟨_, op_lt, om_Ib0⟩
theorem k_le : CmpD X .LtE fLe := ⟨_, op_le, om_Ib0⟩
theorem k_gt : CmpD X .Gt fGt := ⟨_, op_gt, om_Ib0⟩
theorem k_ge : CmpD X .GtE fGe := ⟨_, op_ge, om_Ib0⟩
theorem k_in (h : Room k X.A) : CmpD X .In (fIn false) := ⟨_, op_in_seq.or (op_inD (by have := h.un; omega)), OpM.orF om_inT om_inL⟩
theorem k_notIn (h : Room k X.A) : CmpD X .NotIn (fIn true) := ⟨_, op_notIn_seq.or (op_notInD (by have := h.un; omega)), OpM.orF om_inT om_notInL⟩
theorem k_isN : CmpD X .Is (fIsN false) := ⟨_, op_isN, om_isN⟩
theorem k_notN : CmpD X .IsNot (fIsN true) := ⟨_, op_notN, om_notN⟩
theorem k_isB : CmpD X .Is (fIsB false) := ⟨_, op_isBl, om_isB⟩
theorem k_notB : CmpD X .IsNot (fIsB true) := ⟨_, op_notBl, om_notB⟩
theorem e_c (h : CmpD X op f) (ha : DE X W cv a ma) (hb : DE X W cv b mb) (hm : behindInMarks op b = false := by with_unfolding_all rfl) : DE X W cv (.Compare a [op] [b] pos) (mOp f ma mb) := let ⟨_, h1, h2⟩ := h; e_cmp h1 h2 ha hb hm
theorem t_c (h : CmpD X op f) (ha : DE X W cv a ma) (hb : DE X W cv b mb) (hm : behindInMarks op b = false := by with_unfolding_all rfl) : DT X W cv (.Compare a [op] [b] pos) (mTru fBl (mOp f ma mb)) := let ⟨_, h1, h2⟩ := h; t_cmp h1 h2 ha hb hm
theorem e_cc (h : CmpD X op f) (h' : CmpD X op' g) (ha : DE X W cv a ma) (hb : DE X W cv b mb) (hc : DE X W cv c mc) (hm : lastMarks [op, op'] [b, c] = false := by with_unfolding_all rfl) : DE X W cv (.Compare a [op, op'] [b, c] pos) (mChain f g ma mb mc) := let ⟨_, h1, h2⟩ := h; let ⟨_, h3, h4⟩ := h'; e_chain h1 h3 h2 h4 ha hb hc hm
theorem t_cc (h : CmpD X op f) (h' : CmpD X op' g) (ha : DE X W cv a ma) (hb : DE X W cv b mb) (hc : DE X W cv c mc) (hm : lastMarks [op, op'] [b, c] = false := by with_unfolding_all rfl) : DT X W cv (.Compare a [op, op'] [b, c] pos) (mTru fBl (mChain f g ma mb mc)) := let ⟨_, h1, h2⟩ := h; let ⟨_, h3, h4⟩ := h'; t_chain h1 h3 h2 h4 ha hb hc hm
end
/-! ### xs[i], xs[lo:hi] -/
def fIxL : Tm → Tm → Rho → Option Tm := fun x y ρ => match x.elsF ρ, y with
  | some ds, .rv (.val (.int i)) => (atI ds i).map fun d => .v d
  | _, _ => none
/-- a tree's child as plain data where the list itself is not flat -/
def fIxT : Tm → Tm → Rho → Option Tm := fun x y ρ => match x.tels ρ, y with
  | some ds, .rv (.val (.int i)) => (atI ds i).map fun d => .v d
  | _, _ => none
theorem Reps.atI {K : PySem.W.Frag} {B : Hp} {ds : List D} {vs : List V} {i : Int} {d : D} (h : Reps K B ds vs) (q : L2.atI ds i = some d) : ∃ v, L2.atI vs i = some v ∧ Rep K B d v := by
  unfold L2.atI at q ⊢
  rw [← h.length]
  obtain ⟨j, h1, h2⟩ := Option.bind_eq_some_iff.mp q
  rw [h1]
  exact h.get h2
theorem om_ixL {K : PySem.W.Frag} : OpM K (rIxL K) fIxL := fun E B H σ ρ α τ x y tx ty ax ay Q t e q k => by
  unfold fIxL at q
  split at q
  · rename_i ds i hd
    obtain ⟨d, h1, h2⟩ := Option.map_eq_some_iff.mp q
    cases h2
    obtain ⟨p, vs, h3, h4, h5⟩ := e.elsF m2b hd
    obtain ⟨v, h6, h7⟩ := h5.atI h1
    have h8 : y = .int i := e.topV m2a
    exact ⟨p, vs, i, v, h3, h8, h4, h6, k _ [] B H α (e.push h7)⟩
  · cases q
theorem om_ixT {K : PySem.W.Frag} : OpM K (rIxT K) fIxT := fun E B H σ ρ α τ x y tx ty ax ay Q t e q k => by
  unfold fIxT at q
  split at q
  · rename_i ds i hd
    obtain ⟨d, h1, h2⟩ := Option.map_eq_some_iff.mp q
    cases h2
    obtain ⟨p, vs, h3, h4, h5⟩ := e.tels m2b hd
    obtain ⟨v, h6, h7⟩ := h5.atI h1
    have h8 : y = .int i := e.topV m2a
    exact ⟨p, vs, i, v, h3, h8, h4, h6, k _ [] B H α (e.push h7)⟩
  · cases q
def fIx : Tm → Tm → Rho → Option Tm := orF fIxL fIxT
theorem e_at {X : Cx} {W : WX} {cv : Cv} {pos : Pos} {a b : Expr} {ma mb : M Tm} (ha : DE X W cv a ma) (hb : DE X W cv b mb) (hs : PlainIx b := by exact fun _ _ => rfl) : DE X W cv (.Subscript a b pos) (mOp fIx ma mb) := e_ix (ix_list.or ix_tup) (OpM.orF om_ixL om_ixT) ha hb hs
/-! slices -/
def cutD (xs : List D) (lo hi : Option Int) : List D := (xs.drop (HT.sIx xs.length 0 lo)).take (HT.sIx xs.length xs.length hi - HT.sIx xs.length 0 lo)
theorem Reps.cut {K : PySem.W.Frag} {B : Hp} {ds : List D} {vs : List V} (h : Reps K B ds vs) (lo hi : Option Int) : Reps K B (cutD ds lo hi) (cutV vs lo hi) := by
  unfold cutD cutV
  rw [← h.length]
  exact (h.drop _).take _
def PaM (K : PySem.W.Frag) (W : WX) (cv : Cv) (t : TO) (m : M (Option Int)) : Prop := ∀ (E : Ent cv.tb) (B H : Hp) (σ : L2.St) (ρ : Rho) (α : Nat → List Addr) (τ : Tau) (Q : Option Int → Hp → Prop), EnvR K E B H σ ρ α τ →
  Post (m ρ) (fun o ρ' => ∀ B' H' α', EnvR K E B' H' σ ρ' α' τ → Q o H') (GE K W cv E σ τ) → t σ H Q
def DP (X : Cx) (W : WX) (cv : Cv) (e : Option Expr) (m : M (Option Int)) : Prop := ∃ t, PO X e t ∧ PaM X.K W cv t m
def fInt (t : Tm) (_ : Rho) : Option (Option Int) := match t with
  | .rv (.val (.int i)) => some (some i)
  | _ => none
def mPart (m : M Tm) : M (Option Int) := m.bind fun t => lift (fInt t)
theorem p_none {X : Cx} {W : WX} {cv : Cv} : DP X W cv none (M.pure none) := ⟨_, po_none, fun E B H σ ρ α τ Q e q => q B H α e⟩
theorem p_some {X : Cx} {W : WX} {cv : Cv} {e : Expr} {m : M Tm} (h : DE X W cv e m) : DP X W cv (some e) (mPart m) := by
  obtain ⟨t, h1, h2⟩ := h
  refine ⟨_, po_some h1, fun E B H σ ρ α τ Q e q => ?_⟩
  refine h2 E B H σ ρ α τ _ e ?_
  refine Post.imp (Post.bind q) (fun x ρ1 z v as B1 H1 α1 e1 => ?_) fun c ρ' z => z
  obtain ⟨o, k1, k2⟩ := Post.lift z
  unfold fInt at k1
  split at k1
  · rename_i i
    cases k1
    have z : v = .int i := e1.topV m1
    exact ⟨i, z, k2 B1 H1 α1 e1.pop⟩
  · cases k1
def fSlL (x : Tm) (lo hi : Option Int) (ρ : Rho) : Option Tm := (x.elsF ρ).map fun ds => .o (cutD ds lo hi)
def fSlT (x : Tm) (lo hi : Option Int) (_ : Rho) : Option Tm := match x with
  | .rv (.val (.tup ds)) => some (.v (.tup (cutD ds lo hi)))
  | _ => none
def fSl (x : Tm) (lo hi : Option Int) (ρ : Rho) : Option Tm := match fSlL x lo hi ρ with
  | some t => some t
  | none => fSlT x lo hi ρ
def mSl (m : M Tm) (l h : M (Option Int)) : M Tm := m.bind fun x => l.bind fun lo => h.bind fun hi => lift (fSl x lo hi)
theorem cut_whole {ds : List D} {lo hi : Option Int} (h : HT.sIx ds.length 0 lo = 0 ∧ HT.sIx ds.length ds.length hi = ds.length) : cutD ds lo hi = ds := by
  unfold cutD
  rw [h.1, h.2, List.drop_zero, Nat.sub_zero, List.take_length]
theorem fSlT_some {x : Tm} {lo hi : Option Int} {ρ : Rho} {t : Tm} (h : fSlT x lo hi ρ = some t) : ∃ ds, x = .v (.tup ds) ∧ t = .v (.tup (cutD ds lo hi)) := by
  unfold fSlT at h
  split at h
  · rename_i ds
    cases h
    exact ⟨ds, rfl, rfl⟩
  · cases h
theorem e_slice {X : Cx} {W : WX} {cv : Cv} {pos p2 : Pos} {a : Expr} {lo hi : Option Expr} {ma : M Tm} {l h : M (Option Int)} (ha : DE X W cv a ma) (hl : DP X W cv lo l) (hh : DP X W cv hi h) : DE X W cv (.Subscript a (.Slice lo hi none p2) pos) (mSl ma l h) := by
  obtain ⟨t, h1, h2⟩ := ha
  obtain ⟨tl, h3, h4⟩ := hl
  obtain ⟨th, h5, h6⟩ := hh
  refine ⟨_, pe_slice (sl_list.or sl_tupA) h1 h3 h5, fun E B H σ ρ α τ Q e q => ?_⟩
  refine h2 E B H σ ρ α τ _ e ?_
  refine Post.imp (Post.bind q) (fun x ρ1 z v as B1 H1 α1 e1 => ?_) fun c ρ' z => z
  refine h4 E B1 H1 σ ρ1 α1 _ _ e1 ?_
  refine Post.imp (Post.bind z) (fun lo ρ2 z B2 H2 α2 e2 => ?_) fun c ρ' z => GE.pop z
  refine h6 E B2 H2 σ ρ2 α2 _ _ e2 ?_
  refine Post.imp (Post.bind z) (fun hi ρ3 z B3 H3 α3 e3 => ?_) fun c ρ' z => GE.pop z
  obtain ⟨o, k1, k2⟩ := Post.lift z
  unfold fSl at k1
  cases hL : fSlL x lo hi ρ3 with
  | some u =>
    rw [hL] at k1
    cases k1
    unfold fSlL at hL
    obtain ⟨ds, h7, h8⟩ := Option.map_eq_some_iff.mp hL
    cases h8
    obtain ⟨p, vs, h9, h10, h11⟩ := e3.elsF m1 h7
    exact .inl ⟨p, vs, h9, h10, fun p hp => k2 _ [p] _ _ α3 (e3.pop.newOwn hp (h11.cut lo hi))⟩
  | none =>
    rw [hL] at k1
    obtain ⟨ds, z1, z2⟩ := fSlT_some k1
    subst z1 z2
    have r : Rep X.K B3 (.tup ds) v := e3.topV m1
    obtain ⟨p, vs, h9, h10, h11⟩ := id r
    have hl := h11.length
    refine .inr ⟨p, vs, h9, sqT_same e3.bh h10, fun hw => ?_, fun hw p hp => k2 _ [] _ _ α3 (e3.pop.newTup hp (h11.cut lo hi))⟩
    refine k2 _ [] B3 H3 α3 (e3.pop.push ?_)
    rw [cut_whole (by rw [hl]; exact hw), ← h9]
    exact r
/-! ### built-in functions -/
def fLen (ts : List Tm) (ρ : Rho) : Option Tm := match ts with
  | [t] => match t.elsF ρ with
    | some ds => some (.v (.int ds.length))
    | none => (t.tels ρ).map fun ds => .v (.int ds.length)
  | _ => none
theorem cl_len {K : PySem.W.Frag} : ClM K (fun xs H Q => ∃ p ys, xs = [.ref p] ∧ (SqL K H p ys ∨ SqT K H p ys) ∧ Q (.int ys.length) H) fLen := fun E B H σ ρ α τ ts Q t e q k => by
  unfold fLen at q
  split at q
  · rename_i t1 he
    obtain ⟨v, as, z⟩ := tau1 he
    subst z
    cases hL : t1.elsF ρ with
    | some ds =>
      rw [hL] at q
      cases q
      obtain ⟨p, vs, h3, h4, h5⟩ := e.elsF m1 hL
      subst h3
      exact ⟨p, vs, rfl, .inl h4, by rw [← h5.length]; exact k _ [] B H α (e.pop.push rfl)⟩
    | none =>
      rw [hL] at q
      obtain ⟨ds, h7, h8⟩ := Option.map_eq_some_iff.mp q
      cases h8
      obtain ⟨p, vs, h3, h4, h5⟩ := e.tels m1 h7
      subst h3
      exact ⟨p, vs, rfl, .inr h4, by rw [← h5.length]; exact k _ [] B H α (e.pop.push rfl)⟩
  · cases q
def fListOf (ts : List Tm) (ρ : Rho) : Option Tm := match ts with
  | [t] => match t.elsF ρ with
    | some ds => some (.o ds)
    | none => (t.tels ρ).map fun ds => .o ds
  | _ => none
theorem cl_listOf {K : PySem.W.Frag} : ClM K (fun xs H Q => ∃ p ys, xs = [.ref p] ∧ (SqL K H p ys ∨ SqT K H p ys) ∧ ∀ l, H l = none → Q (.ref l) (L2.upd H l (.lst ys))) fListOf := fun E B H σ ρ α τ ts Q t e q k => by
  unfold fListOf at q
  split at q
  · rename_i t1 he
    obtain ⟨v, as, z⟩ := tau1 he
    subst z
    cases hL : t1.elsF ρ with
    | some ds =>
      rw [hL] at q
      cases q
      obtain ⟨p, vs, h3, h4, h5⟩ := e.elsF m1 hL
      subst h3
      exact ⟨p, vs, rfl, .inl h4, fun l hl => k _ [l] _ _ α (e.pop.newOwn hl h5)⟩
    | none =>
      rw [hL] at q
      obtain ⟨ds, h7, h8⟩ := Option.map_eq_some_iff.mp q
      cases h8
      obtain ⟨p, vs, h3, h4, h5⟩ := e.tels m1 h7
      subst h3
      exact ⟨p, vs, rfl, .inr h4, fun l hl => k _ [l] _ _ α (e.pop.newOwn hl h5)⟩
  · cases q
def fTupOf (ts : List Tm) (ρ : Rho) : Option Tm := match ts with
  | [.rv (.val (.tup ds))] => some (.v (.tup ds))
  | [t] => (t.elsF ρ).map fun ds => .v (.tup ds)
  | _ => none
theorem cl_tupOf {K : PySem.W.Frag} : ClM K (fun xs H Q => ∃ p ys, xs = [.ref p] ∧ ((SqL K H p ys ∧ ∀ l, H l = none → Q (.ref l) (L2.upd H l (.tup ys))) ∨ (SqT K H p ys ∧ Q (.ref p) H))) fTupOf := fun E B H σ ρ α τ ts Q t e q k => by
  unfold fTupOf at q
  split at q
  · rename_i ds he
    obtain ⟨v, as, z⟩ := tau1 he
    subst z
    cases q
    have r : Rep K B (.tup ds) v := e.topV m1
    obtain ⟨p, vs, h3, h4, h5⟩ := id r
    subst h3
    exact ⟨p, vs, rfl, .inr ⟨sqT_same e.bh h4, k _ [] B H α (e.pop.push r)⟩⟩
  · rename_i t1 _ he
    obtain ⟨v, as, z⟩ := tau1 he
    subst z
    obtain ⟨ds, h7, h8⟩ := Option.map_eq_some_iff.mp q
    cases h8
    obtain ⟨p, vs, h3, h4, h5⟩ := e.elsF m1 h7
    subst h3
    exact ⟨p, vs, rfl, .inl ⟨h4, fun l hl => k _ [] _ _ α (e.pop.newTup hl h5)⟩⟩
  · cases q
def fAbs (ts : List Tm) (_ : Rho) : Option Tm := match ts with
  | [.rv (.val (.int i))] => some (.v (.int (if i < 0 then -i else i)))
  | _ => none
theorem cl_abs {K : PySem.W.Frag} : ClM K (fun xs H Q => ∃ i, xs = [.int i] ∧ Q (.int (if i < 0 then -i else i)) H) fAbs := fun E B H σ ρ α τ ts Q t e q k => by
  unfold fAbs at q
  split at q
  · rename_i i he
    obtain ⟨v, as, z⟩ := tau1 he
    subst z
    cases q
    have h1 : v = .int i := e.topV m1
    subst h1
    exact ⟨i, rfl, k _ [] B H α (e.pop.push rfl)⟩
  · cases q
def fIntOf (ts : List Tm) (_ : Rho) : Option Tm := match ts with
  | [.rv (.val (.int i))] => some (.v (.int i))
  | [.rv (.val (.bl b))] => some (.v (.int (if b = true then 1 else 0)))
  | _ => none
theorem cl_intOf {K : PySem.W.Frag} : ClM K (fun xs H Q => (∃ i, xs = [.int i] ∧ Q (.int i) H) ∨ ∃ k, xs = [.bl k] ∧ Q (.int (if k then 1 else 0)) H) fIntOf := fun E B H σ ρ α τ ts Q t e q k => by
  unfold fIntOf at q
  split at q
  · rename_i i he
    obtain ⟨v, as, z⟩ := tau1 he
    subst z
    cases q
    have h1 : v = .int i := e.topV m1
    subst h1
    exact .inl ⟨i, rfl, k _ [] B H α (e.pop.push rfl)⟩
  · rename_i b he
    obtain ⟨v, as, z⟩ := tau1 he
    subst z
    cases q
    have h1 : v = .bl b := e.topV m1
    subst h1
    exact .inr ⟨b, rfl, k _ [] B H α (e.pop.push rfl)⟩
  · cases q
def ints? : List D → Option (List Int)
  | [] => some []
  | .int i :: r => (ints? r).map (i :: ·)
  | _ :: _ => none
def strs? : List D → Option (List Str)
  | [] => some []
  | .str i :: r => (strs? r).map (i :: ·)
  | _ :: _ => none
theorem reps_ints {K : PySem.W.Frag} {B : Hp} : ∀ {ds : List D} {vs : List V} {ns : List Int}, Reps K B ds vs → ints? ds = some ns → vs = ns.map V.int
  | [], _, _, h, q => by cases q; exact h
  | d :: ds, _, ns, ⟨v, r, e, h, t⟩, q => by
    cases d with
    | int i =>
      obtain ⟨ms, h1, h2⟩ := Option.map_eq_some_iff.mp (show (ints? ds).map (i :: ·) = some ns from q)
      subst h2 e
      cases (show v = V.int i from h)
      rw [List.map_cons, reps_ints t h1]
    | _ => cases q
theorem reps_strs {K : PySem.W.Frag} {B : Hp} : ∀ {ds : List D} {vs : List V} {ns : List Str}, Reps K B ds vs → strs? ds = some ns → vs = ns.map V.str
  | [], _, _, h, q => by cases q; exact h
  | d :: ds, _, ns, ⟨v, r, e, h, t⟩, q => by
    cases d with
    | str i =>
      obtain ⟨ms, h1, h2⟩ := Option.map_eq_some_iff.mp (show (strs? ds).map (i :: ·) = some ns from q)
      subst h2 e
      cases (show v = V.str i from h)
      rw [List.map_cons, reps_strs t h1]
    | _ => cases q
theorem ints_reps {K : PySem.W.Frag} {B : Hp} : ∀ ns : List Int, Reps K B (ns.map D.int) (ns.map V.int)
  | [] => Reps.nil
  | n :: ns => Reps.cons rfl (ints_reps ns)
theorem strs_reps {K : PySem.W.Frag} {B : Hp} : ∀ ns : List Str, Reps K B (ns.map D.str) (ns.map V.str)
  | [] => Reps.nil
  | n :: ns => Reps.cons rfl (strs_reps ns)
def fSum (ts : List Tm) (ρ : Rho) : Option Tm := match ts with
  | [t] => (t.elsF ρ).bind fun ds => (ints? ds).map fun ns => .v (.int ns.sum)
  | _ => none
theorem cl_sum {K : PySem.W.Frag} : ClM K (rSum K) fSum := fun E B H σ ρ α τ ts Q t e q k => by
  unfold fSum at q
  split at q
  · rename_i t1 he
    obtain ⟨v, as, z⟩ := tau1 he
    subst z
    obtain ⟨ds, h1, h2⟩ := Option.bind_eq_some_iff.mp q
    obtain ⟨ns, h3, h4⟩ := Option.map_eq_some_iff.mp h2
    cases h4
    obtain ⟨p, vs, h5, h6, h7⟩ := e.elsF m1 h1
    subst h5
    have h8 := reps_ints h7 h3
    subst h8
    exact ⟨p, ns, rfl, h6, k _ [] B H α (e.pop.push rfl)⟩
  · cases q
def fGcd (ts : List Tm) (_ : Rho) : Option Tm := match ts with
  | [.rv (.val (.int a)), .rv (.val (.int b))] => some (.v (.int ((Nat.gcd a.natAbs b.natAbs : Nat) : Int)))
  | _ => none
theorem cl_gcd {K : PySem.W.Frag} : ClM K rGcd fGcd := fun E B H σ ρ α τ ts Q t e q k => by
  unfold fGcd at q
  split at q
  · rename_i a b he
    obtain ⟨v, as, w, bs, z⟩ := tau2 he
    subst z
    cases q
    have h1 : v = .int a := e.topV m1
    have h2 : w = .int b := e.topV (List.mem_cons_of_mem _ m1)
    subst h1 h2
    exact ⟨a, b, rfl, k _ [] B H α (e.pop.pop.push rfl)⟩
  · cases q
def fMax2 (ts : List Tm) (_ : Rho) : Option Tm := match ts with
  | [.rv (.val (.int i)), .rv (.val (.int j))] => some (.v (.int (if j > i then j else i)))
  | _ => none
def fMin2 (ts : List Tm) (_ : Rho) : Option Tm := match ts with
  | [.rv (.val (.int i)), .rv (.val (.int j))] => some (.v (.int (if j < i then j else i)))
  | _ => none
theorem cl_max2 {K : PySem.W.Frag} : ClM K (fun xs H Q => ∃ i j, xs = [.int i, .int j] ∧ Q (.int (if j > i then j else i)) H) fMax2 := fun E B H σ ρ α τ ts Q t e q k => by
  unfold fMax2 at q
  split at q
  · rename_i a b he
    obtain ⟨v, as, w, bs, z⟩ := tau2 he
    subst z
    cases q
    have h1 : v = .int a := e.topV m1
    have h2 : w = .int b := e.topV (List.mem_cons_of_mem _ m1)
    subst h1 h2
    exact ⟨a, b, rfl, k _ [] B H α (e.pop.pop.push rfl)⟩
  · cases q
theorem cl_min2 {K : PySem.W.Frag} : ClM K (fun xs H Q => ∃ i j, xs = [.int i, .int j] ∧ Q (.int (if j < i then j else i)) H) fMin2 := fun E B H σ ρ α τ ts Q t e q k => by
  unfold fMin2 at q
  split at q
  · rename_i a b he
    obtain ⟨v, as, w, bs, z⟩ := tau2 he
    subst z
    cases q
    have h1 : v = .int a := e.topV m1
    have h2 : w = .int b := e.topV (List.mem_cons_of_mem _ m1)
    subst h1 h2
    exact ⟨a, b, rfl, k _ [] B H α (e.pop.pop.push rfl)⟩
  · cases q
end Pd
set_option Elab.async false
set_option linter.all false
set_option maxRecDepth 100000
set_option maxHeartbeats 2000000
/-! Pd9: zip and enumerate of lists and tuples in any mix. -/
namespace Pd
open PySem PySem.Spec PyProof.Rows L2

/-! ### a sequence of either kind: true a tuple, false a list -/
def sqK (K : PySem.W.Frag) (H : Hp) (t : Bool) (a : Addr) (xs : List V) : Prop := if t = true then SqT K H a xs else SqL K H a xs
def itK (h : Heap) (t : Bool) (it l : Addr) (i : Nat) : Prop := if t = true then h.IsTupleIter it l i else h.IsListIter it l i
def hpK (h : Heap) (t : Bool) (l : Addr) (xs : Array Value) : Prop := if t = true then h.IsTuple l xs else h.IsList l xs
def obK (t : Bool) (l : Addr) : Obj := if t = true then { cls := .type "tuple_iterator", data := .fields #[.ref l, .int 0 0] } else { cls := .type "list_iterator", data := .fields #[.ref l, .int 0 0] }
theorem beginsK (t : Bool) (l : Addr) (items : Array Value) : Begins (.ref l) (obK t l) fun h => hpK h t l items := by
  cases t
  · exact begins_list l items
  · exact begins_tuple l items
theorem drawsK {prog : Program} {w : World} {A : Around} (hh : A.handled = none) (t : Bool) (it l : Addr) (hne : l ≠ it) (items : Array Value) : Draws prog w A it [it, l] items.size (fun i v => items[i]? = some v) (fun i h => itK h t it l i ∧ hpK h t l items) := by
  cases t
  · exact Draws.list hh it l hne items
  · exact Draws.tuple hh it l hne items
theorem itK_new {h : Heap} {t : Bool} {it l : Addr} (e : h.get? it = some (obK t l)) : itK h t it l 0 := by
  cases t
  · exact ⟨_, e, rfl, rfl⟩
  · exact ⟨_, e, rfl, rfl⟩
theorem itK_at {h h' : Heap} {t : Bool} {it l : Addr} {i : Nat} (x : itK h t it l i) (k : ∀ o, h.get? it = some o → h'.get? it = some o) : itK h' t it l i := by
  cases t
  · exact Heap.IsListIter.at x k
  · exact Heap.IsTupleIter.at x k
theorem itK_obj {h : Heap} {t : Bool} {it l : Addr} {i : Nat} (x : itK h t it l i) : ∃ o, h.get? it = some o ∧ ∀ v, o.data ≠ .cell v := by
  cases t
  · obtain ⟨o, e, _, d⟩ := (show h.IsListIter it l i from x)
    exact ⟨o, e, fun v q => by rw [d] at q; cases q⟩
  · obtain ⟨o, e, _, d⟩ := (show h.IsTupleIter it l i from x)
    exact ⟨o, e, fun v q => by rw [d] at q; cases q⟩
theorem itK_lt {h : Heap} {t : Bool} {it l : Addr} {i : Nat} (x : itK h t it l i) : it < h.objs.size := by
  obtain ⟨o, e, _⟩ := itK_obj x
  exact Heap.lt_size e
section
variable {X : Cx} {pins : List (Addr × Obj)} {σ : L2.St} {H : Hp} {s : Shared} {t : Bool} {a : Addr} {xs ys : List V}
theorem invK (I : Inv X pins σ H s) (h : sqK X.K H t a xs) : ∃ its : List Value, Vals xs its ∧ hpK s.heap t a its.toArray ∧ a < s.heap.objs.size := by
  cases t
  · obtain ⟨its, rv, p, _⟩ := I.list h
    exact ⟨its, rv, p.isList, p.lt⟩
  · obtain ⟨its, rv, p, _⟩ := I.tuple h
    obtain ⟨o, ho, _⟩ := id p
    exact ⟨its, rv, p, Heap.lt_size ho⟩
theorem injK (I : Inv X pins σ H s) (h : sqK X.K H t a xs) (h' : sqK X.K H t a ys) : xs = ys := by
  cases t
  · exact I.list_inj h h'
  · exact I.tuple_inj h h'
end
theorem sqK_same {K : PySem.W.Frag} {B B' : Hp} (s : Same B B') {t : Bool} {a : Addr} {xs : List V} (h : sqK K B t a xs) : sqK K B' t a xs := by
  cases t
  · exact sqL_same s h
  · exact sqT_same s h

/-! ### zip -/
def Itz2 (K : PySem.W.Frag) (t u : Bool) (a b : Addr) : It :=
  ⟨fun i H => ∃ (xs ys : List V) (x y : V), sqK K H t a xs ∧ sqK K H u b ys ∧ xs[i]? = some x ∧ ys[i]? = some y,
    fun i H v H' => ∃ T x y, v = .ref T ∧ H T = none ∧ H' = upd H T (.tup [x, y]) ∧ (∀ xs, sqK K H t a xs → xs[i]? = some x) ∧ ∀ ys, sqK K H u b ys → ys[i]? = some y,
    fun i H => ∃ xs ys : List V, sqK K H t a xs ∧ sqK K H u b ys ∧ i = min xs.length ys.length⟩
theorem turn_zip2 {P : Program} {w : World} {K : PySem.W.Frag} {elts : List Expr} {kk : Nat} {tpos : Pos} {t u : Bool} {a b z TI TO i1 i2 : Addr} (S : ZipSep2 z TI TO i1 i2 [i1, a] [i2, b]) (ha : a ≠ i1) (hb : b ≠ i2) :
    Turn P w K (.Tuple elts kk tpos) (Itz2 K t u a b) [z, TI, TO, i1, i2] z (fun i h => IsZip h z TI TO .none ∧ IsTupOf2 h TI (.ref i1) (.ref i2) ∧ (∃ x y, IsTupOf2 h TO x y) ∧ itK h t i1 a i ∧ itK h u i2 b i) where
  mem := by simp
  obj := fun i h st c hc => by
    obtain ⟨hz, hTI, ⟨x, y, hTO⟩, h1, h2⟩ := st
    have e' : c = z ∨ c = TI ∨ c = TO ∨ c = i1 ∨ c = i2 := by simpa using hc
    rcases e' with q | q | q | q | q
    · rw [q]; exact ⟨_, hz, fun v q => nomatch q⟩
    · rw [q]; exact ⟨_, hTI, fun v q => nomatch q⟩
    · rw [q]; exact ⟨_, hTO, fun v q => nomatch q⟩
    · rw [q]; exact itK_obj h1
    · rw [q]; exact itK_obj h2
  keep := fun i h h' st k => by
    obtain ⟨hz, hTI, ⟨x, y, hTO⟩, h1, h2⟩ := st
    exact ⟨k z (by simp) _ hz, k TI (by simp) _ hTI, ⟨x, y, k TO (by simp) _ hTO⟩, itK_at h1 fun o q => k i1 (by simp) o q, itK_at h2 fun o q => k i2 (by simp) o q⟩
  item := by
    intro X hP hw hK hc i pins s σ H E I hf st hg
    subst hP hw hK
    obtain ⟨hz, hTI, ⟨x0, y0, hTO⟩, h1, h2⟩ := st
    obtain ⟨xs, ys, x, y, hqx, hqy, hx, hy⟩ := hg
    obtain ⟨its, rv, p, _⟩ := invK I hqx
    obtain ⟨its2, rv2, p2, _⟩ := invK I hqy
    obtain ⟨u1, hu, ru⟩ := rv.get hx
    obtain ⟨u2, hu2, ru2⟩ := rv2.get hy
    have hzl : z < s.heap.objs.size := Heap.lt_size hz
    have hh : X.A.in1.handled = none := I.ok.hd hc
    refine wpAny_pyNext_zipD2_item S (drawsK hh t i1 a ha its.toArray) (drawsK hh u i2 b hb its2.toArray) hz hTI hTO ⟨h1, p⟩ ⟨h2, p2⟩ (by have := (List.getElem?_eq_some_iff.mp hu).1; simpa using this) (by have := (List.getElem?_eq_some_iff.mp hu2).1; simpa using this)
      fun x1 x2 h' tk y1 y2 hz' TO' st1' st2' hT hsz hk => ?_
    have ex1 : x1 = u1 := by
      have q : its[i]? = some x1 := by simpa using y1
      rw [hu] at q
      exact (Option.some.inj q).symm
    have ex2 : x2 = u2 := by
      have q : its2[i]? = some x2 := by simpa using y2
      rw [hu2] at q
      exact (Option.some.inj q).symm
    subst ex1 ex2
    refine ⟨_, rfl, wpAny_letOwnedTupleGo_zip (s := { s with heap := h', toks := tk }) hz' fun h'' z'' sb => ?_⟩
    have hT2 : h''.get? s.heap.objs.size = some { cls := .type "tuple", data := .seq #[x1, x2] } := (sb.2 _ (Nat.ne_of_gt hzl)).trans hT
    have new : ObjOk X.prog X.w (upd H s.heap.objs.size (.tup [x, y])) h'' s.heap.objs.size (.tup [x, y]) :=
      ⟨by show 2 ≤ sizeLine; decide, [x1, x2], .cons ru (.cons ru2 .nil), ⟨_, hT2, rfl, _, rfl⟩⟩
    have I1 : Inv X pins σ (upd H s.heap.objs.size (.tup [x, y])) { s with heap := h'', toks := tk } :=
      I.turnedNew (t' := tk) (ch := [z, TI, TO, i1, i2]) (fun c o hb q => (sb.2 c (fun q' => hb (by simp [q']))).trans (hk c o (fun q' => hb (by simp [q'])) (fun q' => hb (by simp [q'])) (fun q' => hb (by simp [q'])) (fun q' => hb (by simp [q'])) q)) hf (Nat.le_refl _) new
    refine ⟨.ref s.heap.objs.size, _, I1, rfl, ⟨_, x, y, rfl, I.hok.fresh (Nat.le_refl _), rfl, fun l hl => by rw [injK I hl hqx]; exact hx, fun l hl => by rw [injK I hl hqy]; exact hy⟩, ⟨z'', ?_, ⟨x1, x2, ?_⟩, ?_, ?_⟩, fun c hcm => ?_⟩
    · exact (sb.2 _ S.TIz).trans (hk _ _ S.TIz S.TITO S.TIi1 S.TIi2 hTI)
    · exact (sb.2 _ S.TOz).trans TO'
    · exact itK_at st1'.1 fun o q => (sb.2 _ (Ne.symm S.zi1)).trans q
    · exact itK_at st2'.1 fun o q => (sb.2 _ (Ne.symm S.zi2)).trans q
    · have hlt : c < s.heap.objs.size := by
        have e' : c = z ∨ c = TI ∨ c = TO ∨ c = i1 ∨ c = i2 := by simpa using hcm
        rcases e' with q | q | q | q | q
        · rw [q]; exact hzl
        · rw [q]; exact Heap.lt_size hTI
        · rw [q]; exact Heap.lt_size hTO
        · rw [q]; exact itK_lt h1
        · rw [q]; exact itK_lt h2
      rw [upd_ne (Nat.ne_of_lt hlt)]
      exact (hf c hcm).1
  done := by
    intro X hP hw hK hc i pins s σ H E I hf st hg
    subst hP hw hK
    obtain ⟨hz, hTI, ⟨x0, y0, hTO⟩, h1, h2⟩ := st
    obtain ⟨xs, ys, hqx, hqy, hend⟩ := hg
    obtain ⟨its, rv, p, _⟩ := invK I hqx
    obtain ⟨its2, rv2, p2, _⟩ := invK I hqy
    have l1 := rv.length
    have l2 := rv2.length
    have hh : X.A.in1.handled = none := I.ok.hd hc
    have s1 : its.toArray.size = xs.length := by rw [List.size_toArray]; exact l1.symm
    have s2 : its2.toArray.size = ys.length := by rw [List.size_toArray]; exact l2.symm
    refine wpAny_pyNext_zipD2_end S (drawsK hh t i1 a ha its.toArray) (drawsK hh u i2 b hb its2.toArray) hz hTI hTO ⟨h1, p⟩ ⟨h2, p2⟩ (by rw [s1]; omega) (by rw [s2]; omega) (by rw [s1, s2]; omega)
      fun h' tk hk => ⟨rfl, I.turnedL (t' := tk) (ch := [z, TI, TO, i1, i2]) (fun c o hb q => hk c o (fun q' => hb (by simp [q'])) (fun q' => hb (by simp [q'])) (fun q' => hb (by simp [q'])) (fun q' => hb (by simp [q'])) q) hf⟩
  self := fun A i s Q E st h => wpAny_pyIter_zip st.1 h
def iZip2 (K : PySem.W.Frag) (ta : TA) : TI := fun σ H R => ta σ H fun vs H1 => ∃ t u a b xs ys, vs = [.ref a, .ref b] ∧ sqK K H1 t a xs ∧ sqK K H1 u b ys ∧ R (Itz2 K t u a b) H1
theorem pi_zip2 {X : Cx} {e e2 : Expr} {ta : TA} {p pos tpos : Pos} {elts : List Expr} {kk : Nat} (hg : Gl X "zip") (hm : X.mg "zip" = none) (ha : PA X [e, e2] ta)
    (hs : starEach [e, e2] X.env = (false, eval e X.env) :: starEach [e2] X.env := by rfl) (hpl : (backTo pos (starEach [e2] X.env)).any (·.1) = false := by rfl) :
    PI X (.Tuple elts kk tpos) (.Call (.Name "zip" p) [e, e2] [] pos) (iZip2 X.K ta) := by
  refine ⟨fun pins s σ H R I h => ?_⟩
  refine Call_ (ld_blt I hg hm PyProof.Rows.boot_zip (PyProof.Rows.callWith_type1 (thn (ha.run pos pins s σ H _ I h) fun us s1 ⟨vs, H1, I1, r1, q1⟩ => ?_) hs hpl))
  obtain ⟨t, u, a, b, xs, ys, ex, hqx, hqy, q⟩ := q1
  subst ex
  cases r1 with
  | cons r rr =>
    cases rr with
    | cons r' rr =>
      cases rr
      cases r
      cases r'
      obtain ⟨its, rv, p1, la⟩ := invK I1 hqx
      obtain ⟨its2, rv2, p2, lb⟩ := invK I1 hqy
      refine zip_begins2 (beginsK t a its.toArray) (beginsK u b its2.toArray) p1 p2 fun h' hz hTI hTO h1 h2 hsz hk => wpAny_pyIter_zip hz ?_
      have I2 : Inv X pins σ H1 { s1 with heap := h' } := I1.kept (t' := s1.toks) hk
      have fresh5 : ∀ c, c ∈ [s1.heap.objs.size + 4, s1.heap.objs.size + 2, s1.heap.objs.size + 3, s1.heap.objs.size, s1.heap.objs.size + 1] → FpOk X pins H1 c := fun c hcm => by
        have e' : c = s1.heap.objs.size + 4 ∨ c = s1.heap.objs.size + 2 ∨ c = s1.heap.objs.size + 3 ∨ c = s1.heap.objs.size ∨ c = s1.heap.objs.size + 1 := by simpa using hcm
        have hle : s1.heap.objs.size ≤ c := by
          rcases e' with z | z | z | z | z
          · rw [z]; exact Nat.le_add_right _ _
          · rw [z]; exact Nat.le_add_right _ _
          · rw [z]; exact Nat.le_add_right _ _
          · rw [z]; exact Nat.le_refl _
          · rw [z]; exact Nat.le_add_right _ _
        exact I1.fpOk hle (I1.hok.fresh hle)
      refine ⟨s1.heap.objs.size + 4, [s1.heap.objs.size + 4, s1.heap.objs.size + 2, s1.heap.objs.size + 3, s1.heap.objs.size, s1.heap.objs.size + 1], _, _, H1, rfl, I2, turn_zip2 (zip_sep2 (fp1 := [a]) (fp2 := [b]) (fun c hc => ?_) (fun c hc => ?_)) (Nat.ne_of_lt la) (fun e => ?_), ⟨hz, hTI, ⟨_, _, hTO⟩, itK_new h1, itK_new h2⟩, fresh5, q⟩
      · have e : c = a := by simpa using hc
        rw [e]; exact la
      · have e : c = b := by simpa using hc
        rw [e]; exact lb
      · exact Nat.lt_irrefl _ (Nat.lt_of_lt_of_le lb (by rw [e]; exact Nat.le_succ _))
/-! ### in data -/
def zipD : List D → List D → List D
  | x :: xs, y :: ys => .tup [x, y] :: zipD xs ys
  | _, _ => []
theorem zipD_length : ∀ xs ys : List D, (zipD xs ys).length = min xs.length ys.length
  | [], _ => by simp [zipD]
  | _ :: _, [] => by simp [zipD]
  | x :: xs, y :: ys => by
    show (zipD xs ys).length + 1 = _
    rw [zipD_length xs ys, List.length_cons, List.length_cons]
    omega
theorem zipD_get : ∀ (xs ys : List D) (i : Nat) (x y : D), xs[i]? = some x → ys[i]? = some y → (zipD xs ys)[i]? = some (.tup [x, y])
  | [], _, i, x, y, h, _ => by simp at h
  | _ :: _, [], i, x, y, _, h => by simp at h
  | a :: xs, b :: ys, 0, x, y, h, h' => by
    have e1 : a = x := by simpa using h
    have e2 : b = y := by simpa using h'
    subst e1 e2
    rfl
  | a :: xs, b :: ys, i + 1, x, y, h, h' => by
    show (zipD xs ys)[i]? = _
    exact zipD_get xs ys i x y (by simpa using h) (by simpa using h')
theorem walkD_zip {K : PySem.W.Frag} {B : Hp} {t u : Bool} {a b : Addr} {xs ys : List V} {ds es : List D} (h : sqK K B t a xs) (h' : sqK K B u b ys) (r : Reps K B ds xs) (r' : Reps K B es ys) : WalkD K B (Itz2 K t u a b) (zipD ds es) := by
  have hl : (zipD ds es).length = min xs.length ys.length := by rw [zipD_length, r.length, r'.length]
  refine ⟨fun i H v H' => ∃ T x y, v = .ref T ∧ H T = none ∧ H' = upd H T (.tup [x, y]) ∧ xs[i]? = some x ∧ ys[i]? = some y, ⟨fun i H hi s => ?_, fun H s => ?_, fun i H v H' hi s y => ?_⟩, fun i H v H' hi s y => ?_⟩
  · rw [hl] at hi
    have h1 : i < xs.length := by omega
    have h2 : i < ys.length := by omega
    exact ⟨xs, ys, xs[i], ys[i], sqK_same s h, sqK_same s h', by simp [h1], by simp [h2]⟩
  · exact ⟨xs, ys, sqK_same s h, sqK_same s h', hl⟩
  · obtain ⟨T, x, z, h1, h2, h3, h4, h5⟩ := y
    exact ⟨T, x, z, h1, h2, h3, h4 xs (sqK_same s h), h5 ys (sqK_same s h')⟩
  · obtain ⟨T, x, z, h1, h2, h3, h4, h5⟩ := y
    obtain ⟨d, k1, k2⟩ := r.getV h4
    obtain ⟨d', k3, k4⟩ := r'.getV h5
    exact ⟨_, zipD_get ds es i d d' k1 k3, .inr ⟨T, [x, z], [d, d'], h1, h2, h3, rfl, Reps.cons k2 (Reps.cons k4 Reps.nil)⟩⟩
/-- the items of a frozen list or tuple, and its kind -/
theorem rep_sq {K : PySem.W.Frag} {B : Hp} {d : D} {v : V} {ds : List D} (h : Rep K B d v) (q : seqD d = some ds) : ∃ t a vs, v = .ref a ∧ sqK K B t a vs ∧ Reps K B ds vs := by
  cases d with
  | lst xs => cases q; obtain ⟨a, vs, h1, h2, h3⟩ := h; exact ⟨false, a, vs, h1, SqL.of h2, h3⟩
  | fls xs => cases q; obtain ⟨a, vs, h1, h2, h3⟩ := h; exact ⟨false, a, vs, h1, h2, h3⟩
  | tup xs => cases q; obtain ⟨a, vs, h1, h2, h3⟩ := h; exact ⟨true, a, vs, h1, h2, h3⟩
  | _ => cases q
def fZip (ts : List Tm) (_ : Rho) : Option (List D) := match ts with
  | [.rv (.val d), .rv (.val e)] => (seqD d).bind fun ds => (seqD e).map fun es => zipD ds es
  | _ => none
def mZip (ms : M (List Tm)) : M (List D) := ms.bind fun ts => lift (fZip ts)
def enumD (i : Nat) : List D → List D
  | [] => []
  | d :: ds => .tup [.int (i : Nat), d] :: enumD (i + 1) ds
theorem enumD_length : ∀ (i : Nat) (ds : List D), (enumD i ds).length = ds.length
  | _, [] => rfl
  | i, d :: ds => congrArg (· + 1) (enumD_length (i + 1) ds)
theorem enumD_get : ∀ (i : Nat) (ds : List D) (j : Nat) (d : D), ds[j]? = some d → (enumD i ds)[j]? = some (.tup [.int ((i + j : Nat) : Int), d])
  | i, [], j, d, h => by simp at h
  | i, x :: ds, 0, d, h => by
    have e : x = d := by simpa using h
    subst e
    rfl
  | i, x :: ds, j + 1, d, h => by
    show (enumD (i + 1) ds)[j]? = _
    rw [enumD_get (i + 1) ds j d (by simpa using h)]
    congr 5
    omega
theorem walkD_enum {K : PySem.W.Frag} {B : Hp} {a : Addr} {vs : List V} {ds : List D} (h : SqL K B a vs) (r : Reps K B ds vs) : WalkD K B (Ite K a) (enumD 0 ds) := by
  refine ⟨YPair (fun i => some (.int (i : Nat))) (fun i => vs[i]?), ?_, fun i H v H' hi s y => ?_⟩
  · rw [enumD_length, r.length]
    exact (walk_enum (xs := vs)).mono (fun H s => sqL_same s h) fun _ _ _ _ _ _ y => y
  · obtain ⟨T, x, z, h1, h2, h3, h4, h5⟩ := y
    obtain ⟨d, k1, k2⟩ := r.getV h5
    have e4 : V.int ((i : Nat) : Int) = x := Option.some.inj h4
    refine ⟨_, enumD_get 0 ds i d k1, .inr ⟨T, [x, z], [.int ((0 + i : Nat) : Int), d], h1, h2, h3, rfl, Reps.cons ?_ (Reps.cons k2 Reps.nil)⟩⟩
    rw [← e4, Nat.zero_add]
    rfl
def fEnum (t : Tm) (_ : Rho) : Option (List D) := match t with
  | .rv (.val (.lst ds)) => some (enumD 0 ds)
  | .rv (.val (.fls ds)) => some (enumD 0 ds)
  | _ => none
def fEnums (ts : List Tm) (ρ : Rho) : Option (List D) := match ts with
  | [t] => fEnum t ρ
  | _ => none
def mEnum (ms : M (List Tm)) : M (List D) := ms.bind fun ts => lift (fEnums ts)
section
variable {X : Cx} {W : WX} {cv : Cv}
theorem i_zip {a b : Expr} {ms : M (List Tm)} {p pos tpos : Pos} {elts : List Expr} {kk : Nat} (hg : Gl X "zip") (hm : X.mg "zip" = none) (ha : DA X W cv [a, b] ms)
    (hs : starEach [a, b] X.env = (false, eval a X.env) :: starEach [b] X.env := by rfl) (hpl : (backTo pos (starEach [b] X.env)).any (·.1) = false := by rfl) : DI X W cv (.Tuple elts kk tpos) (.Call (.Name "zip" p) [a, b] [] pos) (mZip ms) := by
  obtain ⟨t, h1, h2⟩ := ha
  refine ⟨_, pi_zip2 hg hm h1 hs hpl, fun E B H σ ρ α τ R e q => ?_⟩
  refine h2 E B H σ ρ α τ _ e ?_
  refine Post.imp (Post.bind q) (fun rs ρ1 z ts B1 H1 α1 ht e1 => ?_) fun c ρ' z => z
  obtain ⟨ds, k1, k2⟩ := Post.lift z
  unfold fZip at k1
  split at k1
  · rename_i d e
    obtain ⟨xs, h3, h4⟩ := Option.bind_eq_some_iff.mp k1
    obtain ⟨ys, h5, h6⟩ := Option.map_eq_some_iff.mp h4
    subst h6
    obtain ⟨v, as, w, bs, rfl⟩ := tau2 ht
    have hv : Rep X.K B1 d v := e1.topV List.mem_cons_self
    have hw : Rep X.K B1 e w := e1.topV (List.mem_cons_of_mem _ List.mem_cons_self)
    obtain ⟨t1, a1, vs, g1, g2, g3⟩ := rep_sq hv h3
    obtain ⟨t2, a2, us, g4, g5, g6⟩ := rep_sq hw h5
    subst g1 g4
    exact ⟨t1, t2, a1, a2, vs, us, rfl, sqK_same e1.bh g2, sqK_same e1.bh g5, k2 _ B1 H1 α1 e1.pop.pop (walkD_zip g2 g5 g3 g6)⟩
  · cases k1
theorem i_enum {a : Expr} {ms : M (List Tm)} {p pos tpos : Pos} {elts : List Expr} {kk : Nat} (hg : Gl X "enumerate") (hm : X.mg "enumerate" = none) (ha : DA X W cv [a] ms)
    (hs : starEach [a] X.env = [(false, eval a X.env)] := by rfl) : DI X W cv (.Tuple elts kk tpos) (.Call (.Name "enumerate" p) [a] [] pos) (mEnum ms) := by
  obtain ⟨t, h1, h2⟩ := ha
  refine ⟨_, pi_enum hg hm h1 hs, fun E B H σ ρ α τ R e q => ?_⟩
  refine h2 E B H σ ρ α τ _ e ?_
  refine Post.imp (Post.bind q) (fun rs ρ1 z ts B1 H1 α1 ht e1 => ?_) fun c ρ' z => z
  obtain ⟨ds, k1, k2⟩ := Post.lift z
  unfold fEnums at k1
  split at k1
  · rename_i t1
    obtain ⟨v, as, rfl⟩ := tau1 ht
    unfold fEnum at k1
    split at k1
    · rename_i xs
      cases k1
      obtain ⟨p1, vs, g1, g2, g3⟩ := (show Rep X.K B1 (.lst xs) v from e1.topV List.mem_cons_self)
      subst g1
      exact ⟨p1, vs, rfl, SqL.of (e1.bh _ _ g2), k2 _ B1 H1 α1 e1.pop (walkD_enum (SqL.of g2) g3)⟩
    · rename_i xs
      cases k1
      obtain ⟨p1, vs, g1, g2, g3⟩ := (show Rep X.K B1 (.fls xs) v from e1.topV List.mem_cons_self)
      subst g1
      exact ⟨p1, vs, rfl, sqL_same e1.bh g2, k2 _ B1 H1 α1 e1.pop (walkD_enum g2 g3)⟩
    · cases k1
  · cases k1
end
end Pd
set_option Elab.async false
set_option linter.all false
set_option maxRecDepth 100000
set_option maxHeartbeats 2000000
/-! Pd10: calls of defs as a rule; append; isinstance; sorted, count, gcd. -/
namespace Pd
open PySem PySem.Spec PyProof.Rows L2
section
variable {X : Cx} {W : WX} {cv : Cv} {pos : Pos}
theorem e_call {k k' n : Nat} {f : Addr} {fd : FuncData} {ps : List Str} {F : M Rv} {x : Str} {p : Pos} {e : Expr} {es : List Expr} {ms : M (List Tm)} (FO : FnOk X.prog X.w X.K X.mg X.base (L2N.CX X.prog X.w) k f fd ps (spF X.K cv n F)) (hr : Room k' X.A) (hkk : k ≤ k')
    (hm : X.mg x = some (.ref f)) (hk : PySem.W.keepIn X.K (.ref f) = true) (hb : Binds X.K fd ps []) (tk : L2N.Takes X W) (hg : Gl X x) (ha : DA X W cv (e :: es) ms)
    (hdb : (x == ("__debug__" : Str)) = false := by decide) (he : starEach (e :: es) X.env = (false, eval e X.env) :: starEach es X.env := by rfl) (hpl : (backTo pos (starEach es X.env)).any (·.1) = false := by rfl) :
    DE X W cv (.Call (.Name x p) (e :: es) [] pos) (mCall n F ms) := by
  obtain ⟨t, h1, h2⟩ := ha
  exact ⟨_, pe_callS FO (hr.mono hkk) hg hm hk hb (L2N.passAt tk) h1 hdb he hpl, ev_call h2⟩
theorem s_app (i : Nat) {x : Str} {e : Expr} {me : M Tm} {p apos cpos : Pos} (he : DE X W cv e me) (hN : X.N[i]? = some x := by rfl) (hv : Vis X.env.scope x := by first | exact Or.inl rfl | exact Or.inr (Or.inl rfl) | exact Or.inr (Or.inr rfl)) (hd : (x == ("__debug__" : Str)) = false := by decide) (hcd : (x == ("__classdict__" : Str)) = false := by decide)
    (hbase : attributeBase (.Name x p) "append" X.env (eval (.Name x p) X.env) = eval (.Name x p) X.env := by rfl)
    (hfew : ((backTo cpos (starEach [e] X.env)).all (fun x => !x.1) && (backToKw cpos (keywordEach [] X.env)).all (fun x => x.1.isSome)
      && decide (([e] : List Expr).length + ([] : List Keyword).length + (if ([] : List Keyword).isEmpty then 0 else 1) < 30)) = true := by rfl)
    (hline : (apos.endLine == cpos.line) = true := by rfl) (hs : starEach [e] X.env = (false, eval e X.env) :: starEach [] X.env := by rfl) (hplain : (backTo cpos (starEach [] X.env)).any (·.1) = false := by rfl) :
    DS X W cv (.Expr (.Call (.Attribute (.Name x p) "append" apos) [e] [] cpos) pos) (mApp i me) := by
  obtain ⟨t, h1, h2⟩ := he
  exact ⟨_, ps_expr (pe_bm PySem.F.plainAttrs_list PySem.F.slot_list_append PySem.F.type_list_append mt_append (pe_var hN hv hd hcd) (pa_cons h1 pa_nil hs) hbase hfew hline hs hplain), st_app i h2⟩
theorem e_callBf {id : String} {r : List V → Hp → VK → Prop} {f : List Tm → Rho → Option Tm} {x : Str} {p : Pos} {e : Expr} {es : List Expr} {ms : M (List Tm)} (hc : CallR X (.builtin id) r) (h : ClM X.K r f) (hm : X.mg x = some (.builtin id)) (hg : Gl X x) (ha : DA X W cv (e :: es) ms)
    (hdb : (x == ("__debug__" : Str)) = false := by decide) (he : starEach (e :: es) X.env = (false, eval e X.env) :: starEach es X.env := by rfl) (hpl : (backTo pos (starEach es X.env)).any (·.1) = false := by rfl) :
    DE X W cv (.Call (.Name x p) (e :: es) [] pos) (mCl f ms) := let ⟨_, h1, h2⟩ := ha; ⟨_, pe_callBfun hc hg hm h1 hdb he hpl, ev_cl h h2⟩
end
/-! ### isinstance(x, T) -/
def dTy : D → String
  | .non => "NoneType"
  | .bl _ => "bool"
  | .int _ => "int"
  | .str _ => "str"
  | .tup _ => "tuple"
  | .lst _ => "list"
  | .fls _ => "list"
  | .exc _ => "?"
theorem rep_ty {K : PySem.W.Frag} {H : Hp} {d : D} {v : V} (h : Rep K H d v) (ne : dTy d ≠ "?") : TyX K H v (.type (dTy d)) := by
  cases d with
  | non => cases (show v = V.non from h); exact .base .non
  | bl b => cases (show v = V.bl b from h); exact .base (.bl b)
  | int i => cases (show v = V.int i from h); exact .base (.int i)
  | str x => cases (show v = V.str x from h); exact .base (.str x)
  | tup xs =>
    obtain ⟨a, vs, e, q, _⟩ := h
    subst e
    rcases q with (q | ⟨o, q⟩) | ⟨o, its, n, hk, hc, _⟩
    · exact .base (.tup q)
    · exact .fTuple q
    · exact .kTuple hk hc
  | lst xs =>
    obtain ⟨a, vs, e, q, _⟩ := h
    subst e
    exact .base (.lst q)
  | fls xs =>
    obtain ⟨a, vs, e, q, _⟩ := h
    subst e
    rcases q with (q | ⟨o, q⟩) | ⟨o, its, n, hk, hc, _⟩
    · exact .base (.lst q)
    · exact .base (.frz q)
    · exact .kList hk hc
  | exc a => exact absurd rfl ne
/-- the answers that are used -/
def isTy (a b : String) : Option Bool := if (a == "NoneType" || a == "bool" || a == "int" || a == "str" || a == "tuple" || a == "list") = true ∧ (b == "bool" || b == "int" || b == "str" || b == "tuple" || b == "list" || b == "dict") = true then some (a == b || (a == "bool" && b == "int")) else none
theorem isTy_ne {d : D} {b : String} {r : Bool} (h : isTy (dTy d) b = some r) : dTy d ≠ "?" := fun z => by
  rw [z] at h
  unfold isTy at h
  split at h
  · rename_i q
    exact absurd q.1 (by decide)
  · cases h
theorem isTy_kit {d : D} {b : String} {r : Bool} (h : isTy (dTy d) b = some r) : kitB (dTy d) b = some r := by
  have tab : ∀ a ∈ ["NoneType", "bool", "int", "str", "tuple", "list"], ∀ c ∈ ["bool", "int", "str", "tuple", "list", "dict"], kitB a c = isTy a c := by decide +kernel
  have ha : dTy d ∈ ["NoneType", "bool", "int", "str", "tuple", "list"] := by
    have ne := isTy_ne h
    cases d <;> simp [dTy] at ne ⊢
  have hb : b ∈ ["bool", "int", "str", "tuple", "list", "dict"] := by
    unfold isTy at h
    split at h
    · rename_i q
      have q2 := q.2
      simp only [Bool.or_eq_true, beq_iff_eq] at q2
      rcases q2 with ((((z | z) | z) | z) | z) | z <;> simp [z]
    · cases h
  rw [tab _ ha _ hb, h]
def fIsi (T : String) (t : Tm) (ρ : Rho) : Option Tm := (t.dat ρ).bind fun d => (isTy (dTy d) T).map fun b => .v (.bl b)
section
variable {X : Cx} {W : WX} {cv : Cv} {pos : Pos}
theorem e_isi {T : String} {p p2 : Pos} {tn : Str} {e : Expr} {m : M Tm} (hg : Gl X "isinstance") (hm : X.mg "isinstance" = none) (ht : Gl X tn) (htm : X.mg tn = none) (htv : bootBuiltins tn = some (.type T)) (he : DE X W cv e m)
    (hn : tn ≠ "__name__" := by decide) (hdb : (tn == ("__debug__" : Str)) = false := by decide)
    (hst : starEach [e, .Name tn p2] X.env = (false, eval e X.env) :: starEach [.Name tn p2] X.env := by rfl) (hst2 : starEach [.Name tn p2] X.env = (false, eval (.Name tn p2) X.env) :: starEach [] X.env := by rfl) (hpl : (backTo pos (starEach [.Name tn p2] X.env)).any (·.1) = false := by rfl) :
    DE X W cv (.Call (.Name "isinstance" p) [e, .Name tn p2] [] pos) (mUn (fIsi T) m) := by
  obtain ⟨t, h1, h2⟩ := he
  refine ⟨_, pe_callB call_isi hg hm boot_isinstance (pa_cons h1 (pa_cons (pe_bltn ht htm htv (v := .ty T) rfl hn hdb) pa_nil hst2) hst) (by decide) (by decide) hst hpl, fun E B H σ ρ α τ Q e q => ?_⟩
  refine h2 E B H σ ρ α τ _ e ?_
  refine Post.imp (Post.bind q) (fun r ρ1 z v as B1 H1 α1 e1 => ?_) fun c ρ' z => z
  obtain ⟨u, k1, k2⟩ := Post.lift z
  obtain ⟨d, k3, k4⟩ := Option.bind_eq_some_iff.mp k1
  obtain ⟨b, k5, k6⟩ := Option.map_eq_some_iff.mp k4
  subst k6
  exact ⟨v, .ty T, _, _, b, rfl, .ty T, rep_ty (e1.dat List.mem_cons_self k3) (isTy_ne k5), kit_ty (isTy_kit k5), k2 _ [] B1 H1 α1 (e1.pop.push rfl)⟩
end
/-! ### sorted -/
def leI (a b : Int) : Bool := decide (a ≤ b)
def sortI (ns : List Int) : List Int := ns.mergeSort leI
theorem sortI_eq {ns ms : List Int} (h : ms.Perm ns) (s : ms.Pairwise (· ≤ ·)) : ms = sortI ns := by
  have p : (sortI ns).Perm ns := List.mergeSort_perm _ _
  have q : (sortI ns).Pairwise fun a b => leI a b = true := List.pairwise_mergeSort (fun a b c h1 h2 => by unfold leI at *; simp only [decide_eq_true_eq] at *; omega) (fun a b => by unfold leI; simp only [Bool.or_eq_true, decide_eq_true_eq]; omega) ns
  exact List.Perm.eq_of_pairwise (le := (· ≤ ·)) (fun a b _ _ h1 h2 => Int.le_antisymm h1 h2) s (q.imp fun h => of_decide_eq_true h) (h.trans p.symm)
def leS (a b : Str) : Bool := !ltCps b.cps.toList a.cps.toList
def sortS (ns : List Str) : List Str := ns.mergeSort leS
theorem ltCps_tri : ∀ a b : List Nat, ltCps a b = false → ltCps b a = false → a = b
  | [], [], _, _ => rfl
  | [], _ :: _, h, _ => by simp [ltCps] at h
  | _ :: _, [], _, h => by simp [ltCps] at h
  | x :: a, y :: b, h, h' => by
    simp only [ltCps, Bool.or_eq_false_iff, decide_eq_false_iff_not, Bool.and_eq_false_iff, beq_eq_false_iff_ne] at h h'
    have e : x = y := by omega
    subst e
    have h1 : ltCps a b = false := by simpa using h.2
    have h2 : ltCps b a = false := by simpa using h'.2
    rw [ltCps_tri a b h1 h2]
theorem leCps_trans : ∀ a b c : List Nat, ltCps b a = false → ltCps c b = false → ltCps c a = false
  | [], _, [], _, _ => rfl
  | [], _, _ :: _, _, _ => rfl
  | x :: a, [], _, h, _ => by simp [ltCps] at h
  | x :: a, y :: b, [], _, h => by simp [ltCps] at h
  | x :: a, y :: b, z :: c, h, h' => by
    simp only [ltCps, Bool.or_eq_false_iff, decide_eq_false_iff_not, Bool.and_eq_false_iff, beq_eq_false_iff_ne] at h h' ⊢
    refine ⟨by omega, ?_⟩
    by_cases e : z = x
    · right
      have e1 : y = x := by omega
      have h1 : ltCps b a = false := h.2.resolve_left fun q => q e1
      have h2 : ltCps c b = false := h'.2.resolve_left fun q => q (by omega)
      exact leCps_trans a b c h1 h2
    · exact .inl e
theorem leCps_total : ∀ a b : List Nat, ltCps b a = false ∨ ltCps a b = false
  | [], [] => .inl rfl
  | [], _ :: _ => .inl rfl
  | _ :: _, [] => .inr rfl
  | x :: a, y :: b => by
    simp only [ltCps, Bool.or_eq_false_iff, decide_eq_false_iff_not, Bool.and_eq_false_iff, beq_eq_false_iff_ne]
    by_cases e : x = y
    · subst e
      rcases leCps_total a b with h | h
      · exact .inl ⟨by omega, .inr h⟩
      · exact .inr ⟨by omega, .inr h⟩
    · rcases Nat.lt_or_gt_of_ne e with h | h
      · exact .inl ⟨by omega, .inl (Ne.symm e)⟩
      · exact .inr ⟨by omega, .inl e⟩
theorem str_ext {a b : Str} (h : a.cps.toList = b.cps.toList) : a = b := by
  cases a
  cases b
  congr 1
  exact Array.toList_inj.mp h
theorem risingS_pw : ∀ (p : Str) (l : List Str), risingS p l = true → (p :: l).Pairwise fun a b => leS a b = true
  | p, [], _ => List.pairwise_singleton ..
  | p, x :: r, h => by
    have h' : (!ltCps x.cps.toList p.cps.toList && risingS x r) = true := h
    rw [Bool.and_eq_true] at h'
    have ih := risingS_pw x r h'.2
    refine List.pairwise_cons.mpr ⟨fun b hb => ?_, ih⟩
    rcases List.mem_cons.mp hb with z | z
    · rw [z]; exact h'.1
    · have q := (List.pairwise_cons.mp ih).1 b z
      have q1 : ltCps x.cps.toList p.cps.toList = false := by simpa using h'.1
      have q2 : ltCps b.cps.toList x.cps.toList = false := by simpa [leS] using q
      show (!ltCps b.cps.toList p.cps.toList) = true
      rw [leCps_trans _ _ _ q1 q2]
      rfl
theorem sortedS_pw : ∀ l : List Str, sortedS l = true → l.Pairwise fun a b => leS a b = true
  | [], _ => List.Pairwise.nil
  | x :: r, h => risingS_pw x r h
theorem sortS_eq {ns ms : List Str} (h : ms.Perm ns) (s : sortedS ms = true) : ms = sortS ns := by
  have p : (sortS ns).Perm ns := List.mergeSort_perm _ _
  have q : (sortS ns).Pairwise fun a b => leS a b = true := List.pairwise_mergeSort (fun a b c h1 h2 => by
      have q1 : ltCps b.cps.toList a.cps.toList = false := by simpa [leS] using h1
      have q2 : ltCps c.cps.toList b.cps.toList = false := by simpa [leS] using h2
      show (!ltCps c.cps.toList a.cps.toList) = true
      rw [leCps_trans _ _ _ q1 q2]
      rfl) (fun a b => by
      rcases leCps_total a.cps.toList b.cps.toList with h | h
      · simp [leS, h]
      · simp [leS, h]) ns
  exact List.Perm.eq_of_pairwise (le := fun a b => leS a b = true) (fun a b _ _ h1 h2 => str_ext (ltCps_tri _ _ (by simpa [leS] using h2) (by simpa [leS] using h1))) (sortedS_pw ms s) q (h.trans p.symm)
def fSorted (ts : List Tm) (ρ : Rho) : Option Tm := match ts with
  | [t] => (t.elsF ρ).bind fun ds => match ints? ds with
    | some ns => when (ns.length < 64) (some (.o ((sortI ns).map D.int)))
    | none => (strs? ds).bind fun ns => when (ns.length < 64) (some (.o ((sortS ns).map D.str)))
  | _ => none
theorem cl_sorted {K : PySem.W.Frag} : ClM K (fun xs H Q => rSorted K xs H Q ∨ rSortedS K xs H Q) fSorted := fun E B H σ ρ α τ ts Q t e q k => by
  unfold fSorted at q
  split at q
  · rename_i t1 he
    obtain ⟨v, as, z⟩ := tau1 he
    subst z
    obtain ⟨ds, h1, h2⟩ := Option.bind_eq_some_iff.mp q
    obtain ⟨p, vs, h5, h6, h7⟩ := e.elsF m1 h1
    subst h5
    cases hI : ints? ds with
    | some ns =>
      rw [hI] at h2
      obtain ⟨hl, h2⟩ := when_some h2
      cases h2
      have h8 := reps_ints h7 hI
      subst h8
      exact .inl ⟨p, ns, rfl, h6, hl, fun ms q hp hs hq => by rw [sortI_eq hp hs]; exact k _ [q] _ _ α (e.pop.newOwn hq (ints_reps _))⟩
    | none =>
      rw [hI] at h2
      obtain ⟨ns, h3, h4⟩ := Option.bind_eq_some_iff.mp h2
      obtain ⟨hl, h4⟩ := when_some h4
      cases h4
      have h8 := reps_strs h7 h3
      subst h8
      exact .inr ⟨p, ns, rfl, h6, hl, fun ms q hp hs hq => by rw [sortS_eq hp hs]; exact k _ [q] _ _ α (e.pop.newOwn hq (strs_reps _))⟩
  · cases q
/-! ### methods of built-in types -/
def fCount (t : Tm) (ts : List Tm) (ρ : Rho) : Option Tm := match ts with
  | [.rv (.val (.int k))] => (t.elsF ρ).bind fun ds => (ints? ds).map fun ns => .v (.int ((ns.count k : Nat) : Int))
  | _ => none
def isLst (t : Tm) (ρ : Rho) : Option Unit := (t.elsF ρ).map fun _ => ()
/-- a method of a list that reads -/
def mMt (f : Tm → List Tm → Rho → Option Tm) (mo : M Tm) (ms : M (List Tm)) : M Tm := mo.bind fun t => (lift (isLst t)).bind fun _ => ms.bind fun ts => lift (f t ts)
abbrev MtM (K : PySem.W.Frag) (r : V → List V → Hp → VK → Prop) (f : Tm → List Tm → Rho → Option Tm) : Prop := ∀ {Tb : List Addr} (E : Ent Tb) (B H : Hp) (σ : L2.St) (ρ : Rho) (α : Nat → List Addr) (τ ts : Tau) (x : V) (tx : Tm) (ax : List Addr) (Q : VK) (t : Tm), EnvR K E B H σ ρ α (ts ++ (x, tx, ax) :: τ) →
  f tx (ts.map (·.2.1)) ρ = some t → (∀ v as B' H' α', EnvR K E B' H' σ ρ α' ((v, t, as) :: τ) → Q v H') → r x (ts.map (·.1)) H Q
theorem ev_mt {K : PySem.W.Frag} {W : WX} {cv : Cv} {r : V → List V → Hp → VK → Prop} {f : Tm → List Tm → Rho → Option Tm} {to : TE} {ta : TA} {mo : M Tm} {ms : M (List Tm)} (h : MtM K r f) (ho : EvM K W cv to mo) (ha : EvMs K W cv ta ms) : EvM K W cv (tBM K "list" r to ta) (mMt f mo ms) := fun E B H σ ρ α τ Q e q => by
  refine ho E B H σ ρ α τ _ e ?_
  refine Post.imp (Post.bind q) (fun t ρ1 z v as B1 H1 α1 e1 => ?_) fun c ρ' z => z
  obtain ⟨u, k1, k2⟩ := Post.lift (Post.bind z)
  unfold isLst at k1
  obtain ⟨ds, k3, _⟩ := Option.map_eq_some_iff.mp k1
  obtain ⟨p, vs, h1, h2, h3⟩ := e1.elsF List.mem_cons_self k3
  subst h1
  refine ⟨.inl ⟨rfl, vs, h2⟩, ?_⟩
  refine ha E B1 H1 σ ρ1 α1 _ _ e1 ?_
  refine Post.imp (Post.bind k2) (fun rs ρ2 y ts B2 H2 α2 ht e2 => ?_) fun c ρ' z => GE.pop z
  obtain ⟨w, k4, k5⟩ := Post.lift y
  rw [← ht] at k4
  exact h E B2 H2 σ ρ2 α2 τ ts (.ref p) t as Q w e2 k4 k5
theorem mtm_count {K : PySem.W.Frag} : MtM K (rCntI K) fCount := fun E B H σ ρ α τ ts x tx ax Q t e q k => by
  unfold fCount at q
  split at q
  · rename_i n he
    obtain ⟨v, as, z⟩ := tau1 he
    subst z
    obtain ⟨ds, h1, h2⟩ := Option.bind_eq_some_iff.mp q
    obtain ⟨ns, h3, h4⟩ := Option.map_eq_some_iff.mp h2
    cases h4
    obtain ⟨p, vs, h5, h6, h7⟩ := e.elsF (List.mem_cons_of_mem _ List.mem_cons_self) h1
    have h8 := reps_ints h7 h3
    subst h8
    have h9 : v = .int n := e.topV List.mem_cons_self
    subst h9
    exact ⟨p, ns, n, h5, rfl, h6, k _ [] B H α (e.pop.pop.push rfl)⟩
  · cases q
section
variable {X : Cx} {W : WX} {cv : Cv} {cpos apos : Pos}
theorem e_mtL {name : Str} {id : String} {r : V → List V → Hp → VK → Prop} {f : Tm → List Tm → Rho → Option Tm} {o e : Expr} {es : List Expr} {mo : M Tm} {ms : M (List Tm)} (slot : Slot "list" name id) (hty : typeOf (.builtin id) = pure (.type "method_descriptor")) (hm : MtR X id r) (h : MtM X.K r f) (ho : DE X W cv o mo) (ha : DA X W cv (e :: es) ms)
    (hbase : attributeBase o name X.env (eval o X.env) = eval o X.env := by rfl)
    (hfew : ((backTo cpos (starEach (e :: es) X.env)).all (fun x => !x.1) && (backToKw cpos (keywordEach [] X.env)).all (fun x => x.1.isSome)
      && decide ((e :: es).length + ([] : List Keyword).length + (if ([] : List Keyword).isEmpty then 0 else 1) < 30)) = true := by rfl)
    (hline : (apos.endLine == cpos.line) = true := by rfl) (hs : starEach (e :: es) X.env = (false, eval e X.env) :: starEach es X.env := by rfl) (hplain : (backTo cpos (starEach es X.env)).any (·.1) = false := by rfl) :
    DE X W cv (.Call (.Attribute o name apos) (e :: es) [] cpos) (mMt f mo ms) := by
  obtain ⟨t, h1, h2⟩ := ho
  obtain ⟨ta, h3, h4⟩ := ha
  exact ⟨_, pe_bm PySem.F.plainAttrs_list slot hty hm h1 h3 hbase hfew hline hs hplain, ev_mt h h2 h4⟩
end
end Pd
set_option Elab.async false
set_option linter.all false
set_option maxRecDepth 100000
set_option maxHeartbeats 2000000
/-! Pd11: any, all of a generator expression over pairs. -/
namespace Pd
open PySem PySem.Spec PyProof.Rows L2 GxR
section
variable {prog : Program} {w : World} {A : Around} {E : Value → Shared → Prop} {s : Shared}
theorem letGo_tupiter {elts : List Expr} {x1} {pos : Pos} {I l T : Addr} {i : Nat} {Q : Unit → Shared → Prop} (hit : s.heap.IsTupleIter I l i) (hQ : Q () s) :
    wpAny (model prog w) A (letOwnedTupleGo (.Tuple elts x1 pos) (.ref I) (.ref T)) Q E s := by
  obtain ⟨o, ho, hc, hd⟩ := hit
  unfold letOwnedTupleGo
  refine wpAny_bind (wpAny_load ho ?_)
  rw [hc, hd]
  show wpAny _ A (if (["enumerate", "zip", "dict_itemiterator", "dict_reverseitemiterator", "odict_iterator", "itertools.zip_longest", "itertools.pairwise"].contains "tuple_iterator" &&
      (#[.ref l, .int i 0] : Array Value)[0]? == some (rawInt T)) = true then _ else _) Q E s
  rw [if_neg (by
    intro h
    rw [show (["enumerate", "zip", "dict_itemiterator", "dict_reverseitemiterator", "odict_iterator", "itertools.zip_longest", "itertools.pairwise"].contains "tuple_iterator") = false from by decide, Bool.false_and] at h
    cases h)]
  exact wpAny_pure hQ
theorem letGo_K {elts : List Expr} {x1} {pos : Pos} {I l T : Addr} {i : Nat} {t : Bool} {Q : Unit → Shared → Prop} (hit : itK s.heap t I l i) (hQ : Q () s) : wpAny (model prog w) A (letOwnedTupleGo (.Tuple elts x1 pos) (.ref I) (.ref T)) Q E s := by
  cases t
  · exact wpAny_letOwnedTupleGo_listiter hit hQ
  · exact letGo_tupiter hit hQ
theorem next_K {it l : Addr} {i : Nat} {t : Bool} {items : Array Value} {x : Value} {Q : Option Value → Shared → Prop} (hit : itK s.heap t it l i) (hl : hpK s.heap t l items) (hx : items[i]? = some x)
    (hQ : ∀ h', itK h' t it l (i + 1) → Heap.SameBut it s.heap h' → Q (some x) { s with heap := h' }) : wpAny (model prog w) A (pyNext (.ref it)) Q E s := by
  cases t
  · exact wpAny_pyNext_list_item hit hl hx hQ
  · exact wpAny_pyNext_tuple_item hit hl hx hQ
theorem end_K {it l : Addr} {i : Nat} {t : Bool} {items : Array Value} {Q : Option Value → Shared → Prop} (hh : A.handled = none) (hit : itK s.heap t it l i) (hl : hpK s.heap t l items) (hx : items[i]? = none)
    (hQ : ∀ h', Heap.ExtBut it s.heap h' → Q none { s with heap := h' }) : wpAny (model prog w) A (pyNext (.ref it)) Q E s := by
  cases t
  · exact wpAny_pyNext_list_end hh hit hl hx hQ
  · exact wpAny_pyNext_tuple_end hh hit hl hx hQ
theorem self_K {it l : Addr} {i : Nat} {t : Bool} {Q : Value → Shared → Prop} (hit : itK s.heap t it l i) (hQ : Q (.ref it) s) : wpAny (model prog w) A (pyIter (.ref it)) Q E s := by
  cases t
  · exact wpAny_pyIter_listiter hit hQ
  · exact wpAny_pyIter_tupleiter hit hQ
theorem hpK_at {h h' : Heap} {t : Bool} {l : Addr} {xs : Array Value} (x : hpK h t l xs) (k : ∀ o, h.get? l = some o → h'.get? l = some o) : hpK h' t l xs := by
  cases t
  · exact Heap.IsList.at x k
  · exact Heap.IsTuple.at x k
end
/-- a list or tuple of tuples -/
theorem walksK_tups {prog : Program} {w : World} {A : Around} (hh : A.handled = none) (t : Bool) (I ax : Addr) (hne : ax ≠ I) (items : Array Value) (Ts : Nat → Addr) (vals : Nat → Array Value)
    (hit : ∀ j, j < items.size → items[j]? = some (.ref (Ts j))) (hTI : ∀ j, j < items.size → Ts j ≠ I) :
    WalksU prog w A I (I :: ax :: (List.range items.size).map Ts) [I] items.size (fun j v => j < items.size ∧ v = vals j)
      (fun j h => itK h t I ax j ∧ hpK h t ax items ∧ ∀ k, k < items.size → h.IsTuple (Ts k) (vals k))
      (fun j T h => (j < items.size ∧ T = Ts j) ∧ itK h t I ax (j + 1) ∧ hpK h t ax items ∧ ∀ k, k < items.size → h.IsTuple (Ts k) (vals k)) where
  sub := fun b hb => by simp at hb; simp [hb]
  frame := fun _ _ _ st hk => ⟨itK_at st.1 fun o e => hk I (by simp) o e, hpK_at st.2.1 fun o e => hk ax (by simp) o e,
    fun k hk' => (st.2.2 k hk').at fun o e => hk (Ts k) (List.mem_cons_of_mem _ (List.mem_cons_of_mem _ (List.mem_map.mpr ⟨k, List.mem_range.mpr hk', rfl⟩))) o e⟩
  item := fun i s Q E hi st hQ => by
    refine next_K st.1 st.2.1 (x := .ref (Ts i)) (hit i hi) fun h' hit' hs' => ?_
    have tup : ∀ k, k < items.size → h'.IsTuple (Ts k) (vals k) := fun k hk' => (st.2.2 k hk').extBut hs'.extBut (hTI k hk')
    exact hQ (Ts i) (vals i) h' s.toks ⟨hi, rfl⟩ (tup i hi) ⟨⟨hi, rfl⟩, hit', hpK_at st.2.1 fun o e => hs'.extBut ax o hne e, tup⟩ fun b o hb e => hs'.extBut b o (fun h => hb (by simp [h])) e
  go := fun _ _ _ _ _ s Q _ hm hQ => letGo_K hm.2.1 (hQ s.heap hm.2 fun _ _ _ e => e)
  apart := fun j T _ hm hmem => by
    rcases List.mem_cons.mp hmem with e | e
    · exact hTI j hm.1.1 (hm.1.2 ▸ e)
    · cases e
  done := fun s Q E st hQ => end_K hh st.1 st.2.1 (by simp) fun h' he' => hQ h' s.toks fun b o hb e => he' b o (fun h => hb (by simp [h])) e
  self := fun _ _ _ _ st hQ => self_K st.1 hQ

structure GenS2 (env : Env) (scope : Scope) (xa xb : Str) : Prop where
  kind : scope.kind = .function
  co : scope.isCoroutine = false
  cell : ∀ y ∈ scope.names, y.2 ≠ .cell
  dot : scope.names.lookup (".0" : Str) = some NameKind.local
  la : scope.names.lookup xa = some .local
  lb : scope.names.lookup xb = some .local
  ne : xa ≠ xb
  free : ∀ y ∈ scope.names, y.2 = .free → ∃ c, env.cells.lookup y.1 = some c
/-- the element: a truth value by the pair, all else as it stood when the walk began -/
def EltG (X : Cx) (scope : Scope) (xa xb : Str) (elt : Expr) (P : Addr) (σ : L2.St) (H1 : Hp) (n : Nat) (pr : Nat → V × V) (bs : Nat → Bool) : Prop :=
  ∀ (pins : List (Addr × Obj)) (s1 : Shared), Inv X pins σ H1 s1 → ∀ (cenv : Env) (A' : Around) (E' : Value → Shared → Prop) (j : Nat) (va vb : Value) (s₂ : Shared) (m₂ : Str → Option Value), j < n → cenv.scope = scope → cenv.cells = cloFrom X.env.cells scope.names [] → cenv.globals = X.env.globals →
    RelV (pr j).1 va → RelV (pr j).2 vb → s₂.heap.Ns cenv.locals m₂ → m₂ xa = some va → m₂ xb = some vb → (∀ b o, s1.heap.get? b = some o → b ≠ P → s₂.heap.get? b = some o) →
    wpAny (model X.prog X.w) A' (eval elt cenv) (fun y s₃ => y = .bool (bs j) ∧ Keeps s₂ s₃) E' s₂
def Ready2 (X : Cx) (pins : List (Addr × Obj)) (σ : L2.St) (H1 : Hp) (P : Addr) (n : Nat) (bs : Nat → Bool) (g : Addr) (s5 : Shared) : Prop :=
  ∃ (fp wr : List Addr) (G : Array GenState → Array GenState → Prop) (F : Nat → Value → Prop) (St : Nat → Shared → Prop),
    WalksS X.prog X.w X.A.in1 g fp wr G n F St ∧ St 0 s5 ∧
    TruthOf X.prog X.w X.A.in1 F bs ∧
    ∀ s', Moved wr G s5 s' → ∃ H2, Tabbed P H1 H2 ∧ Inv X pins σ H2 s'
theorem keepsR (s : Shared) : Keeps s s := ⟨s.heap, s.toks, rfl, fun _ _ e => e⟩
section
variable {X : Cx} {pins : List (Addr × Obj)} {σ : L2.St} {H : Hp} {s : Shared}
theorem gen_pairs {c P : Addr} {elt iter : Expr} {xa xb : Str} {pa pb pt gpos : Pos} {kt : Nat} {scope : Scope} {te : TE} {k : Nat} {Q' : Value → Shared → Prop} {R : Nat → (Nat → Bool) → Hp → Prop}
    (hr : Room k X.A) (TB : TabB X.base X.mg c P) (hcode : X.env.code = .ref c) (S : GenS2 X.env scope xa xb) (hi : PE X iter te)
    (hs : ∀ v, genFold iter X.env v = pure v) (I : Inv X pins σ H s)
    (h : te σ H fun v H1 => ∃ (t : Bool) (a : Addr) (xs : List V) (pr : Nat → V × V) (bs : Nat → Bool), v = .ref a ∧ sqK X.K H1 t a xs ∧ (∀ j, j < xs.length → ∃ T, xs[j]? = some (.ref T) ∧ SqT X.K H1 T [(pr j).1, (pr j).2]) ∧ TabG H1 P ∧ EltG X scope xa xb elt P σ H1 xs.length pr bs ∧ R xs.length bs H1)
    (hQ : ∀ n bs H1 g s5, R n bs H1 → Ready2 X pins σ H1 P n bs g s5 → Q' (.ref g) s5) :
    wpAny (model X.prog X.w) X.A (eval (.GeneratorExp elt [⟨.Tuple [.Name xa pa, .Name xb pb] kt pt, iter, [], 0⟩] scope gpos) X.env) Q' X.xe s := by
  refine wpAny_GeneratorExp_walksQT hr.hd S.co (closure_ok S.free) S.cell S.dot S.la S.lb S.ne S.kind (by have := hr.dp; omega) ?_ hs
  refine thn (hi.run pins s σ H _ I h) fun xv s1 ⟨v, H1, I1, r1, q1⟩ => ?_
  obtain ⟨t, a, xs, pr, bs, rfl, hsq, hit, ⟨ps, hP, ht⟩, hel, q1⟩ := q1
  cases r1
  obtain ⟨its, rv, hl, la⟩ := invK I1 hsq
  have hlen : xs.length = its.length := rv.length
  refine (beginsK t a its.toArray).iter _ _ _ _ _ _ hl ?_
  have hPs : s1.heap.get? P = some { cls := .none, data := .fields ps } := I1.hok P _ hP
  have hPlt : P < s1.heap.objs.size := Heap.lt_size hPs
  have hP2 : (s1.heap.push (obK t a)).get? P = some { cls := .none, data := .fields ps } := Heap.get?_push_of_some _ hPs
  have cd : PySem.W.CodeHd (s1.heap.push (obK t a)) c P := TB.code.keeps fun b u e => Heap.get?_push_of_some _ (I1.bk b u e)
  have lim2 : (s1.heap.push (obK t a)).NoLimit := I1.nolimit.push _
  have hfr : (obK t a).isFreed = false := by cases t <;> rfl
  have hI0 : (s1.heap.push (obK t a)).get? s1.heap.objs.size = some (obK t a) := Heap.get?_push_size _ hfr
  -- the item tuples
  have tup : ∀ j, j < its.length → ∃ T ua ub, its[j]? = some (.ref T) ∧ s1.heap.IsTuple T #[ua, ub] ∧ RelV (pr j).1 ua ∧ RelV (pr j).2 ub := fun j hj => by
    obtain ⟨T, h1, h2⟩ := hit j (by rw [hlen]; exact hj)
    obtain ⟨u, h3, h4⟩ := rv.get h1
    cases h4
    obtain ⟨us, r2, p2, _⟩ := I1.tuple h2
    cases r2 with
    | cons ra rr =>
      cases rr with
      | cons rb rr =>
        cases rr
        exact ⟨T, _, _, h3, p2, ra, rb⟩
  have pick : ∃ (Ts : Nat → Addr) (ua ub : Nat → Value), ∀ j, j < its.length → its[j]? = some (.ref (Ts j)) ∧ s1.heap.IsTuple (Ts j) #[ua j, ub j] ∧ RelV (pr j).1 (ua j) ∧ RelV (pr j).2 (ub j) := by
    refine ⟨fun j => if hj : j < its.length then (tup j hj).choose else 0, fun j => if hj : j < its.length then (tup j hj).choose_spec.choose else .none, fun j => if hj : j < its.length then (tup j hj).choose_spec.choose_spec.choose else .none, fun j hj => ?_⟩
    simp only [dif_pos hj]
    exact (tup j hj).choose_spec.choose_spec.choose_spec
  obtain ⟨Ts, ua, ub, hT⟩ := pick
  have cont : ∀ (code : Value) (h3 : Heap) (tk : Nat) (ps' : Array Value), Heap.ExtBut P (s1.heap.push (obK t a)) h3 → (s1.heap.push (obK t a)).objs.size ≤ h3.objs.size → h3.get? P = some { cls := .none, data := .fields ps' } → (∃ more, ps' = ps ++ more) → TriplesOk ps'.toList →
      wpAny (model X.prog X.w) X.A (builtinsFor X.env.globals X.env.builtins) (fun bi s₄ =>
        ∃ Ia fp wr n₀ Pt St₀ Mid pz F, Value.ref s1.heap.objs.size = .ref Ia ∧ (∀ A' : Around, A'.handled = none → WalksU X.prog X.w A' Ia fp wr n₀ Pt St₀ Mid) ∧ (∀ i vals, Pt i vals → ∃ va vb, vals = #[va, vb]) ∧ St₀ 0 s₄.heap ∧ (∀ b ∈ fp, b < s₄.heap.objs.size) ∧ s₄.heap.NoLimit ∧ cStatics ∉ wr ∧
          (∀ href : Heap, (∀ b o, s₄.heap.get? b = some o → href.get? b = some o) →
            QuietGenT X.prog X.w (genEnv scope (cloFrom X.env.cells scope.names []) s₄.heap.objs.size code bi X.env) xa xb [] elt (List.range s₄.heap.objs.size) wr Pt pz F href) ∧
          (∀ a h₅ tk gs, gs.bare = true → s₄.heap.objs.size < a → h₅.objs.size = a + 1 → (∀ b o, s₄.heap.get? b = some o → h₅.get? b = some o) →
            WalksS X.prog X.w X.A.in4 a (a :: s₄.heap.objs.size :: List.range s₄.heap.objs.size) (s₄.heap.objs.size :: wr) (GenOnlyQ s₄.gens.size) (passing pz n₀ 0).length
              (fun j y => ∃ i, (passing pz n₀ 0)[j]? = some i ∧ F i y) (GenAt X.prog X.w X.A.in4 a s₄.gens.size s₄.heap.objs.size (List.range s₄.heap.objs.size) wr pz n₀ F) →
            GenAt X.prog X.w X.A.in4 a s₄.gens.size s₄.heap.objs.size (List.range s₄.heap.objs.size) wr pz n₀ F 0 { s₄ with gens := s₄.gens.push gs, toks := tk, heap := h₅ } →
            Q' (.ref a) { s₄ with gens := s₄.gens.push gs, toks := tk, heap := h₅ })) X.xe { s1 with heap := h3, toks := tk } := by
    intro code h3 tk ps' hx hsz hP3 hmore ht3
    obtain ⟨bm, ob, e1, e2, e3, e4, e5, e6, e7, e8⟩ := TB.bm
    have hcP : cStatics ≠ P := fun e => by
      obtain ⟨_, hns, _⟩ := I1.nolimit
      obtain ⟨o', es, ep, ho, hd, _⟩ := hns
      rw [e, hPs] at ho
      cases ho
      cases hd
    have hcl : cStatics < s1.heap.objs.size := let ⟨_, hns, _⟩ := I1.nolimit; hns.lt
    have sz2 : (s1.heap.push (obK t a)).objs.size = s1.heap.objs.size + 1 := Heap.size_push ..
    have keep3 : ∀ b u, b ≠ P → s1.heap.get? b = some u → h3.get? b = some u := fun b u hb e => hx b u hb (Heap.get?_push_of_some _ e)
    have notP : ∀ (b : Addr) (its2 : Array Value), s1.heap.IsTuple b its2 → b ≠ P := fun b its2 ⟨o, e, c, _⟩ z => by
      rw [z, hPs] at e
      cases e
      cases c
    have aP : a ≠ P := fun z => by
      cases t
      · obtain ⟨o, e, c, _⟩ := (show s1.heap.IsList a its.toArray from hl)
        rw [z, hPs] at e
        cases e
        cases c
      · exact notP a _ hl z
    have I0P : s1.heap.objs.size ≠ P := Nat.ne_of_gt hPlt
    have lt1 : ∀ (b : Addr) (o : Obj), s1.heap.get? b = some o → b ≠ s1.heap.objs.size := fun b o e => Nat.ne_of_lt (Heap.lt_size e)
    have isz : its.toArray.size = its.length := List.size_toArray ..
    have st0 : itK h3 t s1.heap.objs.size a 0 ∧ hpK h3 t a its.toArray ∧ ∀ k, k < its.toArray.size → h3.IsTuple (Ts k) #[ua k, ub k] := by
      refine ⟨itK_new (hx _ _ I0P hI0), hpK_at hl fun o e => keep3 a o aP e, fun j hj => ?_⟩
      obtain ⟨_, h2, _⟩ := hT j (by rw [← isz]; exact hj)
      exact h2.at fun o e => keep3 _ o (notP _ _ h2) e
    have W : ∀ A' : Around, A'.handled = none → WalksU X.prog X.w A' s1.heap.objs.size (s1.heap.objs.size :: a :: (List.range its.toArray.size).map Ts) [s1.heap.objs.size] its.toArray.size (fun j v => j < its.toArray.size ∧ v = #[ua j, ub j])
        (fun j h => itK h t s1.heap.objs.size a j ∧ hpK h t a its.toArray ∧ ∀ k, k < its.toArray.size → h.IsTuple (Ts k) #[ua k, ub k])
        (fun j T h => (j < its.toArray.size ∧ T = Ts j) ∧ itK h t s1.heap.objs.size a (j + 1) ∧ hpK h t a its.toArray ∧ ∀ k, k < its.toArray.size → h.IsTuple (Ts k) #[ua k, ub k]) := fun A' hA => by
      refine walksK_tups hA t _ a (Nat.ne_of_lt la) its.toArray Ts (fun j => #[ua j, ub j]) (fun j hj => ?_) (fun j hj => ?_)
      · obtain ⟨h1, _⟩ := hT j (by rw [← isz]; exact hj)
        simpa using h1
      · obtain ⟨_, ⟨o, e, _⟩, _⟩ := hT j (by rw [← isz]; exact hj)
        exact lt1 _ _ e
    refine wpAny_builtinsFor (m := X.mg) (by rw [I1.ok.glob]; exact ((I1.mod.glob.keeps I1.bk).push _).extBut hx TB.gP) e1 e2 (keep3 _ _ e4 (I1.bk _ _ e5)) e6 e7 e8 ?_
    refine ⟨s1.heap.objs.size, _, [s1.heap.objs.size], its.toArray.size, _, _, _, (fun _ => true), (fun i y => i < its.toArray.size ∧ y = .bool (bs i)), rfl, W, (fun i vals hv => ⟨_, _, hv.2⟩), st0, fun b hb => ?_, lim2.extBut hx hcP, fun z => ?_, fun href hhref => ?_, fun g h5 tk5 gs hgb hag hsz5 hk5 W5 hat => ?_⟩
    · have hlt : b < s1.heap.objs.size + 1 := by
        rcases List.mem_cons.mp hb with z | z
        · rw [z]; exact Nat.lt_succ_self _
        · rcases List.mem_cons.mp z with z | z
          · rw [z]; exact Nat.lt_succ_of_lt la
          · obtain ⟨j, hj, e⟩ := List.mem_map.mp z
            obtain ⟨_, ⟨o, e2, _⟩, _⟩ := hT j (by rw [← isz]; exact List.mem_range.mp hj)
            rw [← e]
            exact Nat.lt_succ_of_lt (Heap.lt_size e2)
      have h9 : s1.heap.objs.size + 1 ≤ h3.objs.size := by rw [← sz2]; exact hsz
      exact Nat.lt_of_lt_of_le hlt h9
    · rcases List.mem_cons.mp z with z | z
      · exact Nat.ne_of_lt hcl z
      · cases z
    · refine ⟨fun A' E' i va vb s₂ m₂ hA hPv hn hma hmb hk => ?_, fun A' E' i va vb s₂ m₂ hA hPv hp hn hma hmb hk => ?_⟩
      · simp only [List.forIn_nil]
        exact wpAny_pure ⟨rfl, keepsR _⟩
      · obtain ⟨hi', hv⟩ := hPv
        obtain ⟨_, _, ra, rb⟩ := hT i (by rw [← isz]; exact hi')
        have ea : va = ua i := by have := congrArg (fun z : Array Value => z[0]?) hv; simpa using this
        have eb : vb = ub i := by have := congrArg (fun z : Array Value => z[1]?) hv; simpa using this
        subst ea eb
        refine wpAny_mono (hel pins s1 I1 _ A' E' i _ _ s₂ m₂ (by rw [hlen, ← isz]; exact hi') rfl rfl rfl ra rb hn hma hmb fun b o e hbP => ?_) (fun y s3 r => ⟨⟨hi', r.1⟩, r.2⟩) fun _ _ e => e
        have k3 := keep3 b o hbP e
        refine hk b (List.mem_range.mpr (Heap.lt_size k3)) (fun z => ?_) o (hhref b o k3)
        rcases List.mem_cons.mp z with z | z
        · exact lt1 b o e z
        · cases z
    · simp only [GxR.passing_true, List.length_range] at W5
      have en : its.toArray.size = xs.length := by rw [isz, hlen]
      refine hQ its.toArray.size bs H1 g _ (by rw [en]; exact q1) ⟨_, _, _, _, _, W5.in4_1, hat, ?_, fun s' hm => ?_⟩
      · intro j y sj Qj Ej hy hQj
        obtain ⟨i, hij, hi', rfl⟩ := hy
        obtain ⟨hj, ej⟩ := List.getElem?_eq_some_iff.mp hij
        rw [List.getElem_range] at ej
        subst ej
        exact wpAny_truthy_bool hQj
      · obtain ⟨more, em⟩ := hmore
        have nwr : ∀ b u, s1.heap.get? b = some u → b ∉ h3.objs.size :: [s1.heap.objs.size] := fun b u e hb => by
          have hl := Heap.lt_size e
          rcases List.mem_cons.mp hb with z | z
          · rw [z] at hl
            have h8 : s1.heap.objs.size + 1 ≤ h3.objs.size := by rw [← sz2]; exact hsz
            have h9 : (h3.objs.size : Nat) < s1.heap.objs.size := hl
            omega
          · rcases List.mem_cons.mp z with z | z
            · rw [z] at hl
              exact Nat.lt_irrefl _ hl
            · cases z
        have J := inv_tab (more := more) (h' := s'.heap) (g' := s'.gens) (d' := s'.drawn) (t' := s'.toks) I1 hP (fun b u hb e => hm.heap b u (nwr b u e) (hk5 b u (keep3 b u hb e)))
          (by rw [← em]; exact hm.heap P _ (nwr P _ hPs) (hk5 P _ hP3)) (AllBare.movedS (I1.bare.push hgb) hm)
        rw [sh_eta s1 s' hm.os] at J
        refine ⟨L2.upd H1 P (.tbl (ps ++ more)), ⟨⟨ps ++ more, upd_same, by rw [← em]; exact ht3⟩, fun b hb => upd_ne hb⟩, J⟩
  refine ⟨lim2, ?_⟩
  cases hf : codeAmong gpos ps.toList with
  | none =>
    refine wpAny_genexprCodeX hcode (cd.code hP2 ht) (cd.tab hP2) hf fun c' h' tk hx hge hlt hco' _ htab' _ => ?_
    obtain ⟨o1, vs, f1, tf, fl, tg, inF, tx, tt, op, _, _, _, _, _, _, _, _, _, htr, _⟩ := hco'
    exact cont _ h' tk _ hx (Nat.le_trans hge (Nat.le_of_lt hlt)) htab'.2 ⟨_, rfl⟩ htr
  | some cv =>
    refine wpAny_genexprCode_hit hcode (cd.code hP2 ht) hf ?_
    exact cont cv (s1.heap.push (obK t a)) s1.toks ps (Heap.ExtBut.refl _ _) (Nat.le_refl _) hP2 ⟨#[], by simp⟩ ht
/-- any(test for xa, xb in e) -/
def tAny2 (K : PySem.W.Frag) (X : Cx) (scope : Scope) (xa xb : Str) (elt : Expr) (P : Addr) (te : TE) : TE := fun σ H Q => te σ H fun v H1 => ∃ (t : Bool) (a : Addr) (xs : List V) (pr : Nat → V × V) (bs : Nat → Bool), v = .ref a ∧ sqK X.K H1 t a xs ∧ (∀ j, j < xs.length → ∃ T, xs[j]? = some (.ref T) ∧ SqT X.K H1 T [(pr j).1, (pr j).2]) ∧ TabG H1 P ∧ EltG X scope xa xb elt P σ H1 xs.length pr bs ∧
  ∀ H2, Tabbed P H1 H2 → Q (.bl ((List.range xs.length).any bs)) H2
theorem pe_any2 {c P : Addr} {elt iter : Expr} {xa xb : Str} {pa pb pt p pos gpos : Pos} {kt : Nat} {scope : Scope} {te : TE} {k : Nat}
    (hr : Room k X.A) (hg : Gl X "any") (hm : X.mg "any" = none) (TB : TabB X.base X.mg c P) (hcode : X.env.code = .ref c) (S : GenS2 X.env scope xa xb) (hi : PE X iter te)
    (hs : ∀ v, genFold iter X.env v = pure v)
    (he : starEach [.GeneratorExp elt [⟨.Tuple [.Name xa pa, .Name xb pb] kt pt, iter, [], 0⟩] scope gpos] X.env = (false, eval (.GeneratorExp elt [⟨.Tuple [.Name xa pa, .Name xb pb] kt pt, iter, [], 0⟩] scope gpos) X.env) :: starEach [] X.env := by rfl) :
    PE X (.Call (.Name "any" p) [.GeneratorExp elt [⟨.Tuple [.Name xa pa, .Name xb pb] kt pt, iter, [], 0⟩] scope gpos] [] pos) (tAny2 X.K X scope xa xb elt P te) := by
  refine ⟨fun pins s σ H Q I h => ?_⟩
  refine wpAny_Call_Name_kw (ld_blt I hg hm boot_any ?_)
  refine PyProof.Rows.callWith_builtin1 ?_ he (by rfl)
  rw [he]
  show wpAny _ _ (spliced ((false, eval (.GeneratorExp elt [⟨.Tuple [.Name xa pa, .Name xb pb] kt pt, iter, [], 0⟩] scope gpos) X.env) :: backTo pos (starEach [] X.env))) _ _ s
  refine Calls.spliced_cons (gen_pairs (R := fun n bs H1 => ∀ H2, Tabbed P H1 H2 → Q (.bl ((List.range n).any bs)) H2) hr TB hcode S hi hs I h fun n bs H1 g s5 hR hG => ?_)
  obtain ⟨fp, wr, G, F, St, W, hst, htr, hI⟩ := hG
  refine Calls.spliced_nil ?_
  refine call_any_walkS (W.self 0 _ _ _ hst ⟨g, fp, wr, G, _, F, St, _, rfl, W, hst, htr, fun s' hmv => ?_⟩)
  obtain ⟨H2, hT, J⟩ := hI s' hmv
  exact ⟨.bl _, H2, J, rfl, hR H2 hT⟩
end
end Pd
set_option Elab.async false
set_option linter.all false
set_option maxRecDepth 100000
set_option maxHeartbeats 2000000
/-! Pd12: any(test for x, y in e) by data. -/
namespace Pd
open PySem PySem.Spec PyProof.Rows L2 GxR
/-- a table has grown -/
theorem EnvR.tabbed {K : PySem.W.Frag} {Tb : List Addr} {E : Ent Tb} {B H H2 : Hp} {σ : L2.St} {ρ : Rho} {α : Nat → List Addr} {τ : Tau} {P : Addr} (e : EnvR K E B H σ ρ α τ) {ps : Array Value} (hP : H P = some (.tbl ps)) (hT : Tabbed P H H2) : EnvR K E B H2 σ ρ α τ := by
  obtain ⟨⟨ps2, h1, h2⟩, hk⟩ := hT
  have nS : ∀ j, ∀ l ∈ α j, l ≠ P := fun j l hl z => e.ntS j l hl ps (by rw [z]; exact hP)
  have nT : ∀ l ∈ addrs τ, l ≠ P := fun l hl z => e.ntT l hl ps (by rw [z]; exact hP)
  have hB : B P = none := e.tabB hP
  refine ⟨fun p o q => ?_, e.b0, e.nb, ⟨fun p o q k1 k2 => ?_, fun p qs q => ?_, fun p qs q => ?_, e.fr.t0, e.fr.tg⟩, fun p hp => ?_, e.rt, e.br, fun j => ?_, fun t ht => ?_, e.nd, e.dj, e.nt, e.dt, e.ho, e.hb, e.ht, e.ln⟩
  · rw [hk p fun z => by rw [z, hB] at q; cases q]
    exact e.bh p o q
  · have q2 := e.fr.fr p o q k1 k2
    rw [hk p fun z => by rw [z, hP] at q2; exact k2 ps (Option.some.inj q2).symm]
    exact q2
  · obtain ⟨qs', k1, k2⟩ := e.fr.tk p qs q
    by_cases z : p = P
    · exact ⟨ps2, by rw [z]; exact h1, fun _ => h2⟩
    · exact ⟨qs', by rw [hk p z]; exact k1, k2⟩
  · by_cases z : p = P
    · exact e.fr.tn p ps (by rw [z]; exact hP)
    · exact e.fr.tn p qs (by rw [← hk p z]; exact q)
  · by_cases z : p = P
    · rw [z, h1]
      intro y
      cases y
    · rw [hk p z]
      exact e.wr p hp
  · exact (e.sl j).frame (Same.refl _) (fun l hl => hk l (nS j l hl)) fun l hl => (e.liveS j l hl).2
  · exact (e.tm t ht).frame (Same.refl _) (fun l hl => hk l (nT l (mem_addrs ht hl))) fun l hl => (e.liveT l (mem_addrs ht hl)).2
/-- the element's judgement -/
def ElM (X : Cx) (scope : Scope) (xa xb : Str) (elt : Expr) (el : D → D → Rho → Option Bool) : Prop := ∀ (Tb : List Addr) (E : Ent Tb) (B H : Hp) (σ : L2.St) (ρ : Rho) (α : Nat → List Addr) (τ : Tau) (P : Addr) (ps : Array Value), EnvR X.K E B H σ ρ α τ → H P = some (.tbl ps) →
  ∀ (n : Nat) (pr : Nat → V × V) (ds : Nat → D × D) (bs : Nat → Bool), (∀ j, j < n → Rep X.K H (ds j).1 (pr j).1 ∧ Rep X.K H (ds j).2 (pr j).2) → (∀ j, j < n → el (ds j).1 (ds j).2 ρ = some (bs j)) → EltG X scope xa xb elt P σ H n pr bs
def fElIn (neg : Bool) (i : Nat) : D → D → Rho → Option Bool := fun d _ ρ => match ρ[i]? with
  | some (.own (.val (.tup es))) => when (flD d = true ∧ es.all flD = true) (some (if neg = true then !inD d es else inD d es))
  | _ => none
theorem fElIn_some {neg : Bool} {i : Nat} {d d' : D} {ρ : Rho} {b : Bool} (h : fElIn neg i d d' ρ = some b) : ∃ es, ρ[i]? = some (.own (.val (.tup es))) ∧ flD d = true ∧ es.all flD = true ∧ b = (if neg = true then !inD d es else inD d es) := by
  unfold fElIn at h
  split at h
  · rename_i es hs
    obtain ⟨⟨h1, h2⟩, h3⟩ := when_some h
    exact ⟨es, hs, h1, h2, (Option.some.inj h3).symm⟩
  · cases h
theorem el_in {X : Cx} {scope : Scope} {xa xb y : Str} {p1 p2 p3 : Pos} (neg : Bool) (i : Nat) (hN : X.N[i]? = some y) (hy : X.env.scope.names.lookup y = some .cell) (hk : scope.kind = .function) (hla : scope.names.lookup xa = some .local) (hlf : scope.names.lookup y = some .free)
    (hclo : (cloFrom X.env.cells scope.names []).lookup y = some ((X.env.cells.lookup y).getD 0)) (hd : (xa == ("__debug__" : Str)) = false := by decide) (hd2 : (y == ("__debug__" : Str)) = false := by decide) (hcd : (y == ("__classdict__" : Str)) = false := by decide) :
    ElM X scope xa xb (.Compare (.Name xa p1) [if neg = true then .NotIn else .In] [.Name y p2] p3) (fElIn neg i) := by
  intro Tb E B H σ ρ α τ P ps e hP n pr ds bs hr hb pins s1 I cenv A' E' j va vb s₂ m₂ hj hs hc hg ra rb hn hma hmb hkeep
  obtain ⟨es, h1, h2, h3, h4⟩ := fElIn_some (hb j hj)
  have Sl := e.sl i
  rw [h1] at Sl
  obtain ⟨v, hv, _, hrep⟩ := Sl
  obtain ⟨a, vs, h5, h6, h7⟩ := hrep
  obtain ⟨m, hns, hl⟩ := I.loc
  obtain ⟨u, ru, lk⟩ := hl i y v hN hv (.inr (.inl hy))
  have hPs : s1.heap.get? P = some { cls := .none, data := .fields ps } := I.hok P _ hP
  subst h5
  cases ru
  rcases lk with ⟨z, _⟩ | ⟨_, c, hc1, hc2⟩
  · rw [show X.env.kindOf y = X.env.scope.names.lookup y from rfl, hy] at z
    cases z
  obtain ⟨oc, ho, hoc⟩ := hc2
  have cP : c ≠ P := fun z => by
    rw [z, hPs] at ho
    cases ho
    cases hoc
  have cell2 : s₂.heap.IsCell c (some (.ref a)) := ⟨oc, hkeep c oc ho cP, hoc⟩
  obtain ⟨its, rv, pt, _⟩ := I.tuple (sqT_same e.bh h6)
  have pt2 : s₂.heap.IsTuple a its.toArray := by
    obtain ⟨o, eo, eo2, eo3⟩ := id pt
    have aP : a ≠ P := fun z => by
      rw [z, hPs] at eo
      cases eo
      cases eo2
    exact ⟨o, hkeep a o eo aP, eo2, eo3⟩
  have rd := (hr j hj).1
  have fv : flatV (pr j).1 = true := flD_v rd h2
  have h7' : Reps X.K H es vs := h7.mono e.bh
  have fs : vs.all flatV = true := flDs_v h7' h3
  have en : inV (pr j).1 vs = inD (ds j).1 es := inV_py rd h2 h7' h3
  have eany : its.toArray.any (eqU (pr j).1) = inD (ds j).1 es := by rw [show its.toArray.any (eqU (pr j).1) = its.any (eqU (pr j).1) by simp, any_eqU rv fs]; exact en
  have hbs : (X.env.cells.lookup y).getD 0 = c := by rw [hc1]; rfl
  refine wpAny_Compare1 ?_ (by cases neg <;> with_unfolding_all rfl)
  refine wpAny_Name (wpAny_loadName_local (by rw [hs]; exact hk) (show cenv.scope.names.lookup xa = some .local by rw [hs]; exact hla) hn hma ?_) hd
  refine wpAny_Name (wpAny_loadName_free (by rw [hs]; exact hk) (show cenv.scope.names.lookup y = some .free by rw [hs]; exact hlf) (show cenv.cells.lookup y = some c by rw [hc, hclo, hbs]) cell2 ?_ hcd) hd2
  cases neg with
  | true => exact SeqAt.notIn_tupleAt (eqU (pr j).1) pt2 (fun w hw => mem_eqAt ra fv rv fs w (by simpa using hw)) ⟨by rw [eany, h4]; rfl, keepsR _⟩
  | false => exact SeqAt.in_tupleAt (eqU (pr j).1) pt2 (fun w hw => mem_eqAt ra fv rv fs w (by simpa using hw)) ⟨by rw [eany, h4]; rfl, keepsR _⟩
/-- pairs -/
def pairD : D → Option (D × D)
  | .tup [a, b] => some (a, b)
  | _ => none
def pairsD : List D → Option (List (D × D))
  | [] => some []
  | d :: ds => (pairD d).bind fun p => (pairsD ds).map fun ps => p :: ps
def elsB (el : D → D → Rho → Option Bool) (ρ : Rho) : List (D × D) → Option (List Bool)
  | [] => some []
  | p :: ps => (el p.1 p.2 ρ).bind fun b => (elsB el ρ ps).map fun bs => b :: bs
theorem pairsD_get : ∀ {ds : List D} {ps : List (D × D)}, pairsD ds = some ps → ps.length = ds.length ∧ ∀ (j : Nat) (p : D × D), ps[j]? = some p → ds[j]? = some (.tup [p.1, p.2])
  | [], _, h => by cases h; exact ⟨rfl, fun j p q => by simp at q⟩
  | d :: ds, ps, h => by
    obtain ⟨p, h1, h2⟩ := Option.bind_eq_some_iff.mp h
    obtain ⟨qs, h3, h4⟩ := Option.map_eq_some_iff.mp h2
    subst h4
    obtain ⟨k1, k2⟩ := pairsD_get h3
    refine ⟨by rw [List.length_cons, List.length_cons, k1], fun j q hq => ?_⟩
    cases j with
    | zero =>
      have e : p = q := by simpa using hq
      subst e
      unfold pairD at h1
      split at h1
      · cases h1; rfl
      · cases h1
    | succ j => simpa using k2 j q (by simpa using hq)
theorem elsB_get {el : D → D → Rho → Option Bool} {ρ : Rho} : ∀ {ps : List (D × D)} {bs : List Bool}, elsB el ρ ps = some bs → bs.length = ps.length ∧ ∀ (j : Nat) (p : D × D), ps[j]? = some p → ∃ b, bs[j]? = some b ∧ el p.1 p.2 ρ = some b
  | [], _, h => by cases h; exact ⟨rfl, fun j p q => by simp at q⟩
  | p :: ps, bs, h => by
    obtain ⟨b, h1, h2⟩ := Option.bind_eq_some_iff.mp h
    obtain ⟨cs, h3, h4⟩ := Option.map_eq_some_iff.mp h2
    subst h4
    obtain ⟨k1, k2⟩ := elsB_get h3
    refine ⟨by rw [List.length_cons, List.length_cons, k1], fun j q hq => ?_⟩
    cases j with
    | zero =>
      have e : p = q := by simpa using hq
      subst e
      exact ⟨b, rfl, h1⟩
    | succ j => simpa using k2 j q (by simpa using hq)
def fAny2 (el : D → D → Rho → Option Bool) (t : Tm) (ρ : Rho) : Option Tm := (fItems t ρ).bind fun ds => (pairsD ds).bind fun ps => (elsB el ρ ps).map fun bs => .v (.bl (bs.any id))
def mAny2 (el : D → D → Rho → Option Bool) (m : M Tm) : M Tm := (mFz m).bind fun t => lift (fAny2 el t)
theorem range_getD : ∀ bs : List Bool, (List.range bs.length).any (fun j => bs.getD j false) = bs.any id := any_range
theorem e_any2 {X : Cx} {W : WX} {cv : Cv} {P : Addr} {c : Addr} {elt iter : Expr} {xa xb : Str} {pa pb pt p pos gpos : Pos} {kt : Nat} {scope : Scope} {m : M Tm} {el : D → D → Rho → Option Bool} {k : Nat} (hel : ElM X scope xa xb elt el)
    (hr : Room k X.A) (hg : Gl X "any") (hm : X.mg "any" = none) (TB : TabB X.base X.mg c P) (hcode : X.env.code = .ref c) (S : GenS2 X.env scope xa xb) (hP : P ∈ cv.tb) (hi : DE X W cv iter m)
    (hs : ∀ v, genFold iter X.env v = pure v := by intro _; rfl)
    (he : starEach [.GeneratorExp elt [⟨.Tuple [.Name xa pa, .Name xb pb] kt pt, iter, [], 0⟩] scope gpos] X.env = (false, eval (.GeneratorExp elt [⟨.Tuple [.Name xa pa, .Name xb pb] kt pt, iter, [], 0⟩] scope gpos) X.env) :: starEach [] X.env := by rfl) :
    DE X W cv (.Call (.Name "any" p) [.GeneratorExp elt [⟨.Tuple [.Name xa pa, .Name xb pb] kt pt, iter, [], 0⟩] scope gpos] [] pos) (mAny2 el m) := by
  obtain ⟨te, h1, h2⟩ := hi
  refine ⟨_, pe_any2 hr hg hm TB hcode S h1 hs he, fun E B H σ ρ α τ Q e q => ?_⟩
  refine ev_fz h2 E B H σ ρ α τ _ e ?_
  refine Post.imp (Post.bind q) (fun t ρ1 z v as B1 H1 α1 e1 => ?_) fun c ρ' z => z
  obtain ⟨u, k1, k2⟩ := Post.lift z
  obtain ⟨ds, g1, k1⟩ := Option.bind_eq_some_iff.mp k1
  obtain ⟨qs, g2, k1⟩ := Option.bind_eq_some_iff.mp k1
  obtain ⟨bs, g3, g4⟩ := Option.map_eq_some_iff.mp k1
  subst g4
  cases t with
  | pk i => cases g1
  | rv r =>
    cases r with
    | own _ => cases g1
    | tup _ => cases g1
    | val d =>
      have rp : Rep X.K B1 d v := e1.topV List.mem_cons_self
      obtain ⟨t, a, vs, r1, r2, r3⟩ := rep_sq rp g1
      obtain ⟨l1, p1⟩ := pairsD_get g2
      obtain ⟨l2, p2⟩ := elsB_get g3
      have lv : ds.length = vs.length := r3.length
      -- the pairs
      have at_ : ∀ j, j < vs.length → ∃ (T : Addr) (x y : V) (pd : D × D), vs[j]? = some (.ref T) ∧ SqT X.K H1 T [x, y] ∧ qs[j]? = some pd ∧ Rep X.K H1 pd.1 x ∧ Rep X.K H1 pd.2 y := fun j hj => by
        have hq : qs[j]? = some (qs[j]'(by omega)) := List.getElem?_eq_getElem _
        obtain ⟨w, w1, w2⟩ := r3.get (p1 j _ hq)
        obtain ⟨T, us, w3, w4, w5⟩ := w2
        obtain ⟨x, r, w6, w7, w8⟩ := w5
        obtain ⟨y, r', w9, w10, w11⟩ := w8
        have e0 : r' = [] := w11
        subst w3 w6 w9 e0
        exact ⟨T, x, y, _, w1, sqT_same e1.bh w4, hq, w7.mono e1.bh, w10.mono e1.bh⟩
      have pick : ∃ (pr : Nat → V × V), ∀ j, j < vs.length → ∃ (T : Addr) (pd : D × D), vs[j]? = some (.ref T) ∧ SqT X.K H1 T [(pr j).1, (pr j).2] ∧ qs[j]? = some pd ∧ Rep X.K H1 pd.1 (pr j).1 ∧ Rep X.K H1 pd.2 (pr j).2 := by
        refine ⟨fun j => if hj : j < vs.length then ((at_ j hj).choose_spec.choose, (at_ j hj).choose_spec.choose_spec.choose) else (.non, .non), fun j hj => ?_⟩
        simp only [dif_pos hj]
        exact ⟨_, (at_ j hj).choose_spec.choose_spec.choose_spec.choose, (at_ j hj).choose_spec.choose_spec.choose_spec.choose_spec⟩
      obtain ⟨pr, hpr⟩ := pick
      obtain ⟨ps, t1, t2⟩ := e1.tab hP
      refine ⟨t, a, vs, pr, fun j => bs.getD j false, r1, sqK_same e1.bh r2, fun j hj => ?_, ⟨ps, t1, t2⟩, ?_, fun H2 hT => ?_⟩
      · obtain ⟨T, pd, w1, w2, _⟩ := hpr j hj
        exact ⟨T, w1, w2⟩
      · refine hel cv.tb E B1 H1 σ ρ1 α1 _ P ps e1 t1 vs.length pr (fun j => qs.getD j (.non, .non)) _ (fun j hj => ?_) (fun j hj => ?_)
        · obtain ⟨T, pd, _, _, w3, w4, w5⟩ := hpr j hj
          have ed : qs.getD j (.non, .non) = pd := by rw [List.getD_eq_getElem?_getD, w3]; rfl
          simp only [ed]
          exact ⟨w4, w5⟩
        · obtain ⟨T, pd, _, _, w3, _, _⟩ := hpr j hj
          obtain ⟨b, b1, b2⟩ := p2 j pd w3
          have ed : qs.getD j (.non, .non) = pd := by rw [List.getD_eq_getElem?_getD, w3]; rfl
          simp only [ed]
          rw [b2, List.getD_eq_getElem?_getD, b1]
          rfl
      · have e2 : EnvR X.K E B1 H2 σ ρ1 α1 τ := EnvR.tabbed e1.pop t1 hT
        have lb : vs.length = bs.length := by omega
        rw [lb, range_getD]
        exact k2 _ [] B1 H2 α1 (e2.push rfl)
end Pd
set_option Elab.async false
set_option linter.all false
set_option maxRecDepth 100000
set_option maxHeartbeats 2000000
/-! Pd13: a def by its body, in its own context. -/
namespace Pd
open PySem PySem.Spec PyProof.Rows L2
theorem takesN {X : Cx} : L2N.Takes X (fun _ _ _ _ => False) := fun _ _ x => by
  obtain ⟨_, _, _, _, _, _, _, _, _, _, _, _, _, _, _, _, z⟩ := x
  exact z.elim
/-- the context of a def's body -/
abbrev cxD (P : Program) (w : World) (K : PySem.W.Frag) (mg : Str → Option Value) (base : Heap) (N : List Str) (qual : Str) (st : Stmt) (f : Addr) (cdv : Value) (A : Around) (outer : List Env) (s : Shared) (H : Hp) (E : XK) : Cx := cxOf (L2N.CX P w) P w K mg base N qual (defScope st) f cdv A outer s H E
abbrev WD (E : XK) : WX := fun cls d _ H => E cls d H
section
variable {P : Program} {w : World} {K : PySem.W.Frag} {mg : Str → Option Value} {base : Heap} {x qual : Str} {st : Stmt} {f c : Addr} {fd : FuncData} {N ps : List Str} {k : Nat} {cv : Cv} {m : M Fl}
theorem body_run (hl' : ps.length ≤ N.length) {cdv : Value} {A : Around} {outer : List Env} {s : Shared} {H : Hp} {vs : List V} {Q : VK} {E : XK} (h : spF K cv ps.length (runDef N.length ps.length m) vs H Q E) (hb : DSs (cxD P w K mg base N qual st f cdv A outer s H E) (WD E) cv (defBody st) m) :
    ∃ t, PSs (cxD P w K mg base N qual st f cdv A outer s H E) (defBody st) t ∧ t { nx := fun _ H' => Q .non H', rt := Q } (L2.start N vs) H := by
  obtain ⟨En, args, α, B, hl, h0, hb0, e, q⟩ := h
  obtain ⟨t, h1, h2⟩ := hb
  refine ⟨t, h1, ?_⟩
  have es := e.ext (k := N.length - ps.length)
  have est : L2.start N vs = vs.map some ++ List.replicate (N.length - ps.length) none := by unfold L2.start; rw [hl]
  rw [est]
  refine h2 En B H _ _ α _ es ?_
  unfold runDef at q
  generalize m (args ++ List.replicate (N.length - ps.length) .any) = R at q ⊢
  cases R with
  | bad => exact q
  | err c ρ' => exact fun σ' B' H' α' e' => q B' H' _ (EnvR.leave (n := 0) e e' noPk_nil)
  | ok fl ρ' =>
    cases fl with
    | nx => exact fun σ' B' H' α' e' => q .non [] B' H' _ (EnvR.leave (n := 0) e (e'.push (show Rep K B' .non .non from rfl)) (fun t ht => by
        have e : t = (.non, .rv (.val .non), []) := by simpa using ht
        rw [e]; rfl))
    | rt r => exact fun v as σ' B' H' α' e' => q v as B' H' _ (EnvR.leave (n := 0) e e' (fun t ht => by
        have e : t = (v, .rv r, as) := by simpa using ht
        rw [e]; rfl))
    | bk => exact q.elim
    | ct => exact q.elim
theorem sp_len {vs : List V} {H : Hp} {Q : VK} {E : XK} {n : Nat} {F : M Rv} (h : spF K cv n F vs H Q E) : vs.length = n := by
  obtain ⟨En, args, α, B, hl, _⟩ := h
  exact hl
theorem def_okC (F : Fun K x qual st f fd) (S : FnScope N ps (defScope st)) (hps : ps.length ≤ N.length)
    (hbody : ∀ (cdv : Value) (A : Around) (outer : List Env) (s : Shared) (H : Hp) (E : XK), Room k (cxD P w K mg base N qual st f cdv A outer s H E).A → L2N.Takes (cxD P w K mg base N qual st f cdv A outer s H E) (WD E) →
      PassesOwn (model P w) (cxD P w K mg base N qual st f cdv A outer s H E).A (cxD P w K mg base N qual st f cdv A outer s H E).env (cxD P w K mg base N qual st f cdv A outer s H E).xe → DSs (cxD P w K mg base N qual st f cdv A outer s H E) (WD E) cv (defBody st) m) :
    FnOk P w K mg base (L2N.CX P w) (k + 1) f fd ps (spF K cv ps.length (runDef N.length ps.length m)) :=
  by
  obtain ⟨oc, od, kV, doc, pm, an, cdv, ct, osl, rfl, lk, hcd⟩ := F.ex
  exact fn_of lk hcd S (fun vs H Q E h => sp_len h) fun A outer s H vs Q E hr h => body_run hps h (hbody cdv A outer s H E hr (L2N.takes_of rfl rfl rfl rfl) (passes_of rfl))
/-- a def whose code object stands at c -/
structure FunC (K : PySem.W.Frag) (x qual : Str) (st : Stmt) (f : Addr) (fd : FuncData) (c : Addr) : Prop where
  ex : ∃ (oc : Value) (od : Option Addr) (kV doc pm : Value) (an : Option Addr) (ct : Value) (osl : Array (Option Value)),
    fd = PySem.W.fnOf x qual (defArgs st) (defBody st) (defScope st) .none kV doc pm an (.ref c) ct ∧ K.lookup f = some ⟨oc, od, .func fd, osl⟩ ∧ PySem.W.codeIn K (.ref c) qual = true
  kp : PySem.W.keepIn K (.ref f) = true
theorem FunC.toFun (F : FunC K x qual st f fd c) : Fun K x qual st f fd := by
  obtain ⟨oc, od, kV, doc, pm, an, ct, osl, h1, h2, h3⟩ := F.ex
  exact ⟨⟨oc, od, kV, doc, pm, an, .ref c, ct, osl, h1, h2, h3⟩, F.kp⟩
theorem def_okG (F : FunC K x qual st f fd c) (S : FnScope N ps (defScope st)) (hps : ps.length ≤ N.length)
    (hbody : ∀ (A : Around) (outer : List Env) (s : Shared) (H : Hp) (E : XK), Room k (cxD P w K mg base N qual st f (.ref c) A outer s H E).A → L2N.Takes (cxD P w K mg base N qual st f (.ref c) A outer s H E) (WD E) →
      PassesOwn (model P w) (cxD P w K mg base N qual st f (.ref c) A outer s H E).A (cxD P w K mg base N qual st f (.ref c) A outer s H E).env (cxD P w K mg base N qual st f (.ref c) A outer s H E).xe → DSs (cxD P w K mg base N qual st f (.ref c) A outer s H E) (WD E) cv (defBody st) m) :
    FnOk P w K mg base (L2N.CX P w) (k + 1) f fd ps (spF K cv ps.length (runDef N.length ps.length m)) := by
  obtain ⟨oc, od, kV, doc, pm, an, ct, osl, rfl, lk, hcd⟩ := F.ex
  exact fn_of lk hcd S (fun vs H Q E h => sp_len h) fun A outer s H vs Q E hr h => body_run hps h (hbody A outer s H E hr (L2N.takes_of rfl rfl rfl rfl) (passes_of rfl))
end
def fiAdd : Tm → Tm → Rho → Option Tm := fI0 fun i j => .int (i + j)
def fiSub : Tm → Tm → Rho → Option Tm := fI0 fun i j => .int (i - j)
theorem om_iAdd {K : PySem.W.Frag} : OpM K (ipI fun i j => i + j) fiAdd := om_Ii0
theorem om_iSub {K : PySem.W.Frag} : OpM K (ipI fun i j => i - j) fiSub := om_Ii0
/-- the names that a generator takes from its def have their cells -/
theorem gen_free {qual : Str} {st : Stmt} {n f : Addr} {cd : Value} {scope : Scope} (h : (scope.names.all fun y => (match y.2 with | .free => false | _ => true) || (match (defScope st).names.lookup y.1 with | some .cell => true | _ => false)) = true) :
    ∀ y ∈ scope.names, y.2 = .free → ∃ c, (envOfC qual (defScope st) n f cd).cells.lookup y.1 = some c := fun y hy e => by
  have q := List.all_eq_true.mp h y hy
  rw [e] at q
  have q2 : (defScope st).names.lookup y.1 = some .cell := by
    cases z : (defScope st).names.lookup y.1 with
    | none => simp [z] at q
    | some k => cases k <;> simp [z] at q ⊢
  exact Option.isSome_iff_exists.mp (PySem.W.cellsFrom_some _ _ _ (.inl q2))
end Pd
set_option Elab.async false
set_option linter.all false
set_option maxRecDepth 100000
set_option maxHeartbeats 2000000
/-! Pd14: walks and unpacking where an exception is being handled. -/
namespace Pd
open PySem PySem.Spec PyProof.Rows L2 HotX L2H
section
variable {prog : Program} {w : World} {A : Around} {E : Value → Shared → Prop} {s : Shared}
/-- a StopIteration can be raised: nothing is handled, or what is handled stands unchained -/
def StopOk (A : Around) (h : Heap) : Prop := A.handled = none ∨ ∃ xh, HotAt A xh h
theorem endHot_list {jt la xh : Addr} {i : Nat} {items : Array Value} {Q : Option Value → Shared → Prop} (hot : HotAt A xh s.heap) (hjt : s.heap.IsListIter jt la i) (hla : s.heap.IsList la items) (hnone : items[i]? = none)
    (hQ : ∀ h', Heap.ExtBut jt s.heap h' → Q none { s with heap := h' }) : wpAny (model prog w) A (pyNext (.ref jt)) Q E s := by
  obtain ⟨oj, hoj, hcj, hdj⟩ := id hjt
  obtain ⟨ol, hol, _, nl, hdl⟩ := hla
  obtain ⟨hh, oh, vh, eh, dh, ch⟩ := hot
  have jne : xh ≠ jt := fun z => by
    rw [z, hoj] at eh
    cases eh
    rw [hdj] at dh
    cases dh
    simp at ch
  unfold pyNext
  refine wpAny_bind (wpAny_attempt (wpAny_callSpecial?_slot (name := Str.ofString "__next__") hjt.typeIs slot_listiter_next
    (wpAny_call_entry slot_listiter_next hjt.typeIs entry_listiter_next ?_ (args_listiter_next _))))
  show wpAny _ _ (field (.ref jt) 0 >>= _) _ _ s
  refine wpAny_bind (wpAny_field hoj hdj (x := .ref la) rfl ?_)
  show wpAny _ _ (if (Value.ref la == Value.none) = true then _ else _) _ _ s
  rw [if_neg (show ¬ ((Value.ref la == Value.none) = true) from Bool.false_ne_true)]
  show wpAny _ _ (field (.ref jt) 1 >>= _) _ _ s
  refine wpAny_bind (wpAny_field hoj hdj (x := .int i 0) rfl ?_)
  show wpAny _ _ (seqItems? (.ref la) >>= _) _ _ s
  refine wpAny_bind (wpAny_seqItems hol hdl ?_)
  simp only [Int.toNat_natCast, hnone]
  refine wpAny_bind (wpAny_rule (wpAny_bind (wpAny_setField hoj hdj (by simp) ?_)))
  show wpAny _ _ (newExc (.type "StopIteration") [] >>= _) _ _ _
  refine wpAny_bind ?_
  simp only [newExc, newTuple]
  refine wpAny_bind (wpAny_newObj_type ?_ (by size_fits))
  refine wpAny_bind (m := firstArgMember _ _) (wpAny_of_eq (a := Value.none) (by first | rfl | (simp only [firstArgMember]; rfl)) ?_)
  refine wpAny_newObj_type ?_ (by size_fits)
  have eh2 : (s.heap.update jt (Obj.mapFields (·.setIfInBounds 0 .none))).get? xh = some oh := by rw [Heap.get?_update_other _ _ (Ne.symm jne)]; exact eh
  refine raiseNew_hot ⟨hh, oh, vh, Heap.get?_push_of_some _ (Heap.get?_push_of_some _ eh2), dh, ch⟩ (Nat.ne_of_lt (Heap.lt_size (Heap.get?_push_of_some _ eh2))) (Heap.get?_push_size _ rfl) rfl (by first | (simp; done) | (simp; omega) | (simp only [Array.size_append]; simp; omega)) ?_
  refine wpAny_bind (wpAny_isInstance (T := "StopIteration") (b := true) ⟨_, Heap.get?_update_self _ (Heap.get?_push_size _ rfl) rfl, rfl⟩ isSubtype_stop ?_)
  refine wpAny_pure (hQ _ fun b o hb e => ?_)
  have e2 : (s.heap.update jt (Obj.mapFields (·.setIfInBounds 0 .none))).get? b = some o := by rw [Heap.get?_update_other _ _ (Ne.symm hb)]; exact e
  rw [Heap.get?_update_other _ _ (Nat.ne_of_gt (Heap.lt_size (Heap.get?_push_of_some _ e2)))]
  exact Heap.get?_push_of_some _ (Heap.get?_push_of_some _ e2)
theorem endHot_tuple {jt la xh : Addr} {i : Nat} {items : Array Value} {Q : Option Value → Shared → Prop} (hot : HotAt A xh s.heap) (hjt : s.heap.IsTupleIter jt la i) (hla : s.heap.IsTuple la items) (hnone : items[i]? = none)
    (hQ : ∀ h', Heap.ExtBut jt s.heap h' → Q none { s with heap := h' }) : wpAny (model prog w) A (pyNext (.ref jt)) Q E s := by
  obtain ⟨oj, hoj, hcj, hdj⟩ := id hjt
  obtain ⟨ol, hol, _, nl, hdl⟩ := hla
  obtain ⟨hh, oh, vh, eh, dh, ch⟩ := hot
  have jne : xh ≠ jt := fun z => by
    rw [z, hoj] at eh
    cases eh
    rw [hdj] at dh
    cases dh
    simp at ch
  unfold pyNext
  refine wpAny_bind (wpAny_attempt (wpAny_callSpecial?_slot (name := Str.ofString "__next__") hjt.typeIs F.slot_tuple_iterator_next
    (wpAny_call_entry F.slot_tuple_iterator_next hjt.typeIs F.entry_tuple_iterator_next ?_ (F.args_tuple_iterator_next_1 _))))
  show wpAny _ _ (field (.ref jt) 0 >>= _) _ _ s
  refine wpAny_bind (wpAny_field hoj hdj (x := .ref la) rfl ?_)
  show wpAny _ _ (if (Value.ref la == Value.none) = true then _ else _) _ _ s
  rw [if_neg (show ¬ ((Value.ref la == Value.none) = true) from Bool.false_ne_true)]
  show wpAny _ _ (field (.ref jt) 1 >>= _) _ _ s
  refine wpAny_bind (wpAny_field hoj hdj (x := .int i 0) rfl ?_)
  show wpAny _ _ (seqItems? (.ref la) >>= _) _ _ s
  refine wpAny_bind (wpAny_seqItems hol hdl ?_)
  simp only [Int.toNat_natCast, hnone]
  refine wpAny_bind (wpAny_rule (wpAny_bind (wpAny_setField hoj hdj (by simp) ?_)))
  show wpAny _ _ (newExc (.type "StopIteration") [] >>= _) _ _ _
  refine wpAny_bind ?_
  simp only [newExc, newTuple]
  refine wpAny_bind (wpAny_newObj_type ?_ (by size_fits))
  refine wpAny_bind (m := firstArgMember _ _) (wpAny_of_eq (a := Value.none) (by first | rfl | (simp only [firstArgMember]; rfl)) ?_)
  refine wpAny_newObj_type ?_ (by size_fits)
  have eh2 : (s.heap.update jt (Obj.mapFields (·.setIfInBounds 0 .none))).get? xh = some oh := by rw [Heap.get?_update_other _ _ (Ne.symm jne)]; exact eh
  refine raiseNew_hot ⟨hh, oh, vh, Heap.get?_push_of_some _ (Heap.get?_push_of_some _ eh2), dh, ch⟩ (Nat.ne_of_lt (Heap.lt_size (Heap.get?_push_of_some _ eh2))) (Heap.get?_push_size _ rfl) rfl (by first | (simp; done) | (simp; omega) | (simp only [Array.size_append]; simp; omega)) ?_
  refine wpAny_bind (wpAny_isInstance (T := "StopIteration") (b := true) ⟨_, Heap.get?_update_self _ (Heap.get?_push_size _ rfl) rfl, rfl⟩ isSubtype_stop ?_)
  refine wpAny_pure (hQ _ fun b o hb e => ?_)
  have e2 : (s.heap.update jt (Obj.mapFields (·.setIfInBounds 0 .none))).get? b = some o := by rw [Heap.get?_update_other _ _ (Ne.symm hb)]; exact e
  rw [Heap.get?_update_other _ _ (Nat.ne_of_gt (Heap.lt_size (Heap.get?_push_of_some _ e2)))]
  exact Heap.get?_push_of_some _ (Heap.get?_push_of_some _ e2)
theorem end_W {jt la : Addr} {i : Nat} {t : Bool} {items : Array Value} {Q : Option Value → Shared → Prop} (hs : StopOk A s.heap) (hjt : itK s.heap t jt la i) (hla : hpK s.heap t la items) (hnone : items[i]? = none)
    (hQ : ∀ h', Heap.ExtBut jt s.heap h' → Q none { s with heap := h' }) : wpAny (model prog w) A (pyNext (.ref jt)) Q E s := by
  rcases hs with hh | ⟨xh, hot⟩
  · exact end_K hh hjt hla hnone hQ
  · cases t
    · exact endHot_list hot hjt hla hnone hQ
    · exact endHot_tuple hot hjt hla hnone hQ
/-- a tuple unpacked -/
theorem unpack_W {t : Addr} {items : Array Value} {Q : List Value → Shared → Prop} (hs : ∀ h', (∀ b o, s.heap.get? b = some o → h'.get? b = some o) → StopOk A h') (hla : IsTup s.heap t items)
    (hQ : ∀ h', Heap.ExtBut s.heap.objs.size s.heap h' → Q items.toList { s with heap := h' }) : wpAny (model prog w) A (unpackItems (.ref t) items.size none) Q E s := by
  have hne : t ≠ s.heap.objs.size := by obtain ⟨o, ho, _⟩ := hla; exact Nat.ne_of_lt (Heap.lt_size ho)
  unfold unpackItems
  refine wpAny_bind ?_
  unfold notIterableAtAll
  refine wpAny_bind (wpAny_specialOf hla.typeIs slot_tuple_iter.lookup ?_)
  refine wpAny_pure ?_
  simp only [Bool.false_eq_true, if_false]
  refine wpAny_bind (wpAny_holding (iter_tuple hla ?_))
  refine wpAny_bind (wpAny_holding (draw_tuple hne items.size 0 _ _ ⟨_, Heap.get?_push_size _ rfl, rfl, rfl⟩ (hla.push _) (by omega) fun g₁ jt₁ sb₁ => ?_))
  have whole : List.take items.size (List.drop 0 items.toList) = items.toList := by
    rw [List.drop_zero]; exact List.take_of_length_le (by simp)
  rw [whole]
  rw [if_neg (by simp)]
  have la₁ : IsTup g₁ t items := (hla.push _).extBut sb₁.extBut hne
  have kp : ∀ b o, s.heap.get? b = some o → g₁.get? b = some o := fun b o e => sb₁.extBut b o (Nat.ne_of_lt (Heap.lt_size e)) (Heap.get?_push_of_some _ e)
  refine wpAny_bind (wpAny_holding (end_W (t := true) (hs g₁ kp) jt₁ la₁ (by simp) fun g₂ ex₂ => ?_))
  simp only [Option.isSome_none, Bool.false_eq_true, if_false]
  exact wpAny_pure (hQ g₂ fun b o hb e => ex₂ b o hb (sb₁.extBut b o hb (Heap.get?_push_of_some _ e)))
theorem assign_W {env : Env} {elts : List Expr} {kx : Nat} {pos : Pos} {t : Addr} {items : Array Value} {Q : Unit → Shared → Prop} (hs : ∀ h', (∀ b o, s.heap.get? b = some o → h'.get? b = some o) → StopOk A h') (hla : IsTup s.heap t items)
    (hn : (assignEach elts env).length = items.size) (hstar : (assignEach elts env).findIdx? (·.1) = none)
    (h : ∀ h', Heap.ExtBut s.heap.objs.size s.heap h' → wpAny (model prog w) A (assignInOrder ((assignEach elts env).map (·.2)) items.toList) Q E { s with heap := h' }) :
    wpAny (model prog w) A (assign (.Tuple elts kx pos) env (.ref t)) Q E s := by
  rw [PyProof.Rows.assign_Tuple]
  refine wpAny_bind (wpAny_standAt ?_)
  unfold unpack
  rw [hn, hstar]
  exact wpAny_bind (wpAny_holding (unpack_W hs hla h))
end
/-- nothing is handled, or what is handled is pinned -/
def CalmHot (X : Cx) : Prop := X.calm = true ∨ HotC X
theorem CalmHot.stop {X : Cx} {pins : List (Addr × Obj)} {σ : L2.St} {H : Hp} {s : Shared} (c : CalmHot X) (I : Inv X pins σ H s) : StopOk X.A s.heap := by
  rcases c with hc | hh
  · exact .inl (I.ok.hd hc)
  · exact .inr (hh.at I)
theorem CalmHot.stop' {X : Cx} {pins : List (Addr × Obj)} {σ : L2.St} {H : Hp} {s : Shared} (c : CalmHot X) (I : Inv X pins σ H s) : ∀ h', (∀ b o, s.heap.get? b = some o → h'.get? b = some o) → StopOk X.A h' := fun h' k => by
  rcases c.stop I with hh | ⟨xh, q1, o, vs, q2, q3⟩
  · exact .inl hh
  · exact .inr ⟨xh, q1, o, vs, k _ _ q2, q3⟩
theorem pg_tupW {X : Cx} {pos : Pos} {es : List Expr} {k : Nat} {t : TGs} {n : Nat} (hc : CalmHot X) (h : PGs X es t)
    (hn : (assignEach es X.env).length = n := by rfl) (hst : (assignEach es X.env).findIdx? (·.1) = none := by rfl) : PG X (.Tuple es k pos) (gTup X.K n t) := by
  refine ⟨fun pins s σ H v u Q I r hw => ?_⟩
  obtain ⟨a, xs, z, hq, hl, hw⟩ := hw
  subst z
  cases r
  obtain ⟨its, rv, ht, hz⟩ := I.tuple hq
  refine assign_W (hc.stop' I) ht (by simp [hn, ← hl, rv.length]) hst fun g gx => ?_
  have J : Inv X pins σ H { s with heap := g } := I.kept (t' := s.toks) fun b o e => gx b o (Nat.ne_of_lt (Heap.lt_size e)) e
  exact h.run pins _ σ H xs _ Q J (by simpa using rv) hw
def unpT (t : Tm) (_ : Rho) : Option (List Tm) := match t with
  | .rv (.val (.tup ds)) => some (ds.map .v)
  | _ => none
def mUnpT (n : Nat) (ms : List G) : G := fun t ρ => (unpT t ρ).bind fun ts => when (ts.length = n) (mSets ms ts ρ)
theorem tg_tupW {K : PySem.W.Frag} {gs : TGs} {is : List Nat} {ms : List G} {n : Nat} (h : TgsM K gs is ms) : TgM K (gTup K n gs) is (mUnpT n ms) := fun E B H σ ρ ρ' α τ v t as Q np e q k => by
  obtain ⟨us, hu, q⟩ := Option.bind_eq_some_iff.mp q
  obtain ⟨hl, q⟩ := when_some q
  unfold unpT at hu
  split at hu
  · rename_i ds
    cases hu
    obtain ⟨a, vs, k1, k2, k3⟩ := (show Rep K B (.tup ds) v from e.topV List.mem_cons_self)
    obtain ⟨ts, h1, h2, h3, h4⟩ := push_reps e.pop np k3
    refine ⟨a, vs, k1, sqT_same e.bh k2, by rw [k3.len, ← hl, List.length_map], ?_⟩
    rw [← h1]
    exact h E B H σ ρ ρ' α τ ts Q h3 h4 (by rw [h2]; exact q) k
  · cases hu
theorem g_tupW {X : Cx} {pos : Pos} {es : List Expr} {k : Nat} {is : List Nat} {ms : List G} {n : Nat} (hc : CalmHot X) (h : DGs X es is ms)
    (hn : (assignEach es X.env).length = n := by rfl) (hst : (assignEach es X.env).findIdx? (·.1) = none := by rfl) : DG X (.Tuple es k pos) is (mUnpT n ms) := let ⟨_, h1, h2⟩ := h; ⟨_, pg_tupW hc h1 hn hst, tg_tupW h2⟩
/-! ### what is walked -/
structure TurnW (P : Program) (w : World) (K : PySem.W.Frag) (tg : Expr) (J : It) (fp : List Addr) (it : Addr) (tn : Nat → Heap → Prop) : Prop where
  mem : it ∈ fp
  obj : ∀ i h, tn i h → ∀ b ∈ fp, ∃ o, h.get? b = some o ∧ ∀ v, o.data ≠ .cell v
  keep : ∀ i h h', tn i h → (∀ b ∈ fp, ∀ o, h.get? b = some o → h'.get? b = some o) → tn i h'
  item : ∀ (X : Cx), X.prog = P → X.w = w → X.K = K → CalmHot X → ∀ (i : Nat) (pins : List (Addr × Obj)) (s : Shared) (σ : L2.St) (H : Hp) (E : Value → Shared → Prop), Inv X pins σ H s → (∀ b ∈ fp, FpOk X pins H b) → tn i s.heap → J.go i H →
    wpAny (model P w) X.A (pyNext (.ref it)) (fun r sA => ∃ u, r = some u ∧
      wpAny (model P w) X.A (letOwnedTupleGo tg (.ref it) u) (fun _ sB => ∃ x H', Inv X pins σ H' sB ∧ RelV x u ∧ J.yld i H x H' ∧ tn (i + 1) sB.heap ∧ ∀ b ∈ fp, H' b = none) E sA) E s
  done : ∀ (X : Cx), X.prog = P → X.w = w → X.K = K → CalmHot X → ∀ (i : Nat) (pins : List (Addr × Obj)) (s : Shared) (σ : L2.St) (H : Hp) (E : Value → Shared → Prop), Inv X pins σ H s → (∀ b ∈ fp, FpOk X pins H b) → tn i s.heap → J.stop i H →
    wpAny (model P w) X.A (pyNext (.ref it)) (fun r sA => r = none ∧ Inv X pins σ H sA) E s
  self : ∀ (A : Around) (i : Nat) (s : Shared) (Q : Value → Shared → Prop) (E : Value → Shared → Prop), tn i s.heap → Q (.ref it) s → wpAny (model P w) A (pyIter (.ref it)) Q E s
/-- the items of a list or a tuple at a -/
def ItK (K : PySem.W.Frag) (t : Bool) (a : Addr) : It :=
  ⟨fun i H => ∃ (xs : List V) (x : V), sqK K H t a xs ∧ xs[i]? = some x, fun i H x H' => H' = H ∧ ∀ xs, sqK K H t a xs → xs[i]? = some x, fun i H => ∃ xs : List V, sqK K H t a xs ∧ xs.length ≤ i⟩
theorem letGo_any {M : Model} {A : Around} {E : Value → Shared → Prop} {s : Shared} {tg : Expr} {it l : Addr} {u : Value} {i : Nat} {t : Bool} {Q : Unit → Shared → Prop} (h : itK s.heap t it l i) (hQ : Q () s) : wpAny M A (letOwnedTupleGo tg (.ref it) u) Q E s := by
  cases t
  · obtain ⟨o, e, c, d⟩ := (show s.heap.IsListIter it l i from h)
    exact go_of e c d (by decide) hQ
  · obtain ⟨o, e, c, d⟩ := (show s.heap.IsTupleIter it l i from h)
    exact go_of e c d (by decide) hQ
theorem turnW_seq {P : Program} {w : World} {K : PySem.W.Frag} {tg : Expr} (t : Bool) (a it : Addr) : TurnW P w K tg (ItK K t a) [it] it (fun i h => itK h t it a i) where
  mem := by simp
  obj := fun i h st b hb => by
    have z : b = it := by simpa using hb
    subst z
    exact itK_obj st
  keep := fun i h h' st k => itK_at st fun o e => k it (by simp) o e
  item := by
    intro X hP hw hK hc i pins s σ H E I hf st hg
    subst hP hw hK
    obtain ⟨xs, x, hq, hx⟩ := hg
    obtain ⟨its, rv, p, hz⟩ := invK I hq
    obtain ⟨u, hu, ru⟩ := rv.get hx
    obtain ⟨f0, f1, f2, f3, f4, f5⟩ := hf it (by simp)
    refine next_K st p (x := u) (by simpa using hu) fun g gt sb => ?_
    have J : Inv X pins σ H { s with heap := g } := I.turned (t' := s.toks) (fun b o hb e => (sb.2 b hb).trans e) f0 f1 f3 f4 f5
    exact ⟨u, rfl, letGo_any (s := { s with heap := g }) gt ⟨x, H, J, ru, ⟨rfl, fun ys hy => by rw [injK I hy hq]; exact hx⟩, gt, fun b hb => (hf b hb).1⟩⟩
  done := by
    intro X hP hw hK hc i pins s σ H E I hf st hg
    subst hP hw hK
    obtain ⟨xs, hq, hx⟩ := hg
    obtain ⟨its, rv, p, hz⟩ := invK I hq
    obtain ⟨f0, f1, f2, f3, f4, f5⟩ := hf it (by simp)
    have hl := rv.length
    exact end_W (hc.stop I) st p (by simp; omega) fun g ge => ⟨rfl, I.turned (t' := s.toks) (fun b o hb e => ge b o hb e) f0 f1 f3 f4 f5⟩
  self := fun _ _ _ _ _ st h => self_K st h
def PIEW (X : Cx) (pins : List (Addr × Obj)) (σ : L2.St) (tg : Expr) (R : It → Hp → Prop) (itv : Value) (sB : Shared) : Prop :=
  ∃ (it : Addr) (fp : List Addr) (tn : Nat → Heap → Prop) (J : It) (H' : Hp), itv = .ref it ∧ Inv X pins σ H' sB ∧ TurnW X.prog X.w X.K tg J fp it tn ∧ tn 0 sB.heap ∧ (∀ b ∈ fp, FpOk X pins H' b) ∧ R J H'
structure PIW (X : Cx) (tg iter : Expr) (wi : TI) : Prop where
  run : ∀ (pins : List (Addr × Obj)) (s : Shared) (σ : L2.St) (H : Hp) (R : It → Hp → Prop), Inv X pins σ H s → wi σ H R →
    wpAny (model X.prog X.w) X.A (eval iter X.env) (fun v sA => wpAny (model X.prog X.w) X.A (pyIter v) (PIEW X pins σ tg R) X.xe sA) X.xe s
theorem pi_seqW {X : Cx} {tg l : Expr} {tl : TE} (hl : PE X l tl) : PIW X tg l (fun σ H R => tl σ H fun x HA => ∃ t a xs, x = .ref a ∧ sqK X.K HA t a xs ∧ R (ItK X.K t a) HA) := by
  refine ⟨fun pins s σ H R I h => ?_⟩
  refine thn (hl.run pins s σ H _ I h) fun v sA ⟨x, HA, IA, rA, t, a, xs, z, hq, q⟩ => ?_
  subst z
  cases rA
  obtain ⟨its, rv, p, hz⟩ := invK IA hq
  refine (beginsK t a its.toArray).iter _ _ _ _ _ _ p ?_
  have hfr : (obK t a).isFreed = false := by cases t <;> rfl
  refine ⟨sA.heap.objs.size, [sA.heap.objs.size], _, _, HA, rfl, IA.kept (t' := sA.toks) fun b o e => Heap.get?_push_of_some _ e, turnW_seq t a _, itK_new (Heap.get?_push_size _ hfr), fun b hb => ?_, q⟩
  have z : b = sA.heap.objs.size := by simpa using hb
  subst z
  exact IA.fpOk (Nat.le_refl _) (IA.hok.fresh (Nat.le_refl _))
theorem walkD_K {K : PySem.W.Frag} {B : Hp} {t : Bool} {a : Addr} {vs : List V} {ds : List D} (h : sqK K B t a vs) (r : Reps K B ds vs) : WalkD K B (ItK K t a) ds := by
  refine ⟨YAt vs, ⟨fun i H hi q => ?_, fun H q => ⟨vs, sqK_same q h, by rw [r.length]; exact Nat.le_refl _⟩, fun i H x H' _ q y => ⟨y.1, y.2 vs (sqK_same q h)⟩⟩, fun i H x H' hi s y => ?_⟩
  · rw [r.length] at hi
    exact ⟨vs, vs[i], sqK_same q h, by simp [hi]⟩
  · obtain ⟨d, h1, h2⟩ := r.getV y.2
    exact ⟨d, h1, .inl ⟨y.1, h2⟩⟩
def DIW (X : Cx) (W : WX) (cv : Cv) (tg e : Expr) (m : M (List D)) : Prop := ∃ wi, PIW X tg e wi ∧ ItM X.K W cv wi m
theorem i_seqW {X : Cx} {W : WX} {cv : Cv} {tg e : Expr} {m : M Tm} (h : DE X W cv e m) : DIW X W cv tg e (mSeqIt m) := by
  obtain ⟨t, h1, h2⟩ := h
  refine ⟨_, pi_seqW h1, fun E B H σ ρ α τ R e q => ?_⟩
  refine ev_fz h2 E B H σ ρ α τ _ e ?_
  refine Post.imp (Post.bind q) (fun t ρ1 z v as B1 H1 α1 e1 => ?_) fun c ρ' z => z
  obtain ⟨ds, k1, k2⟩ := Post.lift z
  cases t with
  | pk i => cases k1
  | rv r =>
    cases r with
    | own _ => cases k1
    | tup _ => cases k1
    | val d =>
      have rp : Rep X.K B1 d v := e1.topV List.mem_cons_self
      obtain ⟨t, a, vs, r1, r2, r3⟩ := rep_sq rp k1
      exact ⟨t, a, vs, r1, sqK_same e1.bh r2, k2 _ B1 H1 α1 e1.pop (walkD_K r2 r3)⟩
end Pd
set_option Elab.async false
set_option linter.all false
set_option maxRecDepth 100000
set_option maxHeartbeats 2000000
/-! Pd15: list comprehensions where an exception is being handled. -/
namespace Pd
open PySem PySem.Spec PyProof.Rows L2 HotX L2H
/-- a block that keeps what its def pins -/
abbrev blkP (X : Cx) (s : Shared) (H : Hp) (scope : Scope) (cenv : Env) (fp : List Addr) : Cx := { X.blk s H scope cenv fp with pn := X.pn }
theorem Inv.addP {X : Cx} {sO : Shared} {HO' : Hp} {scope : Scope} {cenv : Env} {fp : List Addr} {σ : L2.St} {H : Hp} {s : Shared} (I : Inv (X.blk sO HO' scope cenv fp) [] σ H s)
    (hp : ∀ p ∈ X.pn, s.heap.get? p.1 = some p.2 ∧ H p.1 = none ∧ p.1 ≠ cenv.locals ∧ p.1 ∉ frs X.stack ∧ ∀ v, p.2.data ≠ .cell v) : Inv (blkP X sO HO' scope cenv fp) [] σ H s :=
  ⟨⟨I.ok.mod, I.ok.kind, I.ok.glob, I.ok.blt, I.ok.above, I.ok.inj, I.ok.has, I.ok.cab, I.ok.hd, I.ok.frames, I.ok.stk, I.ok.exf, I.ok.bs, I.ok.bsz, I.ok.noex, I.ok.exfs, I.ok.funs, I.ok.frf⟩,
    I.os, I.bare, I.base, I.loc, I.cell, I.free, I.freeC, fun p h => hp p (by simpa using h), I.hok, I.len⟩
theorem CalmHot.blk {X : Cx} {sO : Shared} {HO' : Hp} {scope : Scope} {cenv : Env} {fp : List Addr} (c : CalmHot X) : CalmHot (blkP X sO HO' scope cenv fp) := c
section
variable {X : Cx}
theorem lc_coreW {pins : List (Addr × Obj)} {s : Shared} {σ : L2.St} {H : Hp} {Q : VK} {elt tg iter : Expr} {ifs : List Expr} {scope : Scope} {own : List (Str × Nat)} {pos pos' : Pos} {wi : TI} {g : TG} {tt : TT} {te : TE} {use : Option (Value → Sem Unit)} {Qf : Value → Shared → Prop}
    (hc : CalmHot X) (hN : X.N.Nodup) (I : Inv X pins σ H s) (hi : PIW X tg iter wi) (ok : BlkOk X.N X.env.scope scope own)
    (hg : ∀ (s : Shared) (H : Hp) (C : Addr) (cl : List (Str × Addr)) (fp : List Addr), PG (blkP X s H scope (compEnvC scope cl C X.env) fp) tg g) (ht : ∀ (s : Shared) (H : Hp) (C : Addr) (cl : List (Str × Addr)) (fp : List Addr), PTs (blkP X s H scope (compEnvC scope cl C X.env) fp) ifs tt)
    (he : ∀ (s : Shared) (H : Hp) (C : Addr) (cl : List (Str × Addr)) (fp : List Addr), PE (blkP X s H scope (compEnvC scope cl C X.env) fp) elt te) (hs : ∀ x, foldedSetIterable iter X.env x = pure x)
    (h : tLc wi g tt te (own.map (·.2)) σ H Q)
    (hRR : ∀ D C s' m H', Inv X pins σ H' s' → Q (.ref D) H' → s'.heap.Ns C m → FpOk X pins H' C → compPost (model X.prog X.w) X.A X.xe use Qf (.ref D) C (.ok .next) s') :
    wpAny (model X.prog X.w) X.A (comprehension (.ListComp elt [⟨tg, iter, ifs, 0⟩] scope pos) scope X.env pos' (newList []) false (eval iter X.env) use) Qf X.xe s := by
  have hfr : ∀ y ∈ scope.names, y.2 = .free → ∃ c, X.env.cells.lookup y.1 = some c := fun y hy e => by
    rcases ok.free y hy e with k | k
    · exact I.ok.has _ (.inl k)
    · exact I.ok.has _ (.inr k)
  refine wpAny_comprehension_free (use := use) rfl hs (closure_ok hfr) ok.kind (fun y hy e => by rw [ok.uniq y hy, e])
    (thn (hi.run pins s σ H _ I h) fun xv sA hx => thn hx fun itv sB hB => ?_)
  obtain ⟨it, fp, tn, J, HB, e, IB, T, stB, fB, q⟩ := hB
  subst e
  refine wpAny_newObj_type (newEnv_comp ?_) (by show 0 ≤ sizeLine; decide)
  generalize hD : sB.heap.objs.size = D
  have hDn : HB D = none := IB.hok.fresh (Nat.le_of_eq hD)
  obtain ⟨W, ⟨m0, w0⟩, turn⟩ := q D hDn
  generalize hsC : ({ sB with heap := sB.heap.push { cls := .type "list", data := .seq ([] : List Value).toArray } } : Shared) = sC
  have IC : Inv X pins σ (L2.upd HB D (.lst [])) sC := by
    rw [← hsC]
    refine IB.laid (t' := sB.toks) (fun b o e => Heap.get?_push_of_some _ e) (Nat.le_of_eq hD) ⟨Nat.zero_le _, [], 0, .nil, ?_⟩
    rw [← hD]
    exact Heap.get?_push_size _ rfl
  have hC : sC.heap = sB.heap.push { cls := .type "list", data := .seq ([] : List Value).toArray } := by rw [← hsC]
  have szB : ∀ b ∈ fp, b < sB.heap.objs.size := fun b hb => by
    obtain ⟨o, e, _⟩ := T.obj _ _ stB b hb
    exact Heap.lt_size e
  have fC : ∀ b ∈ fp, FpOk X pins (L2.upd HB D (.lst [])) b ∧ b < sC.heap.objs.size := fun b hb => by
    have hlt := szB b hb
    refine ⟨⟨?_, (fB b hb).2⟩, by rw [hC, Heap.size_push]; exact Nat.lt_succ_of_lt hlt⟩
    rw [upd_ne (by rw [← hD]; exact Nat.ne_of_lt hlt)]
    exact (fB b hb).1
  have stC : tn 0 sC.heap := T.keep _ _ _ stB fun b _ o e => by rw [hC]; exact Heap.get?_push_of_some _ e
  have ID0 := block_start IC ok hN fC
  have ID := Inv.addP ID0 (fun p hp => by
    obtain ⟨k1, k2, k3, k4, k5⟩ := IC.pin p (List.mem_append_left _ hp)
    exact ⟨pushCells_keeps _ _ _ _ (Heap.get?_push_of_some _ k1), k2, Nat.ne_of_lt (Heap.lt_size k1), fun hm => (List.mem_cons.mp (IC.stkSub p.1 hm)).elim k3 k4, k5⟩)
  have pg := hg sC (L2.upd HB D (.lst [])) sC.heap.objs.size (cellsFrom (sC.heap.objs.size + 1) scope.names (cloFrom X.env.cells scope.names [])) fp
  have pt := ht sC (L2.upd HB D (.lst [])) sC.heap.objs.size (cellsFrom (sC.heap.objs.size + 1) scope.names (cloFrom X.env.cells scope.names [])) fp
  have pe := he sC (L2.upd HB D (.lst [])) sC.heap.objs.size (cellsFrom (sC.heap.objs.size + 1) scope.names (cloFrom X.env.cells scope.names [])) fp
  show codeAny _ _ (.compStart (.ListComp elt [⟨tg, iter, ifs, 0⟩] scope pos) 0 (.ref it) (.ref D) (compEnvC scope (cellsFrom (sC.heap.objs.size + 1) scope.names (cloFrom X.env.cells scope.names [])) sC.heap.objs.size X.env)) (compPost (model X.prog X.w) X.A X.xe use Qf (.ref D) sC.heap.objs.size) { sC with heap := pushCells (sC.heap.push { cls := .type "dict", data := .dict #[] }) scope.names }
  have nfp : ∀ b ∈ fp, (L2.upd HB D (.lst [])) b = none := fun b hb => (fC b hb).1.1
  have pnf : ∀ b ∈ fp, ∀ p ∈ X.pn, p.1 ≠ b := fun b hb p hp => (fB b hb).2.2.2.2.2 p (List.mem_append_left _ hp)
  generalize hce : compEnvC scope (cellsFrom (sC.heap.objs.size + 1) scope.names (cloFrom X.env.cells scope.names [])) sC.heap.objs.size X.env = ce at ID0 ID pg pt pe ⊢
  have ceL : ce.locals = sC.heap.objs.size := by subst hce; rfl
  generalize hHC : L2.upd HB D (.lst []) = HC at IC ID0 ID pg pt pe w0 nfp fC
  generalize hsD : ({ sC with heap := pushCells (sC.heap.push { cls := .type "dict", data := .dict #[] }) scope.names } : Shared) = sD at ID0 ID ⊢
  have stD : tn 0 sD.heap := T.keep _ _ _ stC fun b _ o e => by rw [← hsD]; exact pushCells_keeps _ _ _ _ (Heap.get?_push_of_some _ e)
  have stat : ∀ {σ' : L2.St} {H' : Hp} {s' : Shared}, Inv (blkP X sC HC scope ce fp) [] σ' H' s' → (∀ b ∈ fp, H' b = none) → ∀ b ∈ fp, FpOk (blkP X sC HC scope ce fp) [] H' b := fun {σ' H' s'} I' hn b hb =>
    ⟨hn b hb, (I'.ok.exf b hb).1, I'.ok.exfs b hb, .inl hb, fun x c e => (I'.ok.exf b hb).2 x c e, fun p hp => pnf b hb p (by simpa using hp)⟩
  have loop : codeAny (model X.prog X.w) X.A (.compLoop (.ListComp elt [⟨tg, iter, ifs, 0⟩] scope pos) 0 (.ref it) (.ref D) ce) (compPost (model X.prog X.w) X.A X.xe use Qf (.ref D) sC.heap.objs.size) sD := by
    refine compLoop_any (fun n s' => ∃ i H', Inv (blkP X sC HC scope ce fp) [] (wipe σ (own.map (·.2))) H' s' ∧ tn i s'.heap ∧ (∀ b ∈ fp, H' b = none) ∧ W i n H') ?_ m0 ⟨0, HC, ID, stD, nfp, w0⟩
    rintro n sE ⟨i, HE, IE, stE, nE, wE⟩
    rcases turn i n HE wE with ⟨stop, qq⟩ | ⟨go, Nx, hNx, step⟩
    · have td := T.done (blkP X sC HC scope ce fp) rfl rfl rfl hc.blk i [] sE _ HE (fun _ _ => False) IE (stat IE nE) stE stop
      refine thnF td fun r sF ⟨hr, JF⟩ => ?_
      subst hr
      have JG : Inv X pins σ HE sF := IC.call' (ch := fp) JF.os JF.base JF.hok JF.bare fun b hb => ⟨(fC b hb).1.2.2.2.1, (fC b hb).1.2.1, (fC b hb).1.2.2.2.2.1, (fC b hb).1.2.2.2.2.2⟩
      have noC : HE sC.heap.objs.size = none := by
        have z : HE ce.locals = none := JF.free
        rw [ceL] at z
        exact z
      obtain ⟨m, hn, _⟩ := JF.loc
      have hn : sF.heap.Ns ce.locals m := hn
      rw [ceL] at hn
      exact hRR D sC.heap.objs.size sF m HE JG qq hn (IC.fpOk (Nat.le_refl _) noC)
    · have ti := T.item (blkP X sC HC scope ce fp) rfl rfl rfl hc.blk i [] sE _ HE (fun _ _ => False) IE (stat IE nE) stE go
      refine thnF ti fun r sF ⟨u, hr, hF⟩ => ?_
      subst hr
      refine thnF hF fun _ sG ⟨x, HG, JG, rG, yG, stG, nG⟩ => ?_
      have JG' := JG.pinned (stat JG nG) (T.obj _ _ stG)
      refine thnF (pg.run _ sG _ HG x u _ JG' rG (step x HG yG)) fun _ sK ⟨σK, HK, JK, hwK, qK⟩ => ?_
      refine thnF (pt.run _ sK σK HK _ JK qK) fun b sL ⟨HL, JL, qL⟩ => ?_
      have fin : ∀ {s' : Shared} {H' : Hp}, Inv (blkP X sC HC scope ce fp) ([] ++ pinsAt fp sG.heap) σK H' s' → Nx H' → ∃ m, m < n ∧ ∃ i H', Inv (blkP X sC HC scope ce fp) [] (wipe σ (own.map (·.2))) H' s' ∧ tn i s'.heap ∧ (∀ b ∈ fp, H' b = none) ∧ W i m H' := fun {s' H'} I' nx => by
        obtain ⟨m', hm, w'⟩ := hNx H' nx
        have pin' : ∀ b ∈ fp, ∀ o, sG.heap.get? b = some o → s'.heap.get? b = some o ∧ H' b = none := fun b hb o e =>
          let z := I'.pin (b, o) (List.mem_append_right _ (List.mem_append_right _ (mem_pinsAt hb e)))
          ⟨z.1, z.2.1⟩
        have hl : (wipe σ (own.map (·.2))).length = σK.length := by rw [← hwK, wipe_length]
        refine ⟨m', hm, i + 1, H', (I'.unpinned (pins := [])).weak hl (fun j v e => ?_), T.keep _ _ _ stG fun b hb o e => (pin' b hb o e).1, fun b hb => ?_, w'⟩
        · rw [← hwK] at e
          exact (wipe_some e).1
        · obtain ⟨o, e, _⟩ := T.obj _ _ stG b hb
          exact (pin' b hb o e).2
      cases b with
      | false =>
        simp only [Bool.false_eq_true, if_false] at qL ⊢
        exact fin JL qL
      | true =>
        simp only [if_true] at qL ⊢
        refine thnF (pe.run _ sL σK HL _ JL qL) fun z sM ⟨yv, HM, JM, rM, acc, hDM, hzM, nx⟩ => ?_
        exact app_ok (X := blkP X sC HC scope ce fp) JM hDM hzM rM fun sN JN => fin JN nx
  exact codeAny_compStart_list loop (T.self X.A 0 _ _ _ stD loop)
theorem pe_lcW {elt tg iter : Expr} {ifs : List Expr} {scope : Scope} {own : List (Str × Nat)} {pos : Pos} {wi : TI} {g : TG} {tt : TT} {te : TE} (hc : CalmHot X) (hN : X.N.Nodup) (hi : PIW X tg iter wi) (ok : BlkOk X.N X.env.scope scope own)
    (hg : ∀ (s : Shared) (H : Hp) (C : Addr) (cl : List (Str × Addr)) (fp : List Addr), PG (blkP X s H scope (compEnvC scope cl C X.env) fp) tg g) (ht : ∀ (s : Shared) (H : Hp) (C : Addr) (cl : List (Str × Addr)) (fp : List Addr), PTs (blkP X s H scope (compEnvC scope cl C X.env) fp) ifs tt)
    (he : ∀ (s : Shared) (H : Hp) (C : Addr) (cl : List (Str × Addr)) (fp : List Addr), PE (blkP X s H scope (compEnvC scope cl C X.env) fp) elt te) (hs : ∀ x, foldedSetIterable iter X.env x = pure x := by intro _; rfl) :
    PE X (.ListComp elt [⟨tg, iter, ifs, 0⟩] scope pos) (tLc wi g tt te (own.map (·.2))) := by
  refine ⟨fun pins s σ H Q I h => ?_⟩
  rw [eval_ListComp]
  refine lc_coreW hc hN I hi ok hg ht he hs h fun D C s' m H' J q hn f => ⟨m, hn, fun g' sb => ?_⟩
  obtain ⟨f0, f1, f2, f3, f4, f5⟩ := f
  exact ⟨.ref D, H', J.turned (t' := s'.toks) (fun b o hb e => (sb.2 b hb).trans e) f0 f1 f3 f4 f5, rfl, q⟩
end
/-! ### the rule -/
section
variable {X : Cx} {W : WX} {cv : Cv} {pos : Pos}
abbrev BlkIx.cxP (i : BlkIx) (X : Cx) (scope : Scope) : Cx := blkP X i.s i.H scope (compEnvC scope i.cl i.C X.env) i.fp
theorem famP_E {scope : Scope} {e : Expr} {m : M Tm} (h : ∀ i : BlkIx, DE (i.cxP X scope) W cv e m) : ∃ T, (∀ i : BlkIx, PE (i.cxP X scope) e T) ∧ EvM X.K W cv T m := by
  refine ⟨fun σ H Q => ∀ i, (Classical.choose (h i)) σ H Q, fun i => ⟨fun pins s σ H Q I hw => ?_⟩, fun E B H σ ρ α τ Q e q i => ?_⟩
  · exact (Classical.choose_spec (h i)).1.run pins s σ H Q I (hw i)
  · exact (Classical.choose_spec (h i)).2 E B H σ ρ α τ Q e q
theorem famP_T {scope : Scope} {cs : List Expr} {m : M Bool} (h : ∀ i : BlkIx, PTsM (i.cxP X scope) W cv cs m) : ∃ T, (∀ i : BlkIx, PTs (i.cxP X scope) cs T) ∧ TtM X.K W cv T m := by
  refine ⟨fun σ H Q => ∀ i, (Classical.choose (h i)) σ H Q, fun i => ⟨fun pins s σ H Q I hw => ?_⟩, fun E B H σ ρ α τ Q e q i => ?_⟩
  · exact (Classical.choose_spec (h i)).1.run pins s σ H Q I (hw i)
  · exact (Classical.choose_spec (h i)).2 E B H σ ρ α τ Q e q
theorem famP_G {scope : Scope} {tg : Expr} {is : List Nat} {m : G} (h : ∀ i : BlkIx, DG (i.cxP X scope) tg is m) : ∃ T, (∀ i : BlkIx, PG (i.cxP X scope) tg T) ∧ TgM X.K T is m := by
  refine ⟨fun v σ H Q => ∀ i, (Classical.choose (h i)) v σ H Q, fun i => ⟨fun pins s σ H v u Q I r hw => ?_⟩, fun E B H σ ρ ρ' α τ v t as Q np e q k i => ?_⟩
  · exact (Classical.choose_spec (h i)).1.run pins s σ H v u Q I r (hw i)
  · exact (Classical.choose_spec (h i)).2 E B H σ ρ ρ' α τ v t as Q np e q k
theorem e_lcW {elt tg iter : Expr} {ifs : List Expr} {scope : Scope} (own : List (Str × Nat)) {is : List Nat} {it : M (List D)} {mt : G} {c : M Bool} {el : M Tm} (hc : CalmHot X) (hN : X.N.Nodup) (hi : DIW X W cv tg iter it) (ok : BlkOk X.N X.env.scope scope own)
    (hg : ∀ i : BlkIx, DG (i.cxP X scope) tg is mt) (ht : ∀ i : BlkIx, PTsM (i.cxP X scope) W0 cv ifs c) (he : ∀ i : BlkIx, DE (i.cxP X scope) W0 cv elt el) (hsub : ∀ i ∈ is, i ∈ own.map (·.2) := by decide) (hs : ∀ x, foldedSetIterable iter X.env x = pure x := by intro _; rfl) :
    DE X W cv (.ListComp elt [⟨tg, iter, ifs, 0⟩] scope pos) (mLc it mt c el (own.map (·.2))) := by
  obtain ⟨wi, h1, h2⟩ := hi
  obtain ⟨g, h3, h4⟩ := famP_G hg
  obtain ⟨tt, h5, h6⟩ := famP_T ht
  obtain ⟨te, h7, h8⟩ := famP_E he
  exact ⟨_, pe_lcW hc hN h1 ok (fun s H C cl fp => h3 ⟨s, H, C, cl, fp⟩) (fun s H C cl fp => h5 ⟨s, H, C, cl, fp⟩) (fun s H C cl fp => h7 ⟨s, H, C, cl, fp⟩) hs, ev_lc h2 h4 hsub h6 h8⟩
theorem s_setLcW (i : Nat) {y : Str} {py : Pos} {elt tg iter : Expr} {ifs : List Expr} {scope : Scope} (own : List (Str × Nat)) {is : List Nat} {it : M (List D)} {mt : G} {c : M Bool} {el : M Tm} {cpos : Pos} (hc : CalmHot X) (hN : X.N.Nodup) (hi : DIW X W cv tg iter it) (ok : BlkOk X.N X.env.scope scope own)
    (hg : ∀ i : BlkIx, DG (i.cxP X scope) tg is mt) (ht : ∀ i : BlkIx, PTsM (i.cxP X scope) W0 cv ifs c) (he : ∀ i : BlkIx, DE (i.cxP X scope) W0 cv elt el) (hsw : swapsWith (.ListComp elt [⟨tg, iter, ifs, 0⟩] scope cpos) (some (.Name y py)) pos.line X.env = pure true)
    (hy : X.N[i]? = some y := by rfl) (hyl : X.env.scope.names.lookup y = some .local := by rfl) (hsub : ∀ i ∈ is, i ∈ own.map (·.2) := by decide) (hs : ∀ x, foldedSetIterable iter X.env x = pure x := by intro _; rfl) :
    DS X W cv (.Assign [.Name y py] (.ListComp elt [⟨tg, iter, ifs, 0⟩] scope cpos) pos) (mAsg (mLc it mt c el (own.map (·.2))) (mSet i)) := by
  obtain ⟨wi, h1, h2⟩ := hi
  obtain ⟨g, h3, h4⟩ := famP_G hg
  obtain ⟨tt, h5, h6⟩ := famP_T ht
  obtain ⟨te, h7, h8⟩ := famP_E he
  refine ⟨tAsg (tLc wi g tt te (own.map (·.2))) (gName i), ⟨fun pins s σ H D I h => ?_⟩, st_asg (ev_lc (W := W) h2 h4 hsub h6 h8) (tg_name i)⟩
  rw [exec_Assign_Name_used _ _ _ _ hsw]
  refine wpAny_bind (wpAny_standAt (wpAny_bind ?_))
  show wpAny _ X.A (do let _ ← comprehension (.ListComp elt [⟨tg, iter, ifs, 0⟩] scope cpos) scope X.env (firstIterPos [⟨tg, iter, ifs, 0⟩] cpos) (newList []) false (eval iter X.env) (some (assign (.Name y py) X.env))) _ _ s
  have h : tLc wi g tt te (own.map (·.2)) σ H (fun x HA => gName i x σ HA D.nx) := h
  refine wpAny_bind (thn (lc_coreW (Qf := fun _ s' => SP X pins D .next s') hc hN I h1 ok (fun s H C cl fp => h3 ⟨s, H, C, cl, fp⟩) (fun s H C cl fp => h5 ⟨s, H, C, cl, fp⟩) (fun s H C cl fp => h7 ⟨s, H, C, cl, fp⟩) hs h fun L C s' m H' J q hn f => ?_) fun _ s' hq => wpAny_pure (wpAny_pure hq))
  show wpAny _ _ (assign (.Name y py) X.env (.ref L)) _ _ _
  refine wpAny_assign_Name (store_ok2 (v := V.ref L) J hN hy (.inl hyl) rfl (fun sA JA ⟨a, sb, ha⟩ => ?_) (.inr hyl))
  obtain ⟨f0, f1, f2, f3, f4, f5⟩ := f
  have neCa : C ≠ a := by
    rcases ha with z | z
    · rw [z]; exact f1
    · exact fun e => f4 y a z e.symm
  refine ⟨m, hn.sameBut sb neCa, fun gB sbB => ?_⟩
  exact ⟨_, H', JA.turned (t' := sA.toks) (fun b o hb e => (sbB.2 b hb).trans e) f0 f1 f3 f4 f5, q⟩
end
end Pd
set_option Elab.async false
set_option linter.all false
set_option maxRecDepth 100000
set_option maxHeartbeats 2000000
/-! Pd16: try .. except C as e; defs that are called within the suite. -/
namespace Pd
open PySem PySem.Spec PyProof.Rows L2 HotX L2H
def ErrObj (p : Addr × Obj) (cls : Value) : Prop := Zc cls none p.2 ∧ ∃ vs, p.2.data = .fields vs
/-! ### what a def promises there, by the exception that is handled -/
structure FnP (P : Program) (w : World) (K : PySem.W.Frag) (mg : Str → Option Value) (base : Heap) (CX : CXT) (k : Nat) (f : Addr) (fd : FuncData) (ps : List Str) (sp : Addr × Obj → Sp) : Prop where
  len : ∀ p vs H Q E, sp p vs H Q E → vs.length = ps.length
  run : ∀ (A : Around) (outer : List Env) (s : Shared) (H : Hp) (args : Args) (us : List Value) (vs : List V) (Q : VK) (E : XK) (p : Addr × Obj), RoomH k A → Hot1 A p → PinOk outer H s p → Env0 P w K mg base A outer s H → BindsTo s fd args (ps.zip us) → Vals vs us → sp p vs H Q E →
    codeAny (model P w) A (.call (.ref f) args) (CR CX outer P w H s Q E) s
theorem fn_ofP {CX : CXT} {P : Program} {w : World} {K : PySem.W.Frag} {mg : Str → Option Value} {base : Heap} {k : Nat} {f : Addr} {name qual : Str} {params : Arguments} {body : List Stmt} {scope : Scope} {dV kV doc pm cdv ct oc : Value} {an od : Option Addr}
    {osl : Array (Option Value)} {N ps : List Str} {sp : Addr × Obj → Sp} (lk : K.lookup f = some ⟨oc, od, .func (PySem.W.fnOf name qual params body scope dV kV doc pm an cdv ct), osl⟩) (hcd : PySem.W.codeIn K cdv qual = true) (S : FnScope N ps scope)
    (len : ∀ p vs H Q E, sp p vs H Q E → vs.length = ps.length)
    (hbody : ∀ (A : Around) (outer : List Env) (s : Shared) (H : Hp) (vs : List V) (Q : VK) (E : XK) (p : Addr × Obj), Hot1 A p → RoomH k (A.deeper (envOfC qual scope s.heap.objs.size f cdv)) → sp p vs H Q E →
      ∃ t, PSs (cxH CX P w K mg base N qual scope f cdv A outer s H E p) body t ∧ t { nx := fun _ H' => Q .non H', rt := Q } (L2.start N vs) H) :
    FnP P w K mg base CX (k + 1) f (PySem.W.fnOf name qual params body scope dV kV doc pm an cdv ct) ps sp := by
  refine ⟨len, fun A outer s H args us vs Q E p hr hot hpin ee hb r hsp => ?_⟩
  have hl := len _ _ _ _ _ hsp
  have KX : K.In s.heap := ee.mod.kin.keeps fun b o e => (ee.bs b o e).1
  have lim : s.heap.NoLimit := ee.mod.nolimit.keeps fun b o e => (ee.bs b o e).1
  have hkind : ∀ y ∈ ps.zip us, scope.names.lookup y.1 = some .local ∨ (scope.names.lookup y.1 = some .cell ∧ ((cellsFrom (s.heap.objs.size + 1) scope.names []).lookup y.1).isSome = true) := fun ⟨n, v⟩ hy => by
    rcases S.par n (List.of_mem_zip hy).1 with q | q
    · exact .inl q
    · exact .inr ⟨q, PySem.W.cellsFrom_some _ _ _ (.inl q)⟩
  refine codeAny_call_function hr.depth (KX _ _ lk) rfl S.co S.gen rfl (PySem.W.codeRec_of KX hcd) (hb _ _ _ _ ?_)
  refine wpAny_newFunctionEnv_cells S.kind hkind fun env he sA x => ?_
  subst he
  refine ⟨lim.keeps x.toInCall.keep, codeAny_func ?_⟩
  obtain ⟨t, ht, hq⟩ := hbody A outer s H vs Q E p hot (hr.deeper _) hsp
  have J : Inv (cxH CX P w K mg base N qual scope f cdv A outer s H E p) [] (L2.start N vs) H sA := inv_startH S hpin ee hl r x
  refine wpAny_mono (ht.run [] sA (L2.start N vs) H _ J hq) (fun fl sB hs => ?_) fun e sB hs => hs
  have fin : ∀ {σ' : L2.St} {H' : Hp} {v : V} {u : Value}, Inv (cxH CX P w K mg base N qual scope f cdv A outer s H E p) [] σ' H' sB → RelV v u → Q v H' → CE outer P w H s Q u sB :=
    fun {σ' H' v u} J rv q => ⟨v, H', J.os, J.bare, J.base, J.hok, rv, q⟩
  cases fl with
  | ret u =>
    obtain ⟨v, σ', H', J, rv, q⟩ := hs
    exact fin J rv q
  | next =>
    obtain ⟨σ', H', J, q⟩ := hs
    exact fin (v := V.non) (u := Value.none) J rfl q
  | brk =>
    obtain ⟨_, _, _, q⟩ := hs
    exact False.elim q
  | cont =>
    obtain ⟨_, _, _, q⟩ := hs
    exact False.elim q
section
variable {X : Cx} {CX : CXT} {k : Nat} {f C : Addr} {fd : FuncData} {ps : List Str} {sp : Addr × Obj → Sp} {spC : Sp} {EE : L2.St → XK} {x : Str} {q pos : Pos} {e : Expr} {es : List Expr} {t : TA} {p : Addr × Obj}
theorem run_fnP {pins : List (Addr × Obj)} {σ : L2.St} {H : Hp} {s : Shared} {Q : VK} {us : List Value} {vs : List V} (F : FnP X.prog X.w X.K X.mg X.base CX k f fd ps sp) (hr : RoomH k X.A) (hot : Hot1 X.A p) (hp : p ∈ X.pn) (hb : Binds X.K fd ps []) (hx : PassesAt CX X σ (EE σ))
    (I : Inv X pins σ H s) (r : Vals vs us) (h : sp p vs H Q (EE σ)) : wpAny (model X.prog X.w) X.A (call (.ref f) us) (EP X pins σ Q) X.xe s := by
  have hl : us.length = ps.length := by rw [← r.length]; exact F.len _ _ _ _ _ h
  have b := hb s us I.kIn (by rw [List.append_nil]; exact hl)
  rw [List.append_nil] at b
  have PP := I.pin p (List.mem_append_left _ hp)
  have hpin : PinOk X.stack H s p := ⟨PP.1, PP.2.1, fun hm => (List.mem_cons.mp (I.stkSub p.1 hm)).elim PP.2.2.1 PP.2.2.2.1, PP.2.2.2.2⟩
  refine wpAny_call (codeAny_mono (F.run X.A X.stack s H ⟨us, []⟩ us vs Q (EE σ) p hr hot hpin I.env0 b r h) fun r s' hq => ?_)
  cases r with
  | error e => exact hx pins H s e s' I hq
  | ok fl =>
    cases fl with
    | ret u => exact I.after hq
    | next => exact False.elim hq
    | brk => exact False.elim hq
    | cont => exact False.elim hq
theorem pe_callP (F : FnP X.prog X.w X.K X.mg X.base CX k f fd ps sp) (hr : RoomH k X.A) (hot : Hot1 X.A p) (hp : p ∈ X.pn) (hg : Gl X x) (hm : X.mg x = some (.ref f)) (hk : PySem.W.keepIn X.K (.ref f) = true) (hb : Binds X.K fd ps []) (hx : ∀ σ, PassesAt CX X σ (EE σ)) (hsp : ∀ vs H Q E, spC vs H Q E → sp p vs H Q E)
    (ha : PA X (e :: es) t) (hdb : (x == ("__debug__" : Str)) = false := by decide) (he : starEach (e :: es) X.env = (false, eval e X.env) :: starEach es X.env := by rfl) (hpl : (backTo pos (starEach es X.env)).any (·.1) = false := by rfl) :
    PE X (.Call (.Name x q) (e :: es) [] pos) (tCallS spC EE t) := by
  refine ⟨fun pins s σ H Q I h => ?_⟩
  refine wpAny_Call_Name_kw (ld_glob I hg hm ?_ hdb)
  refine PySem.W.callWith_K (h₀ := X.base) I.ok.mod.kin hk (thn (ha.run pos pins s σ H _ I h) fun us sA ⟨vs, HA, JA, r, q⟩ => ⟨JA.kIn, ?_⟩) he hpl
  exact run_fnP F hr hot hp hb (hx σ) JA r (hsp _ _ _ _ q)
end
/-! ### by data -/
def spE (K : PySem.W.Frag) (cv : Cv) (n : Nat) (G : Addr → Str → M Rv) : Addr × Obj → Sp := fun p vs H Q E => ∃ c, ErrObj p (cv.f c) ∧ spF K cv n (G p.1 c) vs H Q E
abbrev cxHD (P : Program) (w : World) (K : PySem.W.Frag) (mg : Str → Option Value) (base : Heap) (N : List Str) (qual : Str) (st : Stmt) (f : Addr) (cdv : Value) (A : Around) (outer : List Env) (s : Shared) (H : Hp) (E : XK) (p : Addr × Obj) : Cx := cxH (L2N.CX P w) P w K mg base N qual (defScope st) f cdv A outer s H E p
section
variable {P : Program} {w : World} {K : PySem.W.Frag} {mg : Str → Option Value} {base : Heap} {x qual : Str} {st : Stmt} {f c : Addr} {fd : FuncData} {N ps : List Str} {k : Nat} {cv : Cv}
theorem body_runX {X : Cx} (hK : X.K = K) {body : List Stmt} {m : M Fl} (hl' : ps.length ≤ N.length) {vs : List V} {H : Hp} {Q : VK} {E : XK} (h : spF K cv ps.length (runDef N.length ps.length m) vs H Q E) (hb : DSs X (WD E) cv body m) :
    ∃ t, PSs X body t ∧ t { nx := fun _ H' => Q .non H', rt := Q } (L2.start N vs) H := by
  subst hK
  obtain ⟨En, args, α, B, hl, h0, hb0, e, q⟩ := h
  obtain ⟨t, h1, h2⟩ := hb
  refine ⟨t, h1, ?_⟩
  have es := e.ext (k := N.length - ps.length)
  have est : L2.start N vs = vs.map some ++ List.replicate (N.length - ps.length) none := by unfold L2.start; rw [hl]
  rw [est]
  refine h2 En B H _ _ α _ es ?_
  unfold runDef at q
  generalize m (args ++ List.replicate (N.length - ps.length) .any) = R at q ⊢
  cases R with
  | bad => exact q
  | err c ρ' => exact fun σ' B' H' α' e' => q B' H' _ (EnvR.leave (n := 0) e e' noPk_nil)
  | ok fl ρ' =>
    cases fl with
    | nx => exact fun σ' B' H' α' e' => q .non [] B' H' _ (EnvR.leave (n := 0) e (e'.push (show Rep X.K B' .non .non from rfl)) (fun t ht => by
        have e : t = (.non, .rv (.val .non), []) := by simpa using ht
        rw [e]; rfl))
    | rt r => exact fun v as σ' B' H' α' e' => q v as B' H' _ (EnvR.leave (n := 0) e e' (fun t ht => by
        have e : t = (v, .rv r, as) := by simpa using ht
        rw [e]; rfl))
    | bk => exact q.elim
    | ct => exact q.elim
/-- THE RULE for a def that is called while an exception is handled -/
theorem def_okH {m : Addr → Str → M Fl} (F : Fun K x qual st f fd) (S : FnScope N ps (defScope st)) (hps : ps.length ≤ N.length)
    (hbody : ∀ (p : Addr × Obj) (c : Str) (cdv : Value) (A : Around) (outer : List Env) (s : Shared) (H : Hp) (E : XK), ErrObj p (cv.f c) → RoomH k (cxHD P w K mg base N qual st f cdv A outer s H E p).A → CalmHot (cxHD P w K mg base N qual st f cdv A outer s H E p) →
      DSs (cxHD P w K mg base N qual st f cdv A outer s H E p) (WD E) cv (defBody st) (m p.1 c)) :
    FnP P w K mg base (L2N.CX P w) (k + 1) f fd ps (spE K cv ps.length fun a c => runDef N.length ps.length (m a c)) := by
  obtain ⟨oc, od, kV, doc, pm, an, cdv, ct, osl, rfl, lk, hcd⟩ := F.ex
  refine fn_ofP lk hcd S (fun p vs H Q E h => ?_) fun A outer s H vs Q E p hot hr h => ?_
  · obtain ⟨c, _, h⟩ := h
    exact sp_len h
  · obtain ⟨c, he, h⟩ := h
    exact body_runX rfl hps h (hbody p c cdv A outer s H E he hr (.inr ⟨p, hot, List.mem_singleton.mpr rfl⟩))
end
section
variable {X : Cx} {W : WX} {cv : Cv} {pos : Pos} {p : Addr × Obj} {c : Str}
theorem e_callH {k k' n : Nat} {f : Addr} {fd : FuncData} {ps : List Str} {G : Addr → Str → M Rv} {x : Str} {pq : Pos} {e : Expr} {es : List Expr} {ms : M (List Tm)} (FO : FnP X.prog X.w X.K X.mg X.base (L2N.CX X.prog X.w) k f fd ps (spE X.K cv n G)) (hr : RoomH k' X.A) (hkk : k ≤ k')
    (hm : X.mg x = some (.ref f)) (hk : PySem.W.keepIn X.K (.ref f) = true) (hb : Binds X.K fd ps []) (tk : L2N.Takes X W) (hot : Hot1 X.A p) (hp : p ∈ X.pn) (ho : ErrObj p (cv.f c)) (hg : Gl X x) (ha : DA X W cv (e :: es) ms)
    (hdb : (x == ("__debug__" : Str)) = false := by decide) (he : starEach (e :: es) X.env = (false, eval e X.env) :: starEach es X.env := by rfl) (hpl : (backTo pos (starEach es X.env)).any (·.1) = false := by rfl) :
    DE X W cv (.Call (.Name x pq) (e :: es) [] pos) (mCall n (G p.1 c) ms) := by
  obtain ⟨t, h1, h2⟩ := ha
  exact ⟨_, pe_callP FO (hr.mono hkk) hot hp hg hm hk hb (L2N.passAt tk) (fun vs H Q E h => ⟨c, ho, h⟩) h1 hdb he hpl, ev_call h2⟩
/-! isinstance(e, C) of what is handled -/
theorem call_isP {a D : Addr} {oe : Obj} (hp : (a, oe) ∈ X.pn) (C : ExcC X.K D) (hz : Zc (.ref D) none oe) (hf : ∃ vs, oe.data = .fields vs) : CallR X (.builtin "isinstance") (rIsE X.K D a) := by
  intro pins s σ H xs us Q I r h
  obtain ⟨c, cw, b, rfl, hcw, e, q⟩ := h
  cases r with
  | cons rx rr =>
    cases rr with
    | cons rt rr =>
      cases rr
      cases rx
      have ec := hcw _ rt
      subst ec
      obtain ⟨hget, _⟩ := I.pin (a, oe) (List.mem_append_left _ hp)
      obtain ⟨vs, hv⟩ := hf
      have J : PySem.W.InstAt s.heap a oe D none := by
        obtain ⟨oc, od, oda, osl⟩ := oe
        obtain ⟨k1, k2⟩ := hz
        dsimp only at k1 k2 hv
        subst k1 k2 hv
        exact ⟨hget, rfl, rfl, trivial⟩
      exact PySem.W.kia_one (PySem.W.handS_kitx_exc C.hg C.hk C.hs C.hd C.ha C.hn C.ht C.hm) I.kIn J e (fun z => nomatch z) fun tk => ⟨.bl b, H, I.kept (t' := tk) fun _ _ z => z, rfl, q⟩
def fIsE (a : Addr) (b : Bool) (t : Tm) (_ : Rho) : Option Tm := match t with
  | .rv (.val (.exc a')) => when (a' = a) (some (.v (.bl b)))
  | _ => none
theorem ev_isE {K : PySem.W.Frag} {D a : Addr} {b : Bool} {v : V} {u : Value} {te : TE} {m : M Tm} (huv : ∀ z, RelV v z → z = u) (hk : PySem.W.kitOne K (.ref D) u = some b) (h : EvM K W cv te m) : EvM K W cv (tCB (rIsE K D a) (tCons te (tCons (tC v) tNil))) (mUn (fIsE a b) m) := fun E B H σ ρ α τ Q e q => by
  refine h E B H σ ρ α τ _ e ?_
  refine Post.imp (Post.bind q) (fun r ρ1 z w as B1 H1 α1 e1 => ?_) fun c ρ' z => z
  obtain ⟨t, k1, k2⟩ := Post.lift z
  unfold fIsE at k1
  split at k1
  · rename_i a'
    obtain ⟨k3, k4⟩ := when_some k1
    cases k4
    subst k3
    have hv : w = .ref a' := e1.topV List.mem_cons_self
    subst hv
    exact ⟨v, u, b, rfl, huv, hk, k2 _ [] B1 H1 α1 (e1.pop.push rfl)⟩
  · cases k1
/-- C an own class -/
theorem e_isEo {a D C' : Addr} {oe : Obj} {b : Bool} {pp p2 : Pos} {tn : Str} {e : Expr} {m : M Tm} (hp : (a, oe) ∈ X.pn) (C : ExcC X.K D) (hz : Zc (.ref D) none oe) (hf : ∃ vs, oe.data = .fields vs) (hk : PySem.W.kitOne X.K (.ref D) (.ref C') = some b)
    (hg : Gl X "isinstance") (hm : X.mg "isinstance" = none) (ht : Gl X tn) (htm : X.mg tn = some (.ref C')) (he : DE X W cv e m) (hdb : (tn == ("__debug__" : Str)) = false := by decide)
    (hst : starEach [e, .Name tn p2] X.env = (false, eval e X.env) :: starEach [.Name tn p2] X.env := by rfl) (hst2 : starEach [.Name tn p2] X.env = (false, eval (.Name tn p2) X.env) :: starEach [] X.env := by rfl) (hpl : (backTo pos (starEach [.Name tn p2] X.env)).any (·.1) = false := by rfl) :
    DE X W cv (.Call (.Name "isinstance" pp) [e, .Name tn p2] [] pos) (mUn (fIsE a b) m) := by
  obtain ⟨t, h1, h2⟩ := he
  exact ⟨_, pe_callB (call_isP hp C hz hf) hg hm boot_isinstance (pa_cons h1 (pa_cons (pe_glob (v := .ref C') ht htm rfl hdb) pa_nil hst2) hst) (by decide) (by decide) hst hpl, ev_isE (fun z r => r) hk h2⟩
/-- C a built-in class -/
theorem e_isEb {a D : Addr} {T : String} {oe : Obj} {b : Bool} {pp p2 : Pos} {tn : Str} {e : Expr} {m : M Tm} (hp : (a, oe) ∈ X.pn) (C : ExcC X.K D) (hz : Zc (.ref D) none oe) (hf : ∃ vs, oe.data = .fields vs) (hk : PySem.W.kitOne X.K (.ref D) (.type T) = some b)
    (hg : Gl X "isinstance") (hm : X.mg "isinstance" = none) (ht : Gl X tn) (htm : X.mg tn = none) (htv : bootBuiltins tn = some (.type T)) (he : DE X W cv e m) (hn : tn ≠ "__name__" := by decide) (hdb : (tn == ("__debug__" : Str)) = false := by decide)
    (hst : starEach [e, .Name tn p2] X.env = (false, eval e X.env) :: starEach [.Name tn p2] X.env := by rfl) (hst2 : starEach [.Name tn p2] X.env = (false, eval (.Name tn p2) X.env) :: starEach [] X.env := by rfl) (hpl : (backTo pos (starEach [.Name tn p2] X.env)).any (·.1) = false := by rfl) :
    DE X W cv (.Call (.Name "isinstance" pp) [e, .Name tn p2] [] pos) (mUn (fIsE a b) m) := by
  obtain ⟨t, h1, h2⟩ := he
  exact ⟨_, pe_callB (call_isP hp C hz hf) hg hm boot_isinstance (pa_cons h1 (pa_cons (pe_bltn (v := .ty T) ht htm htv rfl hn hdb) pa_nil hst2) hst) (by decide) (by decide) hst hpl, ev_isE (fun z r => r) hk h2⟩
end
/-! ### try -/
def setExc (i : Nat) (a : Addr) (ρ : Rho) : Option Rho := match ρ[i]? with
  | some (.bor _) => none
  | some _ => some (ρ.set i (.own (.val (.exc a))))
  | none => none
def unexc (i : Nat) : Res Fl → Res Fl
  | .ok f ρ => .ok f (ρ.set i .any)
  | _ => .bad
def mTry (i : Nat) (ct : Str → Option Bool) (mb : M Fl) (ms : Addr → Str → M Fl) : M Fl := fun ρ => match mb ρ with
  | .err c ρ' => match ct c with
    | some true => match setExc i 0 ρ' with
      | some ρ2 => unexc i (ms 0 c ρ2)
      | none => .bad
    | some false => .err c ρ'
    | none => .bad
  | r => r
theorem setExc_some {i : Nat} {a : Addr} {ρ ρ2 : Rho} (h : setExc i a ρ = some ρ2) : ρ2 = ρ.set i (.own (.val (.exc a))) ∧ i < ρ.length ∧ ∀ s, ρ[i]? = some (.bor s) → False := by
  unfold setExc at h
  cases hs : ρ[i]? with
  | none => rw [hs] at h; cases h
  | some s =>
    rw [hs] at h
    have hl := (List.getElem?_eq_some_iff.mp hs).1
    cases s with
    | bor _ => cases h
    | any => cases h; exact ⟨rfl, hl, fun s z => by cases z⟩
    | own _ => cases h; exact ⟨rfl, hl, fun s z => by cases z⟩
theorem StP.unexc {K : PySem.W.Frag} {cv : Cv} {W : WX} {E : Ent cv.tb} {D : Ends} {i : Nat} (nr : ∀ a, (i, a) ∉ E.roots) {R : Res Fl} (h : Post (Pd.unexc i R) (StP K E D) (GS K W cv E)) :
    Post R (StP K E { nx := fun σ' H' => D.nx (σ'.set i none) H', rt := D.rt, bk := fun σ' H' => D.bk (σ'.set i none) H', ct := fun σ' H' => D.ct (σ'.set i none) H' }) (GS K W0 cv E) := by
  cases R with
  | bad => exact h
  | err c ρ => exact False.elim h
  | ok f ρ =>
    have nb : ∀ {σ' : L2.St} {B' H' : Hp} {α' : Nat → List Addr} {τ : Tau}, EnvR K E B' H' σ' ρ α' τ → ∀ s, ρ[i]? = some (.bor s) → False := fun e s z => by
      obtain ⟨a, ha⟩ := e.br i s z
      exact nr a ha
    cases f with
    | nx => exact fun σ' B' H' α' e => h _ B' H' _ (e.forget noPk_nil (nb e))
    | bk => exact fun σ' B' H' α' e => h _ B' H' _ (e.forget noPk_nil (nb e))
    | ct => exact fun σ' B' H' α' e => h _ B' H' _ (e.forget noPk_nil (nb e))
    | rt r => exact fun v as σ' B' H' α' e => h v as (σ'.set i none) B' H' _ (e.forget (ov := none) (fun t ht => by
        have z : t = (v, .rv r, as) := by simpa using ht
        rw [z]; rfl) (nb e))
section
variable {X : Cx} {W : WX} {cv : Cv} {pos pos' np : Pos} {x n : Str} {i : Nat} {body suite : List Stmt} {b₀ : Stmt}
theorem s_try (i : Nat) {C0 : Value} {ct : Str → Option Bool} {mb : M Fl} {ms : Addr → Str → M Fl} (hs : X.stack = X.env :: X.outer) (hf : X.env.frame = some X.env.locals) (hN : X.N.Nodup) (hi : X.N[i]? = some n) (hln : X.env.kindOf n = some .local) (hc : Names X x C0) (tk : L2N.Takes X W)
    (hct : ∀ c b, ct c = some b → PySem.W.exmOne X.K (cv.f c) C0 = some b) (hind : ∀ (a : Addr) (c : Str) (ρ : Rho), ct c = some true → unexc i (ms a c (ρ.set i (.own (.val (.exc a))))) = unexc i (ms 0 c (ρ.set i (.own (.val (.exc 0))))))
    (hb : ∀ (W' : WX) (pn : List (Addr × Obj)) (xe : Value → Shared → Prop), L2N.Takes (X.tr pn xe) W' → PassesOwn (model X.prog X.w) X.A X.env xe → DSs (X.tr pn xe) W' cv body mb)
    (hsu : ∀ (a : Addr) (oe : Obj) (c : Str) (pn : List (Addr × Obj)), ct c = some true → L2N.Zn (cv.f c) none oe → (∃ vs, oe.data = .fields vs) → DSs (X.suite a ((a, oe) :: pn)) W0 cv (b₀ :: suite) (ms a c)) :
    DS X W cv (.Try body [.ExceptHandler (some (.Name x np)) (some n) (b₀ :: suite) pos'] [] [] pos) (mTry i ct mb ms) := by
  let ts : Addr → Value → Option Addr → TS := fun a cls d D σ H => ∃ c, cls = cv.f c ∧ d = none ∧ ∃ hc : ct c = some true, ∀ (oe : Obj) (pn : List (Addr × Obj)) (hz : L2N.Zn (cv.f c) none oe) (hf : ∃ vs, oe.data = .fields vs), (Classical.choose (hsu a oe c pn hc hz hf)) D σ H
  let tb : WX → TS := fun W' D σ H => ∀ (pn : List (Addr × Obj)) (xe : Value → Shared → Prop) (tk : L2N.Takes (X.tr pn xe) W') (po : PassesOwn (model X.prog X.w) X.A X.env xe), (Classical.choose (hb W' pn xe tk po)) D σ H
  refine ⟨_, L2N.ps_try_as (i := i) (tb := tb) (ts := ts) hs hf hN hi hln hc tk (fun W' pn xe tk' po => ⟨fun pins s σ H D I h => ?_⟩) (fun a oe cls d pn hz hfl => ⟨fun pins s σ H D I h => ?_⟩), fun E B H σ ρ α D e q => ?_⟩
  · exact (Classical.choose_spec (hb W' pn xe tk' po)).1.run pins s σ H D I (h pn xe tk' po)
  · obtain ⟨c, z1, z2, hc', h⟩ := h
    subst z1 z2
    exact (Classical.choose_spec (hsu a oe c pn hc' hz hfl)).1.run pins s σ H D I (h oe pn hz hfl)
  · show tb (wAs X.K C0 i ts W D) D σ H
    intro pn xe tk' po
    refine (Classical.choose_spec (hb (wAs X.K C0 i ts W D) pn xe tk' po)).2 E B H σ ρ α D e ?_
    unfold mTry at q
    cases hm : mb ρ with
    | bad => rw [hm] at q; exact q
    | ok f ρ' => rw [hm] at q; exact q
    | err c ρ' =>
      rw [hm] at q
      intro σ' B' H' α' e'
      simp only at q
      cases hcc : ct c with
      | none => rw [hcc] at q; exact q.elim
      | some b =>
        rw [hcc] at q
        refine ⟨b, hct c b hcc, fun hb1 a ha => ?_, fun hb0 => ?_⟩
        · subst hb1
          simp only at q
          cases hse : setExc i 0 ρ' with
          | none => rw [hse] at q; exact q.elim
          | some ρ2 =>
            rw [hse] at q
            obtain ⟨k1, k2, k3⟩ := setExc_some hse
            have nr : ∀ b, (i, b) ∉ E.roots := fun b hb => by
              obtain ⟨_, r, hr⟩ := e'.rt (i, b) hb
              exact k3 r hr
            have e2 : EnvR X.K E B' H' (σ'.set i (some (.ref a))) (ρ'.set i (.own (.val (.exc a)))) (fun j => if j = i then [] else α' j) [] := EnvR.setSlot noPk_nil (e'.push (show Rep X.K B' (.exc a) (.ref a) from rfl)) k3 k2
            have q2 : Post (Pd.unexc i (ms a c (ρ'.set i (.own (.val (.exc a)))))) (StP X.K E D) (GS X.K W cv E) := by
              rw [hind a c ρ' hcc, ← k1]
              exact q
            refine ⟨c, rfl, rfl, hcc, fun oe pn hz hfl => ?_⟩
            exact (Classical.choose_spec (hsu a oe c pn hcc hz hfl)).2 E B' H' _ _ _ _ e2 (StP.unexc nr q2)
        · subst hb0
          exact q σ' B' H' α' e'
end
/-! ### rules for both rooms -/
def mBad : M Fl := fun _ => .bad
section
variable {X : Cx} {W : WX} {cv : Cv} {k : Nat}
theorem k_eqH (h : RoomH k X.A) : CmpD X .Eq (fEqN false) := ⟨_, op_eqD (by have := h.un; omega), om_eq⟩
theorem k_neH (h : RoomH k X.A) : CmpD X .NotEq (fEqN true) := ⟨_, op_neD (by have := h.un; omega), om_ne⟩
theorem k_inH (h : RoomH k X.A) : CmpD X .In (fIn false) := ⟨_, op_in_seq.or (op_inD (by have := h.un; omega)), OpM.orF om_inT om_inL⟩
theorem k_notInH (h : RoomH k X.A) : CmpD X .NotIn (fIn true) := ⟨_, op_notIn_seq.or (op_notInD (by have := h.un; omega)), OpM.orF om_inT om_notInL⟩
theorem b_bad {ss : List Stmt} : DSs X W cv ss mBad := ⟨fun _ _ _ => False, ⟨fun _ _ _ _ _ _ h => h.elim⟩, fun E B H σ ρ α D e q => q⟩
theorem roomH_suite {a : Addr} {pn : List (Addr × Obj)} (h : Room k X.A) : RoomH k (X.suite a pn).A := ⟨h.dp, h.un⟩
theorem hot_suite {a : Addr} {oe : Obj} {pn : List (Addr × Obj)} {cls : Value} {d : Option Addr} (hz : L2N.Zn cls d oe) (hf : ∃ vs, oe.data = .fields vs) : Hot1 (X.suite a pn).A (a, oe) := by
  obtain ⟨vs, hv⟩ := hf
  exact ⟨rfl, vs, hv, hz.2.2 vs hv⟩
end
end Pd
set_option Elab.async false
set_option linter.all false
set_option maxRecDepth 100000
set_option maxHeartbeats 2000000
/-! Pd22: a tuple that takes what its parts own. -/
namespace Pd
open PySem PySem.Spec PyProof.Rows L2
section
variable {K : PySem.W.Frag} {Tb : List Addr} {E : Ent Tb} {B B' H H' : Hp} {σ : L2.St} {ρ : Rho} {α : Nat → List Addr} {τ : Tau}
theorem EnvR.move {i : Nat} {r : Rv} (e : EnvR K E B H σ ρ α τ) (h : ρ[i]? = some (.own r)) : ∃ v, σ[i]? = some (some v) ∧ EnvR K E B H σ (ρ.set i .any) (fun j => if j = i then [] else α j) ((v, .rv r, α i) :: τ) := by
  have S := e.sl i
  rw [h] at S
  obtain ⟨v, hv, hr⟩ := S
  have hi : i < ρ.length := by
    rcases Nat.lt_or_ge i ρ.length with z | z
    · exact z
    · rw [List.getElem?_eq_none z] at h; cases h
  have ne : ∀ {j : Nat} {s : Sl}, (ρ.set i .any)[j]? = some s → s ≠ .any → j ≠ i ∧ ρ[j]? = some s := fun {j s} q hs => by
    by_cases y : j = i
    · subst y
      rw [List.getElem?_set_self hi] at q
      exact absurd (Option.some.inj q).symm hs
    · rw [List.getElem?_set_ne (Ne.symm y)] at q
      exact ⟨y, q⟩
  refine ⟨v, hv, e.bh, e.b0, e.nb, e.fr, e.wr, fun p hp => ?_, fun j r' q => ?_, fun j => ?_, fun u hu => ?_, fun j => ?_, fun j k hjk l hl => ?_, ?_, fun j l hl => ?_, fun j r' q l hl => ?_, fun j r' q l hl => ?_, fun l hl => ?_, by rw [List.length_set]; exact e.ln⟩
  · obtain ⟨h1, r', h2⟩ := e.rt p hp
    refine ⟨h1, r', ?_⟩
    have y : p.1 ≠ i := fun z => by
      rw [z, h] at h2
      cases h2
    rw [List.getElem?_set_ne (Ne.symm y)]
    exact h2
  · exact e.br j r' (ne q (by intro z; cases z)).2
  · by_cases y : j = i
    · subst y
      rw [List.getElem?_set_self hi, if_pos rfl]
      rfl
    · rw [List.getElem?_set_ne (Ne.symm y), if_neg y]
      exact e.sl j
  · rcases List.mem_cons.mp hu with z | z
    · subst z
      exact hr
    · exact e.tm u z
  · by_cases y : j = i
    · simp [y]
    · simp only [if_neg y]; exact e.nd j
  · by_cases y : j = i
    · simp [y] at hl
    · simp only [if_neg y] at hl
      by_cases y' : k = i
      · simp [y']
      · simp only [if_neg y']; exact e.dj j k hjk l hl
  · exact List.nodup_append.mpr ⟨e.nd i, e.nt, fun a ha b hb z => e.dt i b hb (z ▸ ha)⟩
  · by_cases y : j = i
    · simp [y]
    · simp only [if_neg y]
      rcases List.mem_append.mp hl with z | z
      · exact e.dj i j (Ne.symm y) l z
      · exact e.dt j l z
  · obtain ⟨y, q⟩ := ne q (by intro z; cases z)
    simp only [if_neg y] at hl
    exact e.ho j r' q l hl
  · obtain ⟨y, q⟩ := ne q (by intro z; cases z)
    simp only [if_neg y] at hl
    exact e.hb j r' q l hl
  · rcases List.mem_append.mp hl with z | z
    · exact e.ho i r h l z
    · exact e.ht l z
def rvs? : List Tm → Option (List Rv)
  | [] => some []
  | .rv r :: l => (rvs? l).map (r :: ·)
  | _ :: _ => none
theorem rvs_of : ∀ {ts : Tau} {rs : List Rv}, EnvR K E B H σ ρ α (ts ++ τ) → rvs? (ts.map (·.2.1)) = some rs → RvRs K B H rs (ts.map (·.1)) (addrs ts)
  | [], _, _, h => by
    cases h
    exact ⟨rfl, rfl⟩
  | (v, t, as) :: ts, rs, e, h => by
    cases t with
    | pk i => cases h
    | rv r =>
      obtain ⟨rs', h1, h2⟩ := Option.map_eq_some_iff.mp (show (rvs? (ts.map (·.2.1))).map (r :: ·) = some rs from h)
      subst h2
      exact ⟨v, _, as, _, rfl, rfl, e.tm _ List.mem_cons_self, rvs_of (EnvR.pop e) h1⟩
theorem rvs_len : ∀ {ts : List Tm} {rs : List Rv}, rvs? ts = some rs → rs.length = ts.length
  | [], _, h => by cases h; rfl
  | .pk _ :: _, _, h => by cases h
  | .rv r :: l, rs, h => by
    obtain ⟨rs', h1, h2⟩ := Option.map_eq_some_iff.mp (show (rvs? l).map (r :: ·) = some rs from h)
    subst h2
    simp [rvs_len h1]
end
def fTupM (ts : List Tm) (_ : Rho) : Option Tm := (rvs? ts).bind fun rs => when (rs.length ≤ 1000) (some (.rv (.tup rs)))
abbrev mTupM (ms : M (List Tm)) : M Tm := mCl fTupM ms
theorem addrs_append (ts τ : Tau) : addrs (ts ++ τ) = addrs ts ++ addrs τ := List.flatMap_append
theorem cl_tupM {K : PySem.W.Frag} : ClM K (fun xs H Q => xs.length ≤ sizeLine ∧ ∀ p, H p = none → Q (.ref p) (upd H p (.tup xs))) fTupM := fun E B H σ ρ α τ ts Q t e h q => by
  obtain ⟨rs, z, h⟩ := Option.bind_eq_some_iff.mp h
  obtain ⟨hl, h⟩ := when_some h
  cases h
  have r := rvs_of e z
  have hlen := rvs_len z
  rw [List.length_map] at hlen
  refine ⟨by rw [List.length_map, ← hlen]; exact le_line hl, fun p hp => ?_⟩
  have hb : B p = none := e.bh.free hp
  have hn := e.nt
  rw [addrs_append] at hn
  obtain ⟨n1, n2, n3⟩ := List.nodup_append.mp hn
  have live : ∀ l ∈ addrs ts, H l ≠ none ∧ B l = none := fun l hl => e.liveT l (by rw [addrs_append]; exact List.mem_append_left _ hl)
  have np : ∀ l ∈ addrs ts, l ≠ p := fun l hl y => (live l hl).1 (y ▸ hp)
  have r' : RvRs K B (L2.upd H p (.tup (ts.map (·.1)))) rs (ts.map (·.1)) (addrs ts) := RvRs.frame (Same.refl _) r (fun l hl => L2.upd_ne (np l hl)) fun l hl => (live l hl).2
  refine q _ (p :: addrs ts) B _ α ((e.pops.newH (o := .tup (ts.map (·.1))) hp fun ps z => by cases z).pushNode (r := .tup rs) ⟨p, _, addrs ts, rfl, upd_same, hb, r', rfl⟩ ?_ (fun l hl => ?_) (fun l hl hz => ?_) fun i l hl hz => ?_)
  · exact List.nodup_cons.mpr ⟨fun z => np p z rfl, n1⟩
  · rcases List.mem_cons.mp hl with z | z
    · rw [z]; exact e.new0 hp
    · exact e.ht l (by rw [addrs_append]; exact List.mem_append_left _ z)
  · rcases List.mem_cons.mp hl with z | z
    · subst z
      exact (e.liveT l (by rw [addrs_append]; exact List.mem_append_right _ hz)).1 hp
    · exact n3 l z l hz rfl
  · rcases List.mem_cons.mp hl with z | z
    · subst z
      exact (e.liveS i l hz).1 hp
    · exact e.dt i l (by rw [addrs_append]; exact List.mem_append_left _ z) hz
/-- a name that gives what it owns -/
def mMov (i : Nat) : M Tm := fun ρ => match ρ[i]? with
  | some (.own r) => .ok (.rv r) (ρ.set i .any)
  | _ => .bad
section
variable {X : Cx} {W : WX} {cv : Cv} {pos : Pos}
theorem ev_mov {K : PySem.W.Frag} (i : Nat) : EvM K W cv (tVar i) (mMov i) := fun E B H σ ρ α τ Q e q => by
  unfold mMov at q
  split at q
  · rename_i r h
    obtain ⟨v, h1, h2⟩ := e.move h
    exact ⟨v, h1, q v _ B H _ h2⟩
  · exact q.elim
theorem e_mov (i : Nat) {x : Str} (hN : X.N[i]? = some x := by rfl) (hv : Vis X.env.scope x := by first | exact Or.inl rfl | exact Or.inr (Or.inl rfl) | exact Or.inr (Or.inr rfl)) (hd : (x == ("__debug__" : Str)) = false := by decide) (hcd : (x == ("__classdict__" : Str)) = false := by decide) :
    DE X W cv (.Name x pos) (mMov i) := ⟨_, pe_var hN hv hd hcd, ev_mov i⟩
theorem e_tupM {es : List Expr} {k : Nat} {ms : M (List Tm)} (h : DA X W cv es ms) : DE X W cv (.Tuple es k pos) (mTupM ms) := let ⟨_, h1, h2⟩ := h; ⟨_, pe_tup h1, ev_cl cl_tupM h2⟩
end
end Pd
set_option Elab.async false
set_option linter.all false
set_option maxRecDepth 100000
set_option maxHeartbeats 2000000
/-! Pd17: what a piece of program makes does not hang on a slot it doesn't read. -/
namespace Pd
open PySem PySem.Spec PyProof.Rows L2
def mapR {α : Type} (f : Rho → Rho) : Res α → Res α
  | .ok a ρ => .ok a (f ρ)
  | .err c ρ => .err c (f ρ)
  | .bad => .bad
/-- m neither reads nor writes slot i; what it hands back is P -/
structure Sw {α : Type} (i : Nat) (P : α → Prop) (m : M α) : Prop where
  eq : ∀ (ρ : Rho) (x : Sl), m (ρ.set i x) = mapR (·.set i x) (m (ρ.set i .any))
  p : ∀ ρ a ρ', m ρ = .ok a ρ' → P a
theorem Sw.bind {α β : Type} {i : Nat} {P : α → Prop} {Q : β → Prop} {m : M α} {k : α → M β} (h : Sw i P m) (hk : ∀ a, P a → Sw i Q (k a)) : Sw i Q (m.bind k) := by
  refine ⟨fun ρ x => ?_, fun ρ b ρ' q => ?_⟩
  · unfold M.bind
    have hx := h.eq ρ x
    have ha := h.eq ρ .any
    cases hm : m (ρ.set i .any) with
    | bad => rw [hm] at hx; rw [hx]; rfl
    | err c ρ' => rw [hm] at hx; rw [hx]; rfl
    | ok a ρ' =>
      rw [hm] at hx ha
      have e : ρ' = ρ'.set i .any := by
        have z : Res.ok a ρ' = Res.ok a (ρ'.set i .any) := ha
        exact (Res.ok.inj z).2
      rw [hx]
      show k a (ρ'.set i x) = mapR _ (k a ρ')
      rw [(hk a (h.p _ _ _ hm)).eq ρ' x, ← e]
  · unfold M.bind at q
    cases hm : m ρ with
    | bad => rw [hm] at q; cases q
    | err c ρ' => rw [hm] at q; cases q
    | ok a ρ1 =>
      rw [hm] at q
      exact (hk a (h.p _ _ _ hm)).p _ _ _ q
theorem Sw.pure {α : Type} {i : Nat} {P : α → Prop} {a : α} (h : P a) : Sw i P (M.pure a) := by
  refine ⟨fun ρ x => ?_, fun ρ b ρ' q => ?_⟩
  · show Res.ok a (ρ.set i x) = Res.ok a ((ρ.set i .any).set i x)
    rw [List.set_set]
  · cases q; exact h
theorem Sw.mVar {i j : Nat} (hij : i ≠ j) : Sw i (fun t => ∃ d, t = Tm.v d) (mVar j) := by
  refine ⟨fun ρ x => ?_, fun ρ t ρ' q => ?_⟩
  · unfold Pd.mVar
    rw [List.getElem?_set_ne hij, List.getElem?_set_ne hij]
    cases ρ[j]? with
    | none => rfl
    | some s =>
      cases s with
      | any => rfl
      | bor _ => rfl
      | own r =>
        cases r with
        | val d =>
          show Res.ok _ (ρ.set i x) = Res.ok _ ((ρ.set i .any).set i x)
          rw [List.set_set]
        | own rs =>
          show Res.ok _ ((ρ.set i x).set j _) = Res.ok _ (((ρ.set i .any).set j _).set i x)
          rw [List.set_comm _ _ hij, List.set_comm _ _ hij, List.set_set]
        | tup rs =>
          show Res.ok _ ((ρ.set i x).set j _) = Res.ok _ (((ρ.set i .any).set j _).set i x)
          rw [List.set_comm _ _ hij, List.set_comm _ _ hij, List.set_set]
  · unfold Pd.mVar at q
    split at q
    · cases q; exact ⟨_, rfl⟩
    · cases q; exact ⟨_, rfl⟩
    · cases q
def AllV (ts : List Tm) : Prop := ∃ ds : List D, ts = ds.map Tm.v
theorem Sw.mNil {i : Nat} : Sw i AllV mNil := Sw.pure ⟨[], rfl⟩
theorem Sw.mCons {i : Nat} {m : M Tm} {ms : M (List Tm)} (h : Sw i (fun t => ∃ d, t = Tm.v d) m) (hs : Sw i AllV ms) : Sw i AllV (mCons m ms) :=
  h.bind fun t ht => hs.bind fun ts hts => Sw.pure (by
    obtain ⟨d, rfl⟩ := ht
    obtain ⟨ds, rfl⟩ := hts
    exact ⟨d :: ds, rfl⟩)
theorem args_vals (ρ : Rho) : ∀ ds : List D, args? ρ (ds.map Tm.v) = some (ds.map fun d => .own (.val d))
  | [] => rfl
  | d :: ds => by
    show (argOf ρ (Tm.v d)).bind _ = _
    rw [args_vals ρ ds]
    rfl
theorem nPk_vals : ∀ ds : List D, nPk (ds.map Tm.v) = 0
  | [] => rfl
  | d :: ds => nPk_vals ds
theorem pkAt_vals : ∀ ds : List D, pkAt (ds.map Tm.v) = none
  | [] => rfl
  | d :: ds => by
    show (pkAt (ds.map Tm.v)).map _ = none
    rw [pkAt_vals ds]
    rfl
/-- a call with plain data -/
theorem callF_vals (F : M Rv) (ds : List D) (ρ : Rho) : callF F (ds.map Tm.v) ρ = match F (ds.map fun d => .own (.val d)) with
    | .ok r _ => .ok (.rv r) ρ
    | .err c _ => .err c ρ
    | .bad => .bad := by
  unfold callF
  rw [args_vals]
  simp only [nPk_vals, Nat.zero_le, if_true, pkAt_vals]
  cases F (ds.map fun d => .own (.val d)) <;> rfl
theorem Sw.mCall {i n : Nat} {F : M Rv} {ms : M (List Tm)} (h : Sw i AllV ms) : Sw i (fun _ => True) (mCall n F ms) :=
  h.bind fun ts hts => by
    obtain ⟨ds, rfl⟩ := hts
    refine ⟨fun ρ x => ?_, fun _ _ _ _ => trivial⟩
    by_cases hl : (ds.map Tm.v).length = n
    · simp only [if_pos hl]
      rw [callF_vals, callF_vals]
      cases F (ds.map fun d => .own (.val d)) with
      | ok r ρ' => simp [mapR]
      | err c ρ' => simp [mapR]
      | bad => rfl
    · simp only [if_neg hl]
      rfl
theorem Sw.lBl {i : Nat} {t : Tm} : Sw i (fun _ => True) (lift (fBl t)) := by
  refine ⟨fun ρ x => ?_, fun _ _ _ _ => trivial⟩
  unfold Pd.lift
  rw [show Pd.fBl t (ρ.set i x) = Pd.fBl t (ρ.set i .any) from rfl]
  cases Pd.fBl t (ρ.set i .any) with
  | none => rfl
  | some b => simp [mapR]
theorem Sw.mTru {i : Nat} {P : Tm → Prop} {m : M Tm} (h : Sw i P m) : Sw i (fun _ => True) (mTru Pd.fBl m) := h.bind fun t _ => Sw.lBl
theorem Sw.mNotV {i : Nat} {P : Tm → Prop} {m : M Tm} (h : Sw i P m) : Sw i (fun _ => True) (mNotV m) := (Sw.mTru h).bind fun b _ => Sw.pure trivial
end Pd
set_option Elab.async false
set_option linter.all false
set_option maxRecDepth 100000
set_option maxHeartbeats 2000000
/-! Pd18: the end of a law: its def's denotation at the script. -/
namespace Pd
open PySem PySem.Spec PyProof.Rows L2 LamX
/-- the script as the law's one argument -/
theorem enter_script {K : PySem.W.Frag} {cv : Cv} {F : M Rv} {H : Hp} {a : Addr} {ns : List Int} (hS : SqL K H a (ns.map V.int)) (ht : ∀ p ∈ cv.tb, H p = some (.tbl #[])) (hF : ∃ ρ, F [.own (.val (.fls (ns.map D.int)))] = .ok (.val (.bl true)) ρ) :
    spF K cv 1 F [.ref a] H (fun v _ => v = .bl true) fun _ _ _ => False := by
  obtain ⟨ρe, hF⟩ := hF
  have main : ∀ B : Hp, Same B H → (∀ p ps, H p = some (.tbl ps) → B p = none) → SqL K B a (ns.map V.int) → spF K cv 1 F [.ref a] H (fun v _ => v = .bl true) fun _ _ _ => False := fun B s nt hB => by
    refine ⟨⟨B, H, [], []⟩, [.own (.val (.fls (ns.map D.int)))], fun _ => [], B, rfl, rfl, rfl, ?_, ?_⟩
    · refine ⟨s, Same.refl _, fun p hp => .inl hp, Frm.start nt (fun p hp => ⟨#[], ht p hp, trivial⟩) [], fun p hp => (by cases hp), fun p hp => (by cases hp), fun i r h => ?_, fun i => ?_, fun t ht => (by cases ht), fun i => List.nodup_nil, fun i j _ l hl => (by cases hl), List.nodup_nil, fun i l hl => (by cases hl), fun i r h l hl => (by cases hl), fun i r h l hl => (by cases hl), fun l hl => (by cases hl), rfl⟩
      · cases i with
        | zero => cases h
        | succ i => simp at h
      · cases i with
        | zero => exact ⟨.ref a, rfl, rfl, a, ns.map V.int, rfl, hB, ints_reps ns⟩
        | succ i =>
          show SlR K B H _ (([Sl.own (.val (.fls (ns.map D.int)))] : Rho)[i + 1]?) []
          have z : ([Sl.own (.val (.fls (ns.map D.int)))] : Rho)[i + 1]? = none := by simp
          rw [z]
          rfl
    · rw [hF]
      exact fun v as B' H' α' e => e.topV List.mem_cons_self
  rcases hS with h | h
  · have atA : ∀ o, H a = some o → (if a = a then H a else none) = some o := fun o z => by rw [if_pos rfl]; exact z
    refine main (fun b => if b = a then H a else none) (fun p o q => ?_) (fun p ps q => ?_) (.inl ?_)
    · have q' : (if p = a then H a else none) = some o := q
      by_cases z : p = a
      · rw [if_pos z] at q'
        rw [z]
        exact q'
      · rw [if_neg z] at q'
        cases q'
    · show (if p = a then H a else none) = none
      by_cases z : p = a
      · rw [z] at q
        rcases h with h | ⟨o, h⟩
        · rw [q] at h; cases h
        · rw [q] at h; cases h
      · rw [if_neg z]
    · rcases h with h | ⟨o, h⟩
      · exact .inl (atA _ h)
      · exact .inr ⟨o, atA _ h⟩
  · exact main (fun _ => none) (fun p o q => by cases q) (fun _ _ _ => rfl) (.inr h)
/-- the tables of the defs named in nms are empty at the call -/
theorem walk_ofDefs {l : PySem.W.OpenLaw} {n k : Nat} {q : Program} {loose : List Str} {XP : (Str → Option Value) → Heap → Prop} {YP : World → Heap → Prop} {d : DefRec} {K : Params → PySem.W.Frag} {CX : World → CXT} {x : Str} (nms : List Str)
    (hn : l.most = some n) (hn2 : n ≤ sizeLine) (hdf : d.params.defaults = []) (hr : Room k callerA) (hrec : ∀ nm ∈ nms, ((recsOf q).any fun e => e.name == nm) = true) (hY : ∀ (w : World) (h : Heap), YP w h → (K w.params).In h)
    (F : ∀ (w : World) (mg : Str → Option Value) (fa : Addr) (h : Heap), YP w h → (K w.params).In h → h.Ns mainGlobals mg → mg d.name = some (.ref fa) → (∀ nm ∈ nms, ∀ f, mg nm = some (.ref f) → OwnTab (K w.params) f h) → LawAtS l w (K w.params) (CX w) k n x mg fa h)
    (hCX : ∀ (w : World) (H : Hp) (s : Shared) (e : Value) (s' : Shared), CX w [] H s (fun _ _ _ => False) e s' → False) :
    PySem.W.WalkO q loose XP YP l.row.toRowW d [] (fun f vs => PySem.call f vs) := by
  refine Att.attach_callB hn hdf fun w s₀ s₁ mg mb fa o pm cd doc a vs ns G Y ho hd hcd hmg hobj hints hlen hbits hg => ?_
  have KX := hY w _ Y
  have own : ∀ nm ∈ nms, ∀ f, mg nm = some (.ref f) → OwnTab (K w.params) f s₁.heap := fun nm hnm f hf c P oo ff e dd ws sl k1 k2 k3 k4 k5 => by
    obtain ⟨dL, hm, ha⟩ := List.any_eq_true.mp (hrec nm hnm)
    have hb : dL.name = nm := beq_iff_eq.mp ha
    obtain ⟨a', o', fd', c', P', z1, z2, z3, z4, z5, z6⟩ := G.T.tab dL hm
    rw [hb, hf] at z1
    cases z1
    have y1 := KX _ _ k1
    rw [y1] at z2
    cases z2
    rw [k2] at z3
    cases z3
    rw [k3] at z4
    cases z4
    obtain ⟨⟨oc, vc, e1, _, e3, e4⟩, hP⟩ := z6
    have y2 := KX _ _ k4
    rw [y2] at e1
    cases e1
    cases e3
    rw [k5] at e4
    cases e4
    exact hP
  obtain ⟨fd, cs, sp, hT, nT, C, hb, hsp, hF⟩ := F w mg fa _ Y KX G.T.g hmg own
  exact law_callTs KX G.T.g G.T.b G.T.builtins G.T.nolimit hg hT nT C G.T.bmain hobj hints (Nat.le_trans hlen hn2) hr hF hb (fun H hH hS => hsp H a ns hlen hbits hH hS) fun H e s' => hCX w H s₁ e s'
end Pd
set_option Elab.async false
set_option linter.all false
set_option maxRecDepth 100000
set_option maxHeartbeats 2000000
/-! Pd19: denotations evaluated: comprehensions, loops, calls. -/
namespace Pd
open PySem PySem.Spec PyProof.Rows L2
theorem bind_ok {α β : Type} {m : M α} {k : α → M β} {ρ ρ' : Rho} {a : α} (h : m ρ = .ok a ρ') : (m.bind k) ρ = k a ρ' := by unfold M.bind; rw [h]
theorem bind_err {α β : Type} {m : M α} {k : α → M β} {ρ ρ' : Rho} {c : Str} (h : m ρ = .err c ρ') : (m.bind k) ρ = .err c ρ' := by unfold M.bind; rw [h]
/-! ### comprehensions that leave the slots as they are -/
theorem mLcL_map {α : Type} {tg : G} {c : M Bool} {el : M Tm} {vs : List Nat} (e : α → D) (p : α → Bool) (g : α → D) {ρw : Rho} : ∀ (xs : List α) (acc : List D),
    (∀ x ∈ xs, ∃ ρa ρb, tg (.v (e x)) ρw = some ρa ∧ c ρa = .ok (p x) ρb ∧ (p x = true → ∃ ρc, (mFz el) ρb = .ok (.v (g x)) ρc ∧ fgt vs ρc = some ρw) ∧ (p x = false → fgt vs ρb = some ρw)) →
    mLcL tg c el vs (xs.map e) acc ρw = .ok (acc ++ (xs.filter p).map g) ρw
  | [], acc, _ => by show Res.ok acc ρw = _; simp
  | x :: xs, acc, h => by
    obtain ⟨ρa, ρb, h1, h2, h3, h4⟩ := h x List.mem_cons_self
    have ih := fun acc => mLcL_map e p g xs acc (fun y hy => h y (List.mem_cons_of_mem _ hy))
    rw [List.map_cons]
    unfold mLcL
    rw [bind_ok (show put (tg (.v (e x))) ρw = .ok () ρa from by unfold put; rw [h1]), bind_ok h2]
    cases hp : p x with
    | true =>
      obtain ⟨ρc, h5, h6⟩ := h3 hp
      rw [if_pos rfl, bind_ok h5, bind_ok (show lift (fVal (.v (g x))) ρc = .ok (g x) ρc from rfl), bind_ok (show mFgt vs ρc = .ok () ρw from by unfold mFgt put; rw [h6]), ih]
      rw [List.filter_cons_of_pos hp, List.map_cons, List.append_assoc]
      rfl
    | false =>
      rw [if_neg Bool.false_ne_true, bind_ok (show mFgt vs ρb = .ok () ρw from by unfold mFgt put; rw [h4 hp]), ih]
      rw [List.filter_cons_of_neg (by rw [hp]; exact Bool.false_ne_true)]
theorem mLc_map {α : Type} {it : M (List D)} {tg : G} {c : M Bool} {el : M Tm} {vs : List Nat} (e : α → D) (p : α → Bool) (g : α → D) {xs : List α} {ρ ρ1 ρw : Rho} (hit : it ρ = .ok (xs.map e) ρ1) (hlen : xs.length ≤ 100000) (hw : wipR vs ρ1 = some ρw) (hl : ρw.length = ρ1.length)
    (h : ∀ x ∈ xs, ∃ ρa ρb, tg (.v (e x)) ρw = some ρa ∧ c ρa = .ok (p x) ρb ∧ (p x = true → ∃ ρc, (mFz el) ρb = .ok (.v (g x)) ρc ∧ fgt vs ρc = some ρw) ∧ (p x = false → fgt vs ρb = some ρw)) :
    mLc it tg c el vs ρ = .ok (.o ((xs.filter p).map g)) (Pd.rest ρ1 vs ρw) := by
  have hh := bind_ok (m := it) (k := fun ds => (fun ρ1 => if ds.length ≤ 100000 then match wipR vs ρ1 with
    | none => .bad
    | some ρw => lcEnd ρ1 vs (mLcL tg c el vs ds [] ρw)
    else .bad : M Tm)) hit
  refine Eq.trans (show mLc it tg c el vs ρ = _ from hh) ?_
  simp only [List.length_map, if_pos hlen, hw]
  rw [mLcL_map e p g xs [] h]
  unfold lcEnd
  rw [List.nil_append]
  simp only [if_pos hl]
/-! ### loops -/
theorem mLoop_nil {tg : G} {b : M Fl} {js : List Nat} {ρ ρ0 : Rho} (h : fgt js ρ = some ρ0) : mLoop tg b js [] ρ = .ok .nx ρ0 := by
  unfold mLoop
  rw [bind_ok (show mFgt js ρ = .ok () ρ0 from by unfold mFgt put; rw [h])]
  rfl
theorem mLoop_cons {tg : G} {b : M Fl} {js : List Nat} {d : D} {ds : List D} {ρ ρ0 ρa : Rho} (h : fgt js ρ = some ρ0) (ht : tg (.v d) ρ0 = some ρa) : mLoop tg b js (d :: ds) ρ = match b ρa with
    | .ok .nx ρb => mLoop tg b js ds ρb
    | .ok .ct ρb => mLoop tg b js ds ρb
    | .ok .bk ρb => ((mFgt js).bind fun _ => mNx) ρb
    | .ok (.rt r) ρb => .ok (.rt r) ρb
    | .err c ρb => .err c ρb
    | .bad => .bad := by
  show ((mFgt js).bind fun _ => _) ρ = _
  rw [bind_ok (show mFgt js ρ = .ok () ρ0 from by unfold mFgt put; rw [h]), bind_ok (show put (tg (.v d)) ρ0 = .ok () ρa from by unfold put; rw [ht])]
  show (M.bind b _) ρa = _
  unfold M.bind
  cases b ρa with
  | bad => rfl
  | err c ρb => rfl
  | ok f ρb => cases f <;> rfl
/-- a loop that runs to its end -/
theorem mLoop_fold {α β : Type} {tg : G} {b : M Fl} {js : List Nat} (e : α → D) (S : β → Rho) (step : β → α → β) : ∀ (xs : List α) (z : β) (ρ : Rho), fgt js ρ = some (S z) →
    (∀ (pre : List α) (x : α) (post : List α), xs = pre ++ x :: post → ∃ ρa ρb, tg (.v (e x)) (S (pre.foldl step z)) = some ρa ∧ (b ρa = .ok .nx ρb ∨ b ρa = .ok .ct ρb) ∧ fgt js ρb = some (S ((pre ++ [x]).foldl step z))) →
    mLoop tg b js (xs.map e) ρ = .ok .nx (S (xs.foldl step z))
  | [], z, ρ, h, _ => mLoop_nil h
  | x :: xs, z, ρ, h, hs => by
    obtain ⟨ρa, ρb, h1, h2, h3⟩ := hs [] x xs rfl
    rw [List.map_cons, mLoop_cons h h1]
    have ih := mLoop_fold e S step xs (step z x) ρb h3 (fun pre y post hq => by
      have := hs (x :: pre) y post (by rw [hq]; rfl)
      simpa using this)
    rcases h2 with h2 | h2
    · rw [h2]; exact ih
    · rw [h2]; exact ih
/-! ### equality of typed data -/
theorem eqv_int (a b : Int) : PyData.eqv (.int a) (.int b) = decide (a = b) := by
  by_cases h : a = b <;> simp [PyData.eqv, h]
theorem eqv_str (a b : Str) : PyData.eqv (.str a) (.str b) = decide (a = b) := by
  by_cases h : a = b <;> simp [PyData.eqv, h]
theorem pys_append : ∀ (xs ys : List D), D.pys (xs ++ ys) = D.pys xs ++ D.pys ys
  | [], _ => rfl
  | x :: xs, ys => by show x.py :: D.pys (xs ++ ys) = _; rw [pys_append xs ys]; rfl
/-- encodings whose equality is equality -/
structure Enc (α : Type) [DecidableEq α] where
  e : α → D
  eq : ∀ a b, PyData.eqv (e a).py (e b).py = decide (a = b)
theorem eqvAll_map {α : Type} [DecidableEq α] (E : Enc α) : ∀ xs ys : List α, PyData.eqvAll (D.pys (xs.map E.e)) (D.pys (ys.map E.e)) = decide (xs = ys)
  | [], [] => by simp [D.pys, PyData.eqvAll]
  | [], y :: ys => by simp [D.pys, PyData.eqvAll]
  | x :: xs, [] => by simp [D.pys, PyData.eqvAll]
  | x :: xs, y :: ys => by
    show (PyData.eqv (E.e x).py (E.e y).py && PyData.eqvAll (D.pys (xs.map E.e)) (D.pys (ys.map E.e))) = _
    rw [E.eq, eqvAll_map E xs ys]
    by_cases h1 : x = y <;> by_cases h2 : xs = ys <;> simp [h1, h2]
def encI : Enc Int := ⟨D.int, eqv_int⟩
def encS : Enc Str := ⟨D.str, eqv_str⟩
def Enc.lst {α : Type} [DecidableEq α] (E : Enc α) : Enc (List α) := ⟨fun xs => .lst (xs.map E.e), fun a b => by
  show PyData.eqv (.list _) (.list _) = _
  rw [PyData.eqv]
  exact eqvAll_map E a b⟩
def Enc.tup {α : Type} [DecidableEq α] (E : Enc α) : Enc (List α) := ⟨fun xs => .tup (xs.map E.e), fun a b => by
  show PyData.eqv (.tuple _) (.tuple _) = _
  rw [PyData.eqv]
  exact eqvAll_map E a b⟩
def Enc.pair {α β : Type} [DecidableEq α] [DecidableEq β] (E : Enc α) (F : Enc β) : Enc (α × β) := ⟨fun p => .tup [E.e p.1, F.e p.2], fun a b => by
  show PyData.eqv (.tuple [_, _]) (.tuple [_, _]) = _
  rw [PyData.eqv]
  simp only [PyData.eqvAll, E.eq, F.eq, Bool.and_true]
  by_cases h1 : a.1 = b.1 <;> by_cases h2 : a.2 = b.2 <;> simp [h1, h2, Prod.ext_iff]⟩
def Enc.tri {α β γ : Type} [DecidableEq α] [DecidableEq β] [DecidableEq γ] (E : Enc α) (F : Enc β) (G : Enc γ) : Enc (α × β × γ) := ⟨fun p => .tup [E.e p.1, F.e p.2.1, G.e p.2.2], fun a b => by
  show PyData.eqv (.tuple [_, _, _]) (.tuple [_, _, _]) = _
  rw [PyData.eqv]
  simp only [PyData.eqvAll, E.eq, F.eq, G.eq, Bool.and_true]
  by_cases h1 : a.1 = b.1 <;> by_cases h2 : a.2.1 = b.2.1 <;> by_cases h3 : a.2.2 = b.2.2 <;> simp [h1, h2, h3, Prod.ext_iff]⟩
theorem inD_map {α : Type} [DecidableEq α] (E : Enc α) (x : α) (xs : List α) : inD (E.e x) (xs.map E.e) = decide (x ∈ xs) := by
  unfold inD
  induction xs with
  | nil => simp
  | cons y ys ih =>
    rw [List.map_cons, List.any_cons, ih, E.eq]
    by_cases h : y = x
    · subst h; simp
    · have h' : ¬ x = y := fun z => h z.symm
      simp [h, h']
/-- depth -/
theorem deps_map {α : Type} (f : α → D) (k : Nat) : ∀ xs : List α, (∀ x ∈ xs, (f x).dep ≤ k) → D.deps (xs.map f) ≤ k
  | [], _ => Nat.zero_le _
  | x :: xs, h => by
    show max (f x).dep (D.deps (xs.map f)) ≤ k
    have h1 := h x List.mem_cons_self
    have h2 := deps_map f k xs fun y hy => h y (List.mem_cons_of_mem _ hy)
    omega
theorem ints_map : ∀ ns : List Int, ints? (ns.map D.int) = some ns
  | [] => rfl
  | n :: ns => by show (ints? (ns.map D.int)).map (n :: ·) = _; rw [ints_map ns]; rfl
theorem strs_map : ∀ ns : List Str, strs? (ns.map D.str) = some ns
  | [] => rfl
  | n :: ns => by show (strs? (ns.map D.str)).map (n :: ·) = _; rw [strs_map ns]; rfl
/-! ### places -/
theorem atI_map {α β : Type} (f : α → β) (xs : List α) (i : Int) : L2.atI (xs.map f) i = (L2.atI xs i).map f := by
  unfold L2.atI
  rw [List.length_map]
  cases h : ixN xs.length i with
  | none => rfl
  | some j => simp
theorem atI_nat' {α : Type} {xs : List α} {j : Nat} (h : j < xs.length) : L2.atI xs (j : Int) = some xs[j] := atI_nat (by simp [h])
/-- what a def's result is, whatever becomes of its parameters -/
def Val (F : M Rv) (args : Rho) (r : Rv) : Prop := ∃ ρ, F args = .ok r ρ
def Err (F : M Rv) (args : Rho) (c : Str) : Prop := ∃ ρ, F args = .err c ρ
theorem call_val {F : M Rv} {ds : List D} {r : Rv} (h : Val F (ds.map fun d => .own (.val d)) r) (ρ : Rho) : callF F (ds.map Tm.v) ρ = .ok (.rv r) ρ := by
  obtain ⟨ρ', h⟩ := h
  rw [callF_vals, h]
theorem call_err {F : M Rv} {ds : List D} {c : Str} (h : Err F (ds.map fun d => .own (.val d)) c) (ρ : Rho) : callF F (ds.map Tm.v) ρ = .err c ρ := by
  obtain ⟨ρ', h⟩ := h
  rw [callF_vals, h]
theorem val_run {N n : Nat} {m : M Fl} {args ρ : Rho} {r : Rv} (h : m (args ++ List.replicate (N - n) .any) = .ok (.rt r) ρ) : Val (runDef N n m) args r := ⟨keepA args ρ, by unfold runDef; rw [h]⟩
theorem err_run {N n : Nat} {m : M Fl} {args ρ : Rho} {c : Str} (h : m (args ++ List.replicate (N - n) .any) = .err c ρ) : Err (runDef N n m) args c := ⟨keepA args ρ, by unfold runDef; rw [h]⟩
theorem flat_vals (ds : List D) : flat (ds.map Rv.val) = some ds := flat_map ds
end Pd
set_option Elab.async false
set_option linter.all false
set_option maxRecDepth 100000
set_option maxHeartbeats 2000000
/-! Pd20: big steps, to be used from the goal back. -/
namespace Pd
open PySem PySem.Spec PyProof.Rows L2
variable {ρ ρ1 ρ2 ρ3 ρ4 : Rho}
theorem lift_ok {α : Type} {o : Rho → Option α} {a : α} (h : o ρ = some a) : Pd.lift o ρ = .ok a ρ := by unfold Pd.lift; rw [h]
theorem put_ok {o : Rho → Option Rho} (h : o ρ = some ρ1) : put o ρ = .ok () ρ1 := by unfold put; rw [h]
theorem seq_ok {a b : M Fl} {x : Res Fl} (h : a ρ = .ok .nx ρ1) (k : b ρ1 = x) : mSeq a b ρ = x := (bind_ok h).trans k
theorem seq_rt {a b : M Fl} {r : Rv} (h : a ρ = .ok (.rt r) ρ1) : mSeq a b ρ = .ok (.rt r) ρ1 := bind_ok h
theorem seq_err {a b : M Fl} {c : Str} (h : a ρ = .err c ρ1) : mSeq a b ρ = .err c ρ1 := bind_err h
theorem asg_ok {me : M Tm} {mt : G} {t : Tm} (h : me ρ = .ok t ρ1) (k : mt t ρ1 = some ρ2) : mAsg me mt ρ = .ok .nx ρ2 := (bind_ok h).trans ((bind_ok (put_ok k)).trans rfl)
theorem asg_err {me : M Tm} {mt : G} {c : Str} (h : me ρ = .err c ρ1) : mAsg me mt ρ = .err c ρ1 := bind_err h
theorem ret_ok {m : M Tm} {r : Rv} (h : m ρ = .ok (.rv r) ρ1) : mRet m ρ = .ok (.rt r) ρ1 := (bind_ok h).trans rfl
theorem ret_err {m : M Tm} {c : Str} (h : m ρ = .err c ρ1) : mRet m ρ = .err c ρ1 := bind_err h
theorem if_t {c : M Bool} {a b : M Fl} {x : Res Fl} (h : c ρ = .ok true ρ1) (k : a ρ1 = x) : mIf c a b ρ = x := (bind_ok h).trans k
theorem if_f {c : M Bool} {a b : M Fl} {x : Res Fl} (h : c ρ = .ok false ρ1) (k : b ρ1 = x) : mIf c a b ρ = x := (bind_ok h).trans k
theorem if_d {c : M Bool} {a b : M Fl} {x : Res Fl} {k : Bool} (h : c ρ = .ok k ρ1) (ht : k = true → a ρ1 = x) (hf : k = false → b ρ1 = x) : mIf c a b ρ = x := by
  cases k with
  | true => exact if_t h (ht rfl)
  | false => exact if_f h (hf rfl)
theorem op_ok {f : Tm → Tm → Rho → Option Tm} {ma mb : M Tm} {x y t : Tm} (ha : ma ρ = .ok x ρ1) (hb : mb ρ1 = .ok y ρ2) (h : f x y ρ2 = some t) : mOp f ma mb ρ = .ok t ρ2 := (bind_ok ha).trans ((bind_ok hb).trans (lift_ok h))
theorem un_ok {f : Tm → Rho → Option Tm} {ma : M Tm} {x t : Tm} (ha : ma ρ = .ok x ρ1) (h : f x ρ1 = some t) : mUn f ma ρ = .ok t ρ1 := (bind_ok ha).trans (lift_ok h)
theorem cl_ok {f : List Tm → Rho → Option Tm} {ms : M (List Tm)} {xs : List Tm} {t : Tm} (ha : ms ρ = .ok xs ρ1) (h : f xs ρ1 = some t) : mCl f ms ρ = .ok t ρ1 := (bind_ok ha).trans (lift_ok h)
theorem cons_ok {m : M Tm} {ms : M (List Tm)} {x : Tm} {xs : List Tm} (h : m ρ = .ok x ρ1) (hs : ms ρ1 = .ok xs ρ2) : mCons m ms ρ = .ok (x :: xs) ρ2 := (bind_ok h).trans ((bind_ok hs).trans rfl)
theorem nil_ok : mNil ρ = .ok [] ρ := rfl
theorem fz_v {m : M Tm} {d : D} (h : m ρ = .ok (.v d) ρ1) : mFz m ρ = .ok (.v d) ρ1 := (bind_ok h).trans rfl
theorem fz_rv {m : M Tm} {r : Rv} (h : m ρ = .ok (.rv r) ρ1) : mFz m ρ = .ok (.v r.toD) ρ1 := (bind_ok h).trans rfl
theorem fz_pk {m : M Tm} {i : Nat} {t : Tm} (h : m ρ = .ok (.pk i) ρ1) (k : mVar i ρ1 = .ok t ρ2) : mFz m ρ = .ok t ρ2 := (bind_ok h).trans k
theorem tru_ok {f : Tm → Rho → Option Bool} {m : M Tm} {t : Tm} {b : Bool} (h : m ρ = .ok t ρ1) (k : f t ρ1 = some b) : mTru f m ρ = .ok b ρ1 := (bind_ok h).trans (lift_ok k)
theorem not_ok {a : M Bool} {b : Bool} (h : a ρ = .ok b ρ1) : mNot a ρ = .ok (!b) ρ1 := (bind_ok h).trans rfl
theorem or_t {a b : M Bool} (h : a ρ = .ok true ρ1) : mOr a b ρ = .ok true ρ1 := (bind_ok h).trans rfl
theorem or_f {a b : M Bool} {x : Res Bool} (h : a ρ = .ok false ρ1) (k : b ρ1 = x) : mOr a b ρ = x := (bind_ok h).trans k
theorem and_t {a b : M Bool} {x : Res Bool} (h : a ρ = .ok true ρ1) (k : b ρ1 = x) : mAnd a b ρ = x := (bind_ok h).trans k
theorem and_f {a b : M Bool} (h : a ρ = .ok false ρ1) : mAnd a b ρ = .ok false ρ1 := (bind_ok h).trans rfl
theorem andV_t {a b : M Tm} {x : Res Tm} (h : mTru fBl a ρ = .ok true ρ1) (k : b ρ1 = x) : mAndV a b ρ = x := (bind_ok h).trans k
theorem andV_f {a b : M Tm} (h : mTru fBl a ρ = .ok false ρ1) : mAndV a b ρ = .ok (.v (.bl false)) ρ1 := (bind_ok h).trans rfl
theorem notV_ok {a : M Tm} {b : Bool} (h : mTru fBl a ρ = .ok b ρ1) : mNotV a ρ = .ok (.v (.bl (!b))) ρ1 := (bind_ok h).trans rfl
theorem ite_ok {c : M Bool} {ma mb : M Tm} {k : Bool} {x : Res Tm} (h : c ρ = .ok k ρ1) (e : (if k = true then ma else mb) ρ1 = x) : mIte c ma mb ρ = x := (bind_ok h).trans e
theorem for_ok {it : M (List D)} {tg : G} {b : M Fl} {js : List Nat} {ds : List D} {x : Res Fl} (h : it ρ = .ok ds ρ1) (k : mLoop tg b js ds ρ1 = x) : mFor it tg b js ρ = x := (bind_ok h).trans k
theorem sit_ok {m : M Tm} {d : D} {ds : List D} (h : mFz m ρ = .ok (.v d) ρ1) (k : seqD d = some ds) : mSeqIt m ρ = .ok ds ρ1 := (bind_ok h).trans (lift_ok k)
theorem rng1_ok {ms : M (List Tm)} {n : Nat} (h : ms ρ = .ok [.v (.int n)] ρ1) (hn : n < 2 ^ 62) : mRng1 ms ρ = .ok ((List.range n).map fun (i : Nat) => D.int (i : Int)) ρ1 := by
  refine (bind_ok h).trans (lift_ok ?_)
  show when (inLine (n : Int)) (some (rngD 0 n)) = _
  unfold Pd.when
  rw [if_pos (by unfold inLine; omega)]
  unfold rngD
  simp
theorem zip_ok {ms : M (List Tm)} {d e : D} {ds es : List D} (h : ms ρ = .ok [.v d, .v e] ρ1) (k : seqD d = some ds) (l : seqD e = some es) : mZip ms ρ = .ok (zipD ds es) ρ1 := by
  refine (bind_ok h).trans (lift_ok ?_)
  show (seqD d).bind (fun ds => (seqD e).map fun es => zipD ds es) = _
  rw [k, l]
  rfl
theorem call_ok {n : Nat} {F : M Rv} {ms : M (List Tm)} {ds : List D} {r : Rv} (h : ms ρ = .ok (ds.map Tm.v) ρ1) (hn : ds.length = n) (v : Val F (ds.map fun d => .own (.val d)) r) : mCall n F ms ρ = .ok (.rv r) ρ1 := by
  refine (bind_ok h).trans ?_
  simp only [List.length_map, if_pos hn]
  exact call_val v ρ1
theorem call_er {n : Nat} {F : M Rv} {ms : M (List Tm)} {ds : List D} {c : Str} (h : ms ρ = .ok (ds.map Tm.v) ρ1) (hn : ds.length = n) (v : Err F (ds.map fun d => .own (.val d)) c) : mCall n F ms ρ = .err c ρ1 := by
  refine (bind_ok h).trans ?_
  simp only [List.length_map, if_pos hn]
  exact call_err v ρ1
theorem when_t {α : Type} {c : Prop} [Decidable c] {o : Option α} (h : c) : when c o = o := if_pos h
/-! ### naturals as ints -/
abbrev iN (n : Nat) : D := .int (n : Int)
theorem log2_le {n k : Nat} (h : n < 2 ^ k) (hk : 0 < k) : n.log2 < k := by
  by_cases h0 : n = 0
  · subst h0; exact (show (0 : Nat).log2 = 0 by decide) ▸ hk
  · exact (Nat.log2_lt h0).mpr h
theorem mulN (a b : Nat) (h : a.log2 + b.log2 < 1000000) : fMul (.v (iN a)) (.v (iN b)) ρ = some (.v (iN (a * b))) := by
  show (match when (CMulW (a : Int) (b : Int)) (some (Tm.v (.int ((a : Int) * b)))) with | some t => some t | none => _) = _
  rw [when_t (show CMulW (a : Int) (b : Int) from by unfold CMulW; simpa using h)]
  simp
theorem addN (a b : Nat) : fAdd (.v (iN a)) (.v (iN b)) ρ = some (.v (iN (a + b))) := rfl
theorem subN (a b : Nat) (h : b ≤ a) : fSub (.v (iN a)) (.v (iN b)) ρ = some (.v (iN (a - b))) := by
  show some (Tm.v (.int ((a : Int) - b))) = _
  have e : (a : Int) - b = ((a - b : Nat) : Int) := by omega
  rw [e]
theorem modN (a b : Nat) (h : 0 < b) : fMod (.v (iN a)) (.v (iN b)) ρ = some (.v (iN (a % b))) := by
  show when (0 < (b : Int)) (some (Tm.v (.int ((a : Int) % b)))) = _
  rw [when_t (by omega)]
  simp
theorem divN (a b : Nat) (h : 0 < b) (hb : b.log2 < 9000) : fDiv (.v (iN a)) (.v (iN b)) ρ = some (.v (iN (a / b))) := by
  show when (CDivW (a : Int) (b : Int)) (some (Tm.v (.int ((a : Int) / b)))) = _
  rw [when_t (show CDivW (a : Int) (b : Int) from ⟨by omega, by simpa using hb⟩)]
  simp
theorem ltN (a b : Nat) : fLt (.v (iN a)) (.v (iN b)) ρ = some (.v (.bl (decide (a < b)))) := by
  show some (Tm.v (.bl (decide ((a : Int) < b)))) = _
  simp
theorem gtN (a b : Nat) : fGt (.v (iN a)) (.v (iN b)) ρ = some (.v (.bl (decide (b < a)))) := by
  show some (Tm.v (.bl (decide ((b : Int) < a)))) = _
  simp
theorem geN (a b : Nat) : fGe (.v (iN a)) (.v (iN b)) ρ = some (.v (.bl (decide (b ≤ a)))) := by
  show some (Tm.v (.bl (decide ((b : Int) ≤ a)))) = _
  simp
theorem eqN (neg : Bool) (a b : Nat) : fEqN neg (.v (iN a)) (.v (iN b)) ρ = some (.v (.bl (if neg = true then !decide (a = b) else decide (a = b)))) := by
  show when (_ ∧ _) (some (Tm.v (.bl (if neg = true then !PyData.eqv (.int a) (.int b) else PyData.eqv (.int a) (.int b))))) = _
  rw [when_t ⟨by simp [D.dep, Rv.toD], by simp [D.dep, Rv.toD]⟩, eqv_int]
  have e : decide ((a : Int) = (b : Int)) = decide (a = b) := by simp [Int.natCast_inj]
  rw [e]
theorem eqS (neg : Bool) (a b : Str) (ha : PyData.strOk a = true) (hb : PyData.strOk b = true) : fEqN neg (.v (.str a)) (.v (.str b)) ρ = some (.v (.bl (if neg = true then !decide (a = b) else decide (a = b)))) := by
  show when (_ ∧ _) (some (Tm.v (.bl (if neg = true then !PyData.eqv (.str a) (.str b) else PyData.eqv (.str a) (.str b))))) = _
  rw [when_t ⟨by simp [D.dep, Rv.toD, ha], by simp [D.dep, Rv.toD, hb]⟩, eqv_str]
theorem eqEnc {α : Type} [DecidableEq α] (E : Enc α) (neg : Bool) {x y : Tm} {a b : α} (hx : x.dat ρ = some (E.e a)) (hy : y.dat ρ = some (E.e b)) (da : (E.e a).dep ≤ 60) (db : (E.e b).dep ≤ 60) : fEqN neg x y ρ = some (.v (.bl (if neg = true then !decide (a = b) else decide (a = b)))) := by
  unfold fEqN
  rw [hx, hy]
  show when _ _ = _
  rw [when_t ⟨da, db⟩, E.eq]
theorem fl_map {α : Type} {e : α → D} (h : ∀ a, flD (e a) = true) : ∀ xs : List α, (xs.map e).all flD = true
  | [] => rfl
  | x :: xs => by rw [List.map_cons, List.all_cons, h, fl_map h xs]; rfl
/-- a string in a tuple of strings -/
theorem inS (neg : Bool) {x y : Tm} {a : Str} {b : List Str} (hx : x.dat ρ = some (.str a)) (hy : y.tels ρ = some (b.map D.str)) : fIn neg x y ρ = some (.v (.bl (if neg = true then !decide (a ∈ b) else decide (a ∈ b)))) := by
  unfold fIn Pd.orF fInT
  rw [hx, hy]
  simp only [when_t (show flD (D.str a) = true ∧ (b.map D.str).all flD = true from ⟨rfl, fl_map (fun _ => rfl) b⟩), show inD (D.str a) (b.map D.str) = decide (a ∈ b) from inD_map encS a b]
/-- a string in a list of strings -/
theorem inSL (neg : Bool) {x y : Tm} {a : Str} {b : List Str} (hx : x.dat ρ = some (.str a)) (hy : y.tels ρ = none) (hz : y.elsF ρ = some (b.map D.str)) (ha : PyData.strOk a = true) (hb : ∀ c ∈ b, PyData.strOk c = true) : fIn neg x y ρ = some (.v (.bl (if neg = true then !decide (a ∈ b) else decide (a ∈ b)))) := by
  unfold fIn Pd.orF fInT fInL
  rw [hx, hy, hz]
  simp only [when_t (show (D.str a).dep ≤ 60 ∧ D.deps (b.map D.str) ≤ 59 from ⟨by simp [D.dep, ha], deps_map _ _ _ fun c hc => by simp [D.dep, hb c hc]⟩), show inD (D.str a) (b.map D.str) = decide (a ∈ b) from inD_map encS a b]
/-! ### reading at a place -/
theorem ixL_at {α : Type} {e : α → D} {xs : List α} {j : Nat} {x : Tm} (hx : x.elsF ρ = some (xs.map e)) (hj : j < xs.length) : fIx x (.v (iN j)) ρ = some (.v (e xs[j])) := by
  unfold fIx Pd.orF fIxL
  rw [hx]
  simp only [atI_map, atI_nat' hj, Option.map_some]
theorem ixT_at {α : Type} {e : α → D} {xs : List α} {j : Nat} {x : Tm} (hz : x.elsF ρ = none) (hx : x.tels ρ = some (xs.map e)) (hj : j < xs.length) : fIx x (.v (iN j)) ρ = some (.v (e xs[j])) := by
  unfold fIx Pd.orF fIxL fIxT
  rw [hz, hx]
  simp only [atI_map, atI_nat' hj, Option.map_some]
theorem ix_tup {ds : List D} {i : Int} {d : D} (h : L2.atI ds i = some d) : fIx (.v (.tup ds)) (.v (.int i)) ρ = some (.v d) := by
  have e1 : fIxL (.v (.tup ds)) (.v (.int i)) ρ = none := rfl
  have e2 : fIxT (.v (.tup ds)) (.v (.int i)) ρ = (L2.atI ds i).map fun d => Tm.v d := rfl
  unfold fIx Pd.orF
  rw [e1, e2, h]
  rfl
theorem ixT0 {d : D} {ds : List D} : fIx (.v (.tup (d :: ds))) (.v (.int 0)) ρ = some (.v d) := ix_tup (by simp [L2.atI, L2.ixN, show (0 : Int) < (ds.length : Int) + 1 from by omega])
theorem ixT1 {d e : D} {ds : List D} : fIx (.v (.tup (d :: e :: ds))) (.v (.int 1)) ρ = some (.v e) := ix_tup (by simp [L2.atI, L2.ixN, show (1 : Int) < (ds.length : Int) + 1 + 1 from by omega])
theorem intsN (ns : List Nat) : ints? (ns.map iN) = some (ns.map fun (n : Nat) => (n : Int)) := by
  have : ns.map iN = (ns.map fun (n : Nat) => (n : Int)).map D.int := by rw [List.map_map]; rfl
  rw [this, ints_map]
theorem sumN (ns : List Nat) : (ns.map fun (n : Nat) => (n : Int)).sum = ((ns.sum : Nat) : Int) := by
  induction ns with
  | nil => rfl
  | cons n ns ih => simp [ih]
theorem sum_ok {x : Tm} {ns : List Nat} (h : x.elsF ρ = some (ns.map iN)) : fSum [x] ρ = some (.v (iN ns.sum)) := by
  unfold fSum
  simp only [h, Option.bind_some, intsN, Option.map_some, sumN]
theorem len_ok {x : Tm} {ds : List D} (h : x.elsF ρ = some ds ∨ (x.elsF ρ = none ∧ x.tels ρ = some ds)) : fLen [x] ρ = some (.v (iN ds.length)) := by
  unfold fLen
  rcases h with h | ⟨h, h'⟩
  · simp only [h]
  · simp only [h, h', Option.map_some]
theorem zipD_map {α β : Type} {e : α → D} {f : β → D} : ∀ (xs : List α) (ys : List β), zipD (xs.map e) (ys.map f) = (xs.zip ys).map fun p => D.tup [e p.1, f p.2]
  | [], _ => by cases ‹List β› <;> rfl
  | x :: xs, [] => rfl
  | x :: xs, y :: ys => by
    rw [List.map_cons, List.map_cons, List.zip_cons_cons, List.map_cons, ← zipD_map xs ys]
    rfl
theorem elsF_o (ds : List D) : Tm.elsF ρ (.o ds) = some ds := by
  show Rv.elsF (.own (ds.map Rv.val)) = _
  exact flat_map ds
theorem toDs_map : ∀ ds : List D, Rv.toDs (ds.map Rv.val) = ds
  | [] => rfl
  | d :: ds => by show d :: Rv.toDs (ds.map Rv.val) = _; rw [toDs_map ds]
theorem toD_o (ds : List D) : (Rv.own (ds.map Rv.val)).toD = .lst ds := by
  show D.lst (Rv.toDs (ds.map Rv.val)) = _
  rw [toDs_map]
end Pd
set_option Elab.async false
set_option linter.all false
set_option maxRecDepth 100000
set_option maxHeartbeats 2000000
/-! Pd21: comprehensions and owned lists, from the goal back. -/
namespace Pd
open PySem PySem.Spec PyProof.Rows L2
variable {ρ ρ1 ρ2 ρ3 ρ4 ρw ρz : Rho}
abbrev o0 (ds : List D) : Sl := .own (.own (ds.map Rv.val))
theorem lc_all {α : Type} {it : M (List D)} {tg : G} {el : M Tm} {vs : List Nat} (e g : α → D) {xs : List α} (hit : it ρ = .ok (xs.map e) ρ1) (hlen : xs.length ≤ 100000) (hw : wipR vs ρ1 = some ρw) (hl : ρw.length = ρ1.length) (hz : Pd.rest ρ1 vs ρw = ρz)
    (h : ∀ x ∈ xs, ∃ ρa ρb, tg (.v (e x)) ρw = some ρa ∧ (mFz el) ρa = .ok (.v (g x)) ρb ∧ fgt vs ρb = some ρw) : mLc it tg (M.pure true) el vs ρ = .ok (.o (xs.map g)) ρz := by
  have key := mLc_map (c := M.pure true) (el := el) e (fun _ => true) g hit hlen hw hl fun x hx => by
    obtain ⟨ρa, ρb, h1, h2, h3⟩ := h x hx
    exact ⟨ρa, ρa, h1, rfl, fun _ => ⟨ρb, h2, h3⟩, fun z => by cases z⟩
  rw [key, hz]
  have : xs.filter (fun _ => true) = xs := List.filter_eq_self.mpr fun _ _ => rfl
  rw [this]
theorem lc_fil {α : Type} {it : M (List D)} {tg : G} {c : M Bool} {el : M Tm} {vs : List Nat} (e : α → D) (p : α → Bool) (g : α → D) {xs : List α} (hit : it ρ = .ok (xs.map e) ρ1) (hlen : xs.length ≤ 100000) (hw : wipR vs ρ1 = some ρw) (hl : ρw.length = ρ1.length) (hz : Pd.rest ρ1 vs ρw = ρz)
    (h : ∀ x ∈ xs, ∃ ρa ρb, tg (.v (e x)) ρw = some ρa ∧ c ρa = .ok (p x) ρb ∧ fgt vs ρb = some ρw ∧ (p x = true → ∃ ρc, (mFz el) ρb = .ok (.v (g x)) ρc ∧ fgt vs ρc = some ρw)) : mLc it tg c el vs ρ = .ok (.o ((xs.filter p).map g)) ρz := by
  have key := mLc_map (c := c) (el := el) e p g hit hlen hw hl fun x hx => by
    obtain ⟨ρa, ρb, h1, h2, h3, h4⟩ := h x hx
    exact ⟨ρa, ρb, h1, h2, h4, fun _ => h3⟩
  rw [key, hz]
theorem tupOf_o {ds : List D} : fTupOf [.o ds] ρ = some (.v (.tup ds)) := by
  show ((Tm.o ds).elsF ρ).map (fun ds => Tm.v (.tup ds)) = _
  rw [elsF_o]
  rfl
theorem var_o {i : Nat} {ds : List D} (h : ρ[i]? = some (o0 ds)) : mVar i ρ = .ok (.v (.lst ds)) (ρ.set i (.own (.val (.lst ds)))) := by
  unfold mVar
  rw [h]
  show Res.ok (Tm.v (Rv.own (ds.map Rv.val)).toD) _ = _
  rw [toD_o]
theorem elsF_pk {i : Nat} {ds : List D} (h : ρ[i]? = some (o0 ds)) : (Tm.pk i).elsF ρ = some ds := by
  show (slR ρ[i]?).bind Rv.elsF = _
  rw [h]
  exact flat_map ds
theorem els_pk {i : Nat} {ds : List D} (h : ρ[i]? = some (o0 ds)) : (Tm.pk i).els ρ = some ds := by
  show (slR ρ[i]?).bind Rv.els = _
  rw [h]
  exact flat_map ds
theorem dat_pk {i : Nat} {ds : List D} (h : ρ[i]? = some (o0 ds)) : (Tm.pk i).dat ρ = some (.lst ds) := by
  show (slR ρ[i]?).map Rv.toD = _
  rw [h]
  show some (Rv.own (ds.map Rv.val)).toD = _
  rw [toD_o]
theorem zipD_self {α : Type} (e f : α → D) : ∀ xs : List α, zipD (xs.map e) (xs.map f) = xs.map fun x => D.tup [e x, f x]
  | [] => rfl
  | x :: xs => by
    show D.tup [e x, f x] :: zipD (xs.map e) (xs.map f) = _
    rw [zipD_self e f xs]
    rfl
/-- an owned list is returned, and walked -/
theorem fz_o {m : M Tm} {ds : List D} (h : m ρ = .ok (.o ds) ρ1) : mFz m ρ = .ok (.v (.lst ds)) ρ1 := by
  have := fz_rv h
  rw [toD_o] at this
  exact this
theorem sum_rng {x : Tm} {m : Nat} {f : Nat → Nat} (h : x.elsF ρ = some ((List.range m).map fun k => iN (f k))) : fSum [x] ρ = some (.v (iN ((List.range m).map f).sum)) := sum_ok (ns := (List.range m).map f) (by rw [h, List.map_map]; rfl)
theorem rng_at {α : Type} {f : Nat → D} {m j : Nat} {x : Tm} (hx : x.elsF ρ = some ((List.range m).map f) ∨ (x.elsF ρ = none ∧ x.tels ρ = some ((List.range m).map f))) (hj : j < m) : fIx x (.v (iN j)) ρ = some (.v (f j)) := by
  have hl : j < (List.range m).length := by rw [List.length_range]; exact hj
  rcases hx with h | ⟨h, h'⟩
  · have := ixL_at (ρ := ρ) (e := f) h hl
    rwa [List.getElem_range] at this
  · have := ixT_at (ρ := ρ) (e := f) h h' hl
    rwa [List.getElem_range] at this
theorem ixo {f : Nat → D} {m j i : Nat} (h : ρ[i]? = some (o0 ((List.range m).map f))) (hj : j < m) : fIx (.pk i) (.v (iN j)) ρ = some (.v (f j)) := rng_at (α := Nat) (.inl (elsF_pk h)) hj
theorem ixt {f : Nat → D} {m j : Nat} (hj : j < m) : fIx (.v (.tup ((List.range m).map f))) (.v (iN j)) ρ = some (.v (f j)) := rng_at (α := Nat) (.inr ⟨rfl, rfl⟩) hj
theorem ixl {f : Nat → D} {m j : Nat} (hj : j < m) : fIx (.v (.lst ((List.range m).map f))) (.v (iN j)) ρ = some (.v (f j)) := rng_at (α := Nat) (.inl rfl) hj
theorem len_o {ds : List D} {i : Nat} (h : ρ[i]? = some (o0 ds)) : fLen [.pk i] ρ = some (.v (iN ds.length)) := len_ok (.inl (elsF_pk h))
theorem len_t {ds : List D} : fLen [.v (.tup ds)] ρ = some (.v (iN ds.length)) := len_ok (.inr ⟨rfl, rfl⟩)
theorem len_l {ds : List D} : fLen [.v (.lst ds)] ρ = some (.v (iN ds.length)) := len_ok (.inl rfl)
theorem map_rng_congr {α : Type} {f g : Nat → α} {m : Nat} (h : ∀ k, k < m → f k = g k) : (List.range m).map f = (List.range m).map g := List.map_congr_left fun k hk => h k (List.mem_range.mp hk)
end Pd
set_option Elab.async false
set_option linter.all false
set_option maxRecDepth 100000
set_option maxHeartbeats 2000000
/-! Pd23: owned lists, more. -/
namespace Pd
open PySem PySem.Spec PyProof.Rows L2
variable {ρ ρ1 ρ2 : Rho}
theorem orF_none {f g : Tm → Tm → Rho → Option Tm} {x y : Tm} (h : f x y ρ = none) : Pd.orF f g x y ρ = g x y ρ := by unfold Pd.orF; rw [h]
theorem catL_o {i : Nat} {ds es : List D} (h : ρ[i]? = some (o0 ds)) (hl : ds.length + es.length ≤ 100000) : fAdd (.pk i) (.o es) ρ = some (.o (ds ++ es)) := by
  have e1 : fAdd (.pk i) (.o es) ρ = orF fCatL fCatT (.pk i) (.o es) ρ := rfl
  have e2 : Tm.els ρ (.o es) = some es := flat_map es
  rw [e1]
  unfold Pd.orF fCatL
  rw [els_pk h, e2]
  simp only [when_t hl]
theorem catL_oo {ds es : List D} (hl : ds.length + es.length ≤ 100000) : fAdd (.o ds) (.o es) ρ = some (.o (ds ++ es)) := by
  have e1 : fAdd (.o ds) (.o es) ρ = orF fCatL fCatT (.o ds) (.o es) ρ := rfl
  have e2 : ∀ es : List D, Tm.els ρ (.o es) = some es := fun es => flat_map es
  rw [e1]
  unfold Pd.orF fCatL
  rw [e2, e2]
  simp only [when_t hl]
theorem catL_lo {ds es : List D} (hl : ds.length + es.length ≤ 100000) : fAdd (.v (.lst ds)) (.o es) ρ = some (.o (ds ++ es)) := by
  have e1 : fAdd (.v (.lst ds)) (.o es) ρ = orF fCatL fCatT (.v (.lst ds)) (.o es) ρ := rfl
  have e2 : Tm.els ρ (.o es) = some es := flat_map es
  rw [e1]
  unfold Pd.orF fCatL
  rw [show Tm.els ρ (.v (.lst ds)) = some ds from rfl, e2]
  simp only [when_t hl]
theorem repL_ok {x : Tm} {a : List D} {k : Nat} (hx : x.els ρ = some a) (h1 : a.length * k ≤ 100000) (h2 : k ≤ 100000) : fRepL x (.v (iN k)) ρ = some (.o (List.replicate k a).flatten) := by
  unfold fRepL
  rw [hx]
  have e : ((k : Nat) : Int).toNat = k := Int.toNat_natCast k
  have c : -(2 ^ 63) ≤ (k : Int) ∧ (k : Int) < 2 ^ 63 ∧ a.length * ((k : Nat) : Int).toNat ≤ 100000 := ⟨by omega, by omega, by rw [e]; exact h1⟩
  refine (when_t c).trans ?_
  rw [e]
theorem flat_rep (d : D) : ∀ c : Nat, (List.replicate c [d]).flatten = List.replicate c d
  | 0 => rfl
  | c + 1 => by rw [List.replicate_succ, List.flatten_cons, flat_rep d c]; rfl
theorem mul_none {d : D} {c : Nat} : fII CMulW (fun i j => .int (i * j)) (.o [d]) (.v (iN c)) ρ = none := rfl
theorem fMul_l {x y t : Tm} (h1 : fII CMulW (fun i j => .int (i * j)) x y ρ = none) (h2 : fRepL x y ρ = some t) : fMul x y ρ = some t := by
  unfold fMul
  rw [orF_none h1]
  unfold Pd.orF
  rw [h2]
theorem els_o (ds : List D) : Tm.els ρ (.o ds) = some ds := flat_map ds
theorem rep1 {d : D} {c : Nat} (hl : c ≤ 100000) : fMul (.o [d]) (.v (iN c)) ρ = some (.o (List.replicate c d)) := by
  refine fMul_l mul_none ?_
  have h1 : [d].length * c ≤ 100000 := by rw [List.length_singleton, Nat.one_mul]; exact hl
  have := repL_ok (ρ := ρ) (x := .o [d]) (a := [d]) (k := c) (els_o [d]) h1 hl
  rw [this, flat_rep]
theorem listOf_t {ds : List D} : fListOf [.v (.tup ds)] ρ = some (.o ds) := rfl
theorem tupOf_pk {i : Nat} {ds : List D} (h : ρ[i]? = some (o0 ds)) : fTupOf [.pk i] ρ = some (.v (.tup ds)) := by
  show ((Tm.pk i).elsF ρ).map (fun ds => Tm.v (.tup ds)) = _
  rw [elsF_pk h]
  rfl
theorem setIx_ok {i : Nat} {mk me : M Tm} {f g : Nat → D} {m j : Nat} (h0 : me ρ = .ok (.v (g j)) ρ1) (h1 : mk ρ1 = .ok (.v (iN j)) ρ1) (hi : ρ1[i]? = some (o0 ((List.range m).map f))) (hj : j < m) (hg : ∀ k, k < m → k ≠ j → g k = f k) :
    mSetIx i mk me ρ = .ok .nx (ρ1.set i (o0 ((List.range m).map g))) := by
  have hs : slR ρ1[i]? = some (.own (((List.range m).map f).map Rv.val)) := by rw [hi]; rfl
  refine (bind_ok h0).trans ((bind_ok (lift_ok (a := ()) ?_)).trans ((bind_ok h1).trans ((bind_ok (put_ok (ρ1 := ρ1.set i (o0 ((List.range m).map g))) ?_)).trans rfl)))
  · unfold isL
    rw [hs]
  · unfold fSetIx
    rw [hs]
    have hix : ixN (((List.range m).map f).map Rv.val).length ((j : Nat) : Int) = some j := by
      unfold ixN
      rw [if_pos (by omega), if_pos (by simp; omega)]
      simp
    simp only [hix, Option.bind_some]
    have hset : ((((List.range m).map f).map Rv.val).set j (.val (g j))) = ((List.range m).map g).map Rv.val := by
      apply List.ext_getElem
      · simp
      · intro k h1 h2
        simp at h1 h2
        rw [List.getElem_set]
        by_cases y : j = k
        · subst y; simp
        · simp [y, hg k h1 (fun z => y z.symm)]
    rw [hset]
    unfold setR
    rw [hi]
end Pd
set_option Elab.async false
set_option linter.all false
set_option maxRecDepth 100000
set_option maxHeartbeats 2000000
/-! Pd24: comprehensions that change slots: by an invariant. -/
namespace Pd
open PySem PySem.Spec PyProof.Rows L2
inductive All2 {α β : Type} (P : α → β → Prop) : List α → List β → Prop where
  | nil : All2 P [] []
  | cons {x y xs ys} (h : P x y) (t : All2 P xs ys) : All2 P (x :: xs) (y :: ys)
theorem mLcL_inv {α : Type} {tg : G} {c : M Bool} {el : M Tm} {vs : List Nat} (e : α → D) (P : α → D → Prop) (Q : α → Bool → Prop) (I : Nat → Rho → Prop) (k N : Nat) : ∀ (xs : List α) (n : Nat) (acc : List D) (ρ : Rho), n + xs.length * k ≤ N → I n ρ →
    (∀ x ∈ xs, ∀ n ρ, n + k ≤ N → I n ρ → ∃ ρa b ρb, tg (.v (e x)) ρ = some ρa ∧ c ρa = .ok b ρb ∧ Q x b ∧ (b = true → ∃ y ρc ρd, (mFz el) ρb = .ok (.v y) ρc ∧ fgt vs ρc = some ρd ∧ I (n + k) ρd ∧ P x y) ∧ (b = false → ∃ ρd, fgt vs ρb = some ρd ∧ I (n + k) ρd)) →
    ∃ (zs : List (α × Bool)) (ys : List D) (ρ' : Rho), zs.map (·.1) = xs ∧ (∀ z ∈ zs, Q z.1 z.2) ∧ All2 P ((zs.filter (·.2)).map (·.1)) ys ∧ mLcL tg c el vs (xs.map e) acc ρ = .ok (acc ++ ys) ρ' ∧ I (n + xs.length * k) ρ'
  | [], n, acc, ρ, _, hI, _ => ⟨[], [], ρ, rfl, (fun z hz => absurd hz List.not_mem_nil), .nil, by rw [List.append_nil]; rfl, by simpa using hI⟩
  | x :: xs, n, acc, ρ, hN, hI, h => by
    have hN1 : n + k + xs.length * k ≤ N := by rw [List.length_cons, Nat.succ_mul] at hN; omega
    obtain ⟨ρa, b, ρb, h1, h2, hQ, h3, h4⟩ := h x List.mem_cons_self n ρ (by omega) hI
    have hrest := fun y hy => h y (List.mem_cons_of_mem _ hy)
    have en : n + k + xs.length * k = n + (x :: xs).length * k := by rw [List.length_cons, Nat.succ_mul]; omega
    rw [List.map_cons]
    unfold mLcL
    rw [bind_ok (show put (tg (.v (e x))) ρ = .ok () ρa from by unfold put; rw [h1]), bind_ok h2]
    cases b with
    | true =>
      obtain ⟨y, ρc, ρd, h5, h6, h7, h8⟩ := h3 rfl
      obtain ⟨zs, ys, ρ', k1, k2, k3, k4, k5⟩ := mLcL_inv e P Q I k N xs (n + k) (acc ++ [y]) ρd hN1 h7 hrest
      refine ⟨(x, true) :: zs, y :: ys, ρ', by rw [List.map_cons, k1], fun z hz => ?_, ?_, ?_, by rw [← en]; exact k5⟩
      · rcases List.mem_cons.mp hz with q | q
        · rw [q]; exact hQ
        · exact k2 z q
      · rw [List.filter_cons_of_pos (by rfl), List.map_cons]
        exact .cons h8 k3
      · rw [if_pos rfl, bind_ok h5, bind_ok (show lift (fVal (.v y)) ρc = .ok y ρc from rfl), bind_ok (show mFgt vs ρc = .ok () ρd from by unfold mFgt put; rw [h6]), k4, List.append_assoc]
        rfl
    | false =>
      obtain ⟨ρd, h6, h7⟩ := h4 rfl
      obtain ⟨zs, ys, ρ', k1, k2, k3, k4, k5⟩ := mLcL_inv e P Q I k N xs (n + k) acc ρd hN1 h7 hrest
      refine ⟨(x, false) :: zs, ys, ρ', by rw [List.map_cons, k1], fun z hz => ?_, ?_, ?_, by rw [← en]; exact k5⟩
      · rcases List.mem_cons.mp hz with q | q
        · rw [q]; exact hQ
        · exact k2 z q
      · rw [List.filter_cons_of_neg (by simp)]
        exact k3
      · rw [if_neg Bool.false_ne_true, bind_ok (show mFgt vs ρb = .ok () ρd from by unfold mFgt put; rw [h6]), k4]
theorem mLc_inv {α : Type} {it : M (List D)} {tg : G} {c : M Bool} {el : M Tm} {vs : List Nat} (e : α → D) (P : α → D → Prop) (Q : α → Bool → Prop) (I : Nat → Rho → Prop) (k n N : Nat) {xs : List α} {ρ ρ1 ρw : Rho} (hit : it ρ = .ok (xs.map e) ρ1) (hlen : xs.length ≤ 100000) (hw : wipR vs ρ1 = some ρw) (hN : n + xs.length * k ≤ N) (hI : I n ρw) (hl : ∀ n ρ', I n ρ' → ρ'.length = ρ1.length)
    (h : ∀ x ∈ xs, ∀ n ρ, n + k ≤ N → I n ρ → ∃ ρa b ρb, tg (.v (e x)) ρ = some ρa ∧ c ρa = .ok b ρb ∧ Q x b ∧ (b = true → ∃ y ρc ρd, (mFz el) ρb = .ok (.v y) ρc ∧ fgt vs ρc = some ρd ∧ I (n + k) ρd ∧ P x y) ∧ (b = false → ∃ ρd, fgt vs ρb = some ρd ∧ I (n + k) ρd)) :
    ∃ (zs : List (α × Bool)) (ys : List D) (ρ' : Rho), zs.map (·.1) = xs ∧ (∀ z ∈ zs, Q z.1 z.2) ∧ All2 P ((zs.filter (·.2)).map (·.1)) ys ∧ mLc it tg c el vs ρ = .ok (.o ys) (Pd.rest ρ1 vs ρ') ∧ I (n + xs.length * k) ρ' := by
  obtain ⟨zs, ys, ρ', k1, k2, k3, k4, k5⟩ := mLcL_inv e P Q I k N xs n [] ρw hN hI h
  refine ⟨zs, ys, ρ', k1, k2, k3, ?_, k5⟩
  have hh := bind_ok (m := it) (k := fun ds => (fun ρ1 => if ds.length ≤ 100000 then match wipR vs ρ1 with
    | none => .bad
    | some ρw => lcEnd ρ1 vs (mLcL tg c el vs ds [] ρw)
    else .bad : M Tm)) hit
  refine Eq.trans (show mLc it tg c el vs ρ = _ from hh) ?_
  simp only [List.length_map, if_pos hlen, hw]
  rw [k4]
  unfold lcEnd
  rw [List.nil_append]
  simp only [if_pos (hl _ _ k5)]
end Pd
set_option Elab.async false
set_option linter.all false
set_option maxRecDepth 100000
set_option maxHeartbeats 4000000
/-! K62: the defs by denotation -/
namespace K62
open PySem PySem.Spec PyProof.Rows L2 Pd
def tops : List Stmt := PySem.Challenge.pw_docketloom_k62_whole_chances_of_records.main.body
def top (i : Nat) : Stmt := tops.getD i (.Pass ⟨0, 0, 0, 0⟩)
abbrev d_NOUGHT : D := (.tup [.int 0, .int 1])
abbrev d_ONE : D := (.tup [.int 1, .int 1])
abbrev st_lowest : Stmt := top 9
abbrev st_made : Stmt := top 10
abbrev st_times : Stmt := top 11
abbrev st_full_state : Stmt := top 13
abbrev st_cards_for : Stmt := top 14
abbrev st_without : Stmt := top 15
abbrev st_deal : Stmt := top 16
abbrev st_can_deal : Stmt := top 17
abbrev st_first_fault : Stmt := top 18
abbrev st_steps : Stmt := top 22
abbrev st_chances : Stmt := top 23
abbrev st_chance_of : Stmt := top 24
abbrev st__law_open : Stmt := top 26
abbrev st__law_mixed : Stmt := top 27
abbrev st__law_draw : Stmt := top 28
abbrev st__law_told : Stmt := top 29
abbrev st__law_int : Stmt := top 30
abbrev st__law_wheel : Stmt := top 31
abbrev st__law_barred : Stmt := top 32
abbrev st__law_step : Stmt := top 33
abbrev st__law_deal : Stmt := top 34
abbrev st__law_able : Stmt := top 35
abbrev st__law_lowest : Stmt := top 36
abbrev st__law_is : Stmt := top 37
abbrev st__law_chance : Stmt := top 38
abbrev st__law_asked : Stmt := top 39
abbrev st__law_all : Stmt := top 40
abbrev st__law_state : Stmt := top 41
abbrev st_law : Stmt := top 42
theorem sc_lowest : FnScope ["part", "whole", "common"] ["part", "whole"] (defScope st_lowest) := ⟨rfl, rfl, rfl, by decide +kernel, rfl, by decide +kernel, by decide +kernel⟩
def m_lowest : M Fl := (mSeq (mAsg (mCl fGcd (mCons (mPk 0) (mCons (mPk 1) mNil))) (mSet 2))
    (mSeq (mIf (mTru fBl (mOp fLt (mPk 1) (M.pure (.v (.int 0))))) (mAsg (mUn fNeg (mVar 2)) (mSet 2)) mNx)
    (mRet (mTup (mCons (mOp fDiv (mPk 0) (mPk 2)) (mCons (mOp fDiv (mPk 1) (mPk 2)) mNil))))))
def F_lowest : M Rv := runDef 3 2 m_lowest
theorem sc_made : FnScope ["part", "whole"] ["part", "whole"] (defScope st_made) := ⟨rfl, rfl, rfl, by decide +kernel, rfl, by decide +kernel, by decide +kernel⟩
def m_made : M Fl := (mSeq (mIf (mTru fBl (mOp (fEqN false) (mPk 1) (M.pure (.v (.int 0))))) (mErr "OutOfRange") mNx)
    (mRet (mCall 2 F_lowest (mCons (mVar 0) (mCons (mVar 1) mNil)))))
def F_made : M Rv := runDef 2 2 m_made
theorem sc_times : FnScope ["one", "other"] ["one", "other"] (defScope st_times) := ⟨rfl, rfl, rfl, by decide +kernel, rfl, by decide +kernel, by decide +kernel⟩
def m_times : M Fl := (mRet (mCall 2 F_lowest (mCons (mFz (mOp fMul (mOp fIx (mPk 0) (M.pure (.v (.int 0)))) (mOp fIx (mPk 1) (M.pure (.v (.int 0)))))) (mCons (mFz (mOp fMul (mOp fIx (mPk 0) (M.pure (.v (.int 1)))) (mOp fIx (mPk 1) (M.pure (.v (.int 1)))))) mNil))))
def F_times : M Rv := runDef 2 2 m_times
theorem sc_full_state : FnScope ["wheel", "judge", "weight"] ["wheel"] (defScope st_full_state) := ⟨rfl, rfl, rfl, by decide +kernel, rfl, by decide +kernel, by decide +kernel⟩
def m_full_state : M Fl := (mRet (mCl fTupOf (mCons (mLc (mSeqIt (mPk 0)) (mUnp 2 [(mSet 1), (mSet 2)]) (M.pure true) (mVar 2) [1, 2]) mNil)))
def F_full_state : M Rv := runDef 3 1 m_full_state
theorem sc_cards_for : FnScope ["wheel", "state", "barred", "able", "counts", "judge", "weight", "one", "left", "pair"] ["wheel", "state", "barred"] (defScope st_cards_for) := ⟨rfl, rfl, rfl, by decide +kernel, rfl, by decide +kernel, by decide +kernel⟩
def m_cards_for : M Fl := (mSeq (mAsg (id (mLc (mSeqIt (mPk 0)) (mUnp 2 [(mSet 5), (mSet 6)]) (M.pure true) (mFz (mIte (mTru fBl (mOp (fIn false) (mPk 5) (mPk 2))) (M.pure (.v (.int 0))) (M.pure (.v (.int 1))))) [5, 6])) (mSet 3))
    (mSeq (mIf (mTru fBl (mOp (fEqN false) (mCl fSum (mCons (mPk 3) mNil)) (M.pure (.v (.int 0))))) (mErr "Refused") mNx)
    (mSeq (mAsg (id (mLc (mZip (mCons (mVar 3) (mCons (mVar 1) mNil))) (mUnp 2 [(mSet 7), (mSet 8)]) (M.pure true) (mFz (mOp fMul (mPk 7) (mPk 8))) [7, 8])) (mSet 4))
    (mSeq (mIf (mTru fBl (mOp (fEqN false) (mCl fSum (mCons (mPk 4) mNil)) (M.pure (.v (.int 0))))) (mSeq (mAsg (mCl fTupOf (mCons (mLc (mZip (mCons (mVar 1) (mCons (mVar 0) mNil))) (mUnp 2 [(mSet 8), (mSet 9)]) (M.pure true) (mFz (mOp fAdd (mPk 8) (mOp fIx (mPk 9) (M.pure (.v (.int 1)))))) [8, 9]) mNil)) (mSet 1))
    (mAsg (id (mLc (mZip (mCons (mVar 3) (mCons (mVar 1) mNil))) (mUnp 2 [(mSet 7), (mSet 8)]) (M.pure true) (mFz (mOp fMul (mPk 7) (mPk 8))) [7, 8])) (mSet 4))) mNx)
    (mRet (mTup (mCons (mVar 1) (mCons (mVar 4) mNil))))))))
def F_cards_for : M Rv := runDef 10 3 m_cards_for
theorem sc_without : FnScope ["state", "k", "at"] ["state", "k"] (defScope st_without) := ⟨rfl, rfl, rfl, by decide +kernel, rfl, by decide +kernel, by decide +kernel⟩
def m_without : M Fl := (mRet (mCl fTupOf (mCons (mLc (mRng1 (mCons (mCl fLen (mCons (mPk 0) mNil)) mNil)) (mSet 2) (M.pure true) (mFz (mIte (mTru fBl (mOp (fEqN false) (mPk 2) (mPk 1))) (mOp fSub (mOp fIx (mPk 0) (mPk 2)) (M.pure (.v (.int 1)))) (mFz (mOp fIx (mPk 0) (mPk 2))))) [2]) mNil)))
def F_without : M Rv := runDef 3 2 m_without
theorem sc_deal : FnScope ["wheel", "state", "barred", "draw", "counts", "number", "k"] ["wheel", "state", "barred", "draw"] (defScope st_deal) := ⟨rfl, rfl, rfl, by decide +kernel, rfl, by decide +kernel, by decide +kernel⟩
def m_deal : M Fl := (mSeq (mAsg (mCall 3 F_cards_for (mCons (mVar 0) (mCons (mVar 1) (mCons (mVar 2) mNil)))) (mUnp 2 [(mSet 1), (mSet 4)]))
    (mSeq (mAsg (mOp fMod (mPk 3) (mCl fSum (mCons (mPk 4) mNil))) (mSet 5))
    (mSeq (mAsg (M.pure (.v (.int 0))) (mSet 6))
    (mSeq (mWhile (mTru fBl (mOp fGe (mPk 5) (mOp fIx (mPk 4) (mPk 6)))) (mSeq (mAug 5 fiSub (mOp fIx (mPk 4) (mPk 6)))
    (mAug 6 fiAdd (M.pure (.v (.int 1))))) [] 100)
    (mRet (mTup (mCons (mFz (mOp fIx (mOp fIx (mPk 0) (mPk 6)) (M.pure (.v (.int 0))))) (mCons (mFz (mCall 2 F_without (mCons (mVar 1) (mCons (mVar 6) mNil)))) mNil))))))))
def F_deal : M Rv := runDef 7 4 m_deal
theorem sc_can_deal : FnScope ["wheel", "barred"] ["wheel", "barred"] (defScope st_can_deal) := ⟨rfl, rfl, rfl, by decide +kernel, rfl, by decide +kernel, by decide +kernel⟩
def m_can_deal : M Fl := (mRet (mAny2 (fElIn true 1) (mVar 0)))
def F_can_deal : M Rv := runDef 2 2 m_can_deal
theorem sc_first_fault : FnScope ["wheel", "log", "state", "k", "cause", "barred", "draw", "judge", "due"] ["wheel", "log"] (defScope st_first_fault) := ⟨rfl, rfl, rfl, by decide +kernel, rfl, by decide +kernel, by decide +kernel⟩
def m_first_fault : M Fl := (mSeq (mAsg (mCall 1 F_full_state (mCons (mVar 0) mNil)) (mSet 2))
    (mSeq (mFor (mEnum (mCons (mVar 1) mNil)) (mUnp 2 [(mSet 3), (mUnp 4 [(mSet 4), (mSet 5), (mSet 6), (mSet 7)])]) (mSeq (mIf (mNot (mTru fTru (mCall 2 F_can_deal (mCons (mVar 0) (mCons (mVar 5) mNil))))) (mRet (mVar 3)) mNx)
    (mSeq (mAsg (mCall 4 F_deal (mCons (mVar 0) (mCons (mVar 2) (mCons (mVar 5) (mCons (mVar 6) mNil))))) (mUnp 2 [(mSet 8), (mSet 2)]))
    (mIf (mTru fBl (mOp (fEqN true) (mPk 8) (mPk 7))) (mRet (mVar 3)) mNx))) [3, 4, 5, 6, 7, 8])
    (mRet (M.pure (.v .non)))))
def F_first_fault : M Rv := runDef 9 2 m_first_fault
theorem sc_steps : FnScope ["wheel", "state", "barred", "counts", "whole", "k"] ["wheel", "state", "barred"] (defScope st_steps) := ⟨rfl, rfl, rfl, by decide +kernel, rfl, by decide +kernel, by decide +kernel⟩
def m_steps : M Fl := (mSeq (mAsg (mCall 3 F_cards_for (mCons (mVar 0) (mCons (mVar 1) (mCons (mVar 2) mNil)))) (mUnp 2 [(mSet 1), (mSet 3)]))
    (mSeq (mAsg (mCl fSum (mCons (mPk 3) mNil)) (mSet 4))
    (mRet (mLc (mRng1 (mCons (mCl fLen (mCons (mPk 3) mNil)) mNil)) (mSet 5) (mTru fBl (mOp fGt (mOp fIx (mPk 3) (mPk 5)) (M.pure (.v (.int 0))))) (mTup (mCons (mVar 5) (mCons (mFz (mCall 2 F_made (mCons (mFz (mOp fIx (mPk 3) (mPk 5))) (mCons (mVar 4) mNil)))) (mCons (mFz (mCall 2 F_without (mCons (mVar 1) (mCons (mVar 5) mNil)))) mNil)))) [5]))))
def F_steps : M Rv := runDef 6 3 m_steps
theorem sc_chances : FnScope ["wheel", "state", "barred", "k", "chance", "following"] ["wheel", "state", "barred"] (defScope st_chances) := ⟨rfl, rfl, rfl, by decide +kernel, rfl, by decide +kernel, by decide +kernel⟩
def m_chances : M Fl := (mRet (mCl fTupOf (mCons (mLc (mSeqIt (mCall 3 F_steps (mCons (mVar 0) (mCons (mVar 1) (mCons (mVar 2) mNil))))) (mUnp 3 [(mSet 3), (mSet 4), (mSet 5)]) (M.pure true) (mTup (mCons (mFz (mOp fIx (mOp fIx (mPk 0) (mPk 3)) (M.pure (.v (.int 0))))) (mCons (mVar 4) mNil))) [3, 4, 5]) mNil)))
def F_chances : M Rv := runDef 6 3 m_chances
theorem sc_chance_of : FnScope ["wheel", "record", "state", "whole", "cause", "barred", "judge", "found", "k", "chance", "following", "behind"] ["wheel", "record"] (defScope st_chance_of) := ⟨rfl, rfl, rfl, by decide +kernel, rfl, by decide +kernel, by decide +kernel⟩
def m_chance_of : M Fl := (mSeq (mAsg (mCall 1 F_full_state (mCons (mVar 0) mNil)) (mSet 2))
    (mSeq (mAsg (M.pure (.v d_ONE)) (mSet 3))
    (mSeq (mFor (mSeqIt (mPk 1)) (mUnp 3 [(mSet 4), (mSet 5), (mSet 6)]) (mSeq (mIf (mNot (mTru fTru (mCall 2 F_can_deal (mCons (mVar 0) (mCons (mVar 5) mNil))))) (mRet (M.pure (.v d_NOUGHT))) mNx)
    (mSeq (mAsg (M.pure (.v d_NOUGHT)) (mSet 7))
    (mSeq (mFor (mSeqIt (mCall 3 F_steps (mCons (mVar 0) (mCons (mVar 2) (mCons (mVar 5) mNil))))) (mUnp 3 [(mSet 8), (mSet 9), (mSet 10)]) (mIf (mTru fBl (mOp (fEqN false) (mOp fIx (mOp fIx (mPk 0) (mPk 8)) (M.pure (.v (.int 0)))) (mPk 6))) (mSeq (mAsg (mVar 9) (mSet 7))
    (mAsg (mVar 10) (mSet 11))) mNx) [8, 9, 10])
    (mSeq (mIf (mTru fBl (mOp (fEqN false) (mPk 7) (M.pure (.v d_NOUGHT)))) (mRet (M.pure (.v d_NOUGHT))) mNx)
    (mSeq (mAsg (mCall 2 F_times (mCons (mVar 3) (mCons (mVar 7) mNil))) (mSet 3))
    (mAsg (mVar 11) (mSet 2))))))) [4, 5, 6, 7, 8, 9, 10])
    (mRet (mVar 3)))))
def F_chance_of : M Rv := runDef 12 2 m_chance_of
theorem sc__law_open : FnScope ["script", "cells", "cell"] ["script"] (defScope st__law_open) := ⟨rfl, rfl, rfl, by decide +kernel, rfl, by decide +kernel, by decide +kernel⟩
def m__law_open : M Fl := (mSeq (mAsg (id (mLc (mSeqIt (mSl (mPk 0) (M.pure none) (mPart (M.pure (.v (.int 63)))))) (mSet 2) (M.pure true) (mCl fAbs (mCons (mCl fIntOf (mCons (mPk 2) mNil)) mNil)) [2])) (mSet 1))
    (mRet (mLst (mCons (M.pure (.v (.int 0))) (mCons (M.pure (.v (.int 0))) (mCons (mFz (mOp fAdd (mPk 1) (mLst (mCons (M.pure (.v (.int 0))) mNil)))) mNil))))))
def F__law_open : M Rv := runDef 3 1 m__law_open
theorem sc__law_mixed : FnScope ["cell", "turn", "number"] ["cell", "turn"] (defScope st__law_mixed) := ⟨rfl, rfl, rfl, by decide +kernel, rfl, by decide +kernel, by decide +kernel⟩
def m__law_mixed : M Fl := (mSeq (mAsg (mOp fMod (mOp fAdd (mOp fAdd (mOp fMul (mOp fMod (mPk 0) (mOp fSub (mOp fPow (M.pure (.v (.int 2))) (M.pure (.v (.int 61)))) (M.pure (.v (.int 1))))) (M.pure (.v (.int 6364136223846793005)))) (mOp fMul (mPk 1) (M.pure (.v (.int 1442695040888963407))))) (M.pure (.v (.int 97)))) (mOp fPow (M.pure (.v (.int 2))) (M.pure (.v (.int 61))))) (mSet 2))
    (mSeq (mAsg (mOp fMod (mOp fMul (mOp fXor (mPk 2) (mOp fShr (mPk 2) (M.pure (.v (.int 29))))) (M.pure (.v (.int 3935559000370003845)))) (mOp fPow (M.pure (.v (.int 2))) (M.pure (.v (.int 61))))) (mSet 2))
    (mRet (mOp fMod (mOp fMul (mOp fXor (mPk 2) (mOp fShr (mPk 2) (M.pure (.v (.int 31))))) (M.pure (.v (.int 2862933555777941757)))) (mOp fPow (M.pure (.v (.int 2))) (M.pure (.v (.int 61))))))))
def F__law_mixed : M Rv := runDef 3 2 m__law_mixed
theorem sc__law_draw : FnScope ["draws", "size", "turn", "left", "cells", "cell"] ["draws", "size"] (defScope st__law_draw) := ⟨rfl, rfl, rfl, by decide +kernel, rfl, by decide +kernel, by decide +kernel⟩
def m__law_draw : M Fl := (mSeq (mAsg (mPk 0) (mUnp 3 [(mSet 2), (mSet 3), (mSet 4)]))
    (mSeq (mIf (mTru fBl (mOp fLt (mPk 3) (mPk 1))) (mSeq (mAsg (mOp fIx (mPk 4) (mOp fMod (mPk 2) (mCl fLen (mCons (mPk 4) mNil)))) (mSet 5))
    (mSeq (mAsg (mIte (mAnd (mTru fBl (mOp fLt (mPk 2) (mCl fLen (mCons (mPk 4) mNil)))) (mTru fBl (mOp fGe (mPk 5) (mOp fPow (M.pure (.v (.int 10))) (M.pure (.v (.int 18))))))) (mVar 5) (mFz (mCall 2 F__law_mixed (mCons (mVar 5) (mCons (mVar 2) mNil))))) (mSet 3))
    (mAsg (mOp fAdd (mPk 2) (M.pure (.v (.int 1)))) (mSet 2)))) mNx)
    (mSeq (mSetIx 0 (M.pure (.v (.int 0))) (mVar 2))
    (mSeq (mSetIx 0 (M.pure (.v (.int 1))) (mOp fDiv (mPk 3) (mPk 1)))
    (mRet (mOp fMod (mPk 3) (mPk 1)))))))
def F__law_draw : M Rv := runDef 6 2 m__law_draw
theorem sc__law_int : FnScope ["value"] ["value"] (defScope st__law_int) := ⟨rfl, rfl, rfl, by decide +kernel, rfl, by decide +kernel, by decide +kernel⟩
def m__law_int : M Fl := (mRet (mAndV (mUn (fIsi "int") (mPk 0)) (mNotV (mUn (fIsi "bool") (mPk 0)))))
def F__law_int : M Rv := runDef 1 1 m__law_int
theorem sc__law_wheel : FnScope ["draws", "names", "most", "name"] ["draws"] (defScope st__law_wheel) := ⟨rfl, rfl, rfl, by decide +kernel, rfl, by decide +kernel, by decide +kernel⟩
def m__law_wheel : M Fl := (mSeq (mAsg (mLst (mCons (M.pure (.v (.str "ann"))) (mCons (M.pure (.v (.str "bob"))) (mCons (M.pure (.v (.str "cid"))) (mCons (M.pure (.v (.str "dan"))) (mCons (M.pure (.v (.str "eve"))) (mCons (M.pure (.v (.str "fay"))) (mCons (M.pure (.v (.str "gus"))) (mCons (M.pure (.v (.str "hal"))) mNil))))))))) (mSet 1))
    (mSeq (mAsg (mOp fIx (mLst (mCons (M.pure (.v (.int 1))) (mCons (M.pure (.v (.int 3))) (mCons (M.pure (.v (.int 8))) mNil)))) (mCall 2 F__law_draw (mCons (mPk 0) (mCons (M.pure (.v (.int 3))) mNil)))) (mSet 2))
    (mRet (mCl fTupOf (mCons (mLc (mSeqIt (mSl (mPk 1) (M.pure none) (mPart (mOp fAdd (M.pure (.v (.int 1))) (mCall 2 F__law_draw (mCons (mPk 0) (mCons (mVar 2) mNil))))))) (mSet 3) (M.pure true) (mTup (mCons (mVar 3) (mCons (mFz (mOp fAdd (M.pure (.v (.int 1))) (mCall 2 F__law_draw (mCons (mPk 0) (mCons (mFz (mOp fIx (mLst (mCons (M.pure (.v (.int 6))) (mCons (M.pure (.v (.int 2))) mNil))) (mCall 2 F__law_draw (mCons (mPk 0) (mCons (M.pure (.v (.int 2))) mNil))))) mNil))))) mNil))) [3]) mNil)))))
def F__law_wheel : M Rv := runDef 4 1 m__law_wheel
theorem sc__law_barred : FnScope ["draws", "wheel", "more", "names", "kind", "rows", "kept", "pair", "name", "k"] ["draws", "wheel", "more"] (defScope st__law_barred) := ⟨rfl, rfl, rfl, by decide +kernel, rfl, by decide +kernel, by decide +kernel⟩
def m__law_barred : M Fl := (mSeq (mAsg (mLc (mSeqIt (mPk 1)) (mSet 7) (M.pure true) (mFz (mOp fIx (mPk 7) (M.pure (.v (.int 0))))) [7]) (mSet 3))
    (mSeq (mAsg (mCall 2 F__law_draw (mCons (mPk 0) (mCons (M.pure (.v (.int 5))) mNil))) (mSet 4))
    (mSeq (mAsg (mLst mNil) (mSet 5))
    (mSeq (mIf (mTru fBl (mOp (fEqN false) (mPk 4) (M.pure (.v (.int 1))))) (mAsg (mLc (mSeqIt (mPk 3)) (mSet 8) (mTru fBl (mOp (fEqN false) (mCall 2 F__law_draw (mCons (mPk 0) (mCons (M.pure (.v (.int 2))) mNil))) (M.pure (.v (.int 1))))) (mVar 8) [8]) (mSet 5)) mNx)
    (mSeq (mIf (mTru fBl (mOp (fEqN false) (mPk 4) (M.pure (.v (.int 2))))) (mSeq (mAsg (mCall 2 F__law_draw (mCons (mPk 0) (mCons (mCl fLen (mCons (mPk 3) mNil)) mNil))) (mSet 6))
    (mAsg (mLc (mRng1 (mCons (mCl fLen (mCons (mPk 3) mNil)) mNil)) (mSet 9) (mTru fBl (mOp (fEqN true) (mPk 9) (mPk 6))) (mFz (mOp fIx (mPk 3) (mPk 9))) [9]) (mSet 5))) mNx)
    (mSeq (mIf (mTru fBl (mOp (fEqN false) (mPk 4) (M.pure (.v (.int 3))))) (mAsg (mOp fAdd (mLst (mCons (M.pure (.v (.str "abe"))) (mCons (M.pure (.v (.str "zed"))) mNil))) (mLc (mSeqIt (mPk 3)) (mSet 8) (mTru fBl (mOp (fEqN false) (mCall 2 F__law_draw (mCons (mPk 0) (mCons (M.pure (.v (.int 3))) mNil))) (M.pure (.v (.int 0))))) (mVar 8) [8])) (mSet 5)) mNx)
    (mSeq (mIf (mAnd (mNot (mTru fTru (mVar 2))) (mTru fBl (mOp (fEqN false) (mCl fLen (mCons (mLc (mSeqIt (mPk 3)) (mSet 8) (mTru fBl (mOp (fIn true) (mPk 8) (mPk 5))) (mVar 8) [8]) mNil)) (M.pure (.v (.int 0)))))) (mAsg (mLc (mSeqIt (mPk 5)) (mSet 8) (mTru fBl (mOp (fEqN true) (mPk 8) (mOp fIx (mPk 3) (M.pure (.v (.int 0)))))) (mVar 8) [8]) (mSet 5)) mNx)
    (mRet (mCl fTupOf (mCons (mCl fSorted (mCons (mPk 5) mNil)) mNil))))))))))
def F__law_barred : M Rv := runDef 10 3 m__law_barred
theorem sc__law_step : FnScope ["wheel", "state", "barred", "able", "cards", "filled", "row", "k"] ["wheel", "state", "barred"] (defScope st__law_step) := ⟨rfl, rfl, rfl, by decide +kernel, rfl, by decide +kernel, by decide +kernel⟩
def m__law_step : M Fl := (mSeq (mAsg (id (mLc (mRng1 (mCons (mCl fLen (mCons (mPk 0) mNil)) mNil)) (mSet 7) (mTru fBl (mOp (fIn true) (mOp fIx (mOp fIx (mPk 0) (mPk 7)) (M.pure (.v (.int 0)))) (mPk 2))) (mVar 7) [7])) (mSet 3))
    (mSeq (mAsg (mCl fListOf (mCons (mPk 1) mNil)) (mSet 4))
    (mSeq (mAsg (M.pure (.v (.int 0))) (mSet 5))
    (mSeq (mIf (mTru fBl (mOp (fEqN false) (mCl fSum (mCons (mLc (mSeqIt (mPk 3)) (mSet 7) (M.pure true) (mFz (mOp fIx (mPk 4) (mPk 7))) [7]) mNil)) (M.pure (.v (.int 0))))) (mSeq (mAsg (mLc (mRng1 (mCons (mCl fLen (mCons (mPk 0) mNil)) mNil)) (mSet 7) (M.pure true) (mFz (mOp fAdd (mOp fIx (mPk 4) (mPk 7)) (mOp fIx (mOp fIx (mPk 0) (mPk 7)) (M.pure (.v (.int 1)))))) [7]) (mSet 4))
    (mAsg (M.pure (.v (.int 1))) (mSet 5))) mNx)
    (mSeq (mAsg (mLst mNil) (mSet 6))
    (mSeq (mFor (mSeqIt (mPk 3)) (mSet 7) (mAsg (mOp fAdd (mPk 6) (mOp fMul (mLst (mCons (mVar 7) mNil)) (mOp fIx (mPk 4) (mPk 7)))) (mSet 6)) [7])
    (mRet (mTupM (mCons (mMov 4) (mCons (mMov 6) (mCons (mMov 5) mNil)))))))))))
def F__law_step : M Rv := runDef 8 3 m__law_step
theorem sc__law_deal : FnScope ["wheel", "state", "barred", "draw", "cards", "row", "filled", "k"] ["wheel", "state", "barred", "draw"] (defScope st__law_deal) := ⟨rfl, rfl, rfl, by decide +kernel, rfl, by decide +kernel, by decide +kernel⟩
def m__law_deal : M Fl := (mSeq (mAsg (mCall 3 F__law_step (mCons (mVar 0) (mCons (mVar 1) (mCons (mVar 2) mNil)))) (mUnp 3 [(mSet 4), (mSet 5), (mSet 6)]))
    (mSeq (mAsg (mOp fIx (mPk 5) (mOp fMod (mPk 3) (mCl fLen (mCons (mPk 5) mNil)))) (mSet 7))
    (mSeq (mSetIx 4 (mPk 7) (mOp fSub (mOp fIx (mPk 4) (mPk 7)) (M.pure (.v (.int 1)))))
    (mRet (mTup (mCons (mVar 7) (mCons (mCl fTupOf (mCons (mPk 4) mNil)) (mCons (mVar 6) mNil))))))))
def F__law_deal : M Rv := runDef 8 4 m__law_deal
theorem sc__law_able : FnScope ["wheel", "barred", "pair"] ["wheel", "barred"] (defScope st__law_able) := ⟨rfl, rfl, rfl, by decide +kernel, rfl, by decide +kernel, by decide +kernel⟩
def m__law_able : M Fl := (mRet (mOp (fEqN true) (mLc (mSeqIt (mPk 0)) (mSet 2) (mTru fBl (mOp (fIn true) (mOp fIx (mPk 2) (M.pure (.v (.int 0)))) (mPk 1))) (mFz (mOp fIx (mPk 2) (M.pure (.v (.int 0))))) [2]) (mLst mNil)))
def F__law_able : M Rv := runDef 3 2 m__law_able
theorem sc__law_lowest : FnScope ["part", "whole", "one", "other", "k", "rest"] ["part", "whole"] (defScope st__law_lowest) := ⟨rfl, rfl, rfl, by decide +kernel, rfl, by decide +kernel, by decide +kernel⟩
def m__law_lowest : M Fl := (mSeq (mAsg (mVar 1) (mSet 2))
    (mSeq (mAsg (mVar 0) (mSet 3))
    (mSeq (mFor (mRng1 (mCons (M.pure (.v (.int 400))) mNil)) (mSet 4) (mSeq (mIf (mTru fBl (mOp (fEqN false) (mPk 3) (M.pure (.v (.int 0))))) mBk mNx)
    (mSeq (mAsg (mOp fMod (mPk 2) (mPk 3)) (mSet 5))
    (mSeq (mAsg (mVar 3) (mSet 2))
    (mAsg (mVar 5) (mSet 3))))) [4, 5])
    (mRet (mTup (mCons (mOp fDiv (mPk 0) (mPk 2)) (mCons (mOp fDiv (mPk 1) (mPk 2)) mNil)))))))
def F__law_lowest : M Rv := runDef 6 2 m__law_lowest
theorem sc__law_is : FnScope ["value", "due", "one"] ["value", "due"] (defScope st__law_is) := ⟨rfl, rfl, rfl, by decide +kernel, rfl, by decide +kernel, by decide +kernel⟩
def m__law_is : M Fl := (mSeq (mIf (mOr (mNot (mTru fTru (mUn (fIsi "tuple") (mPk 0)))) (mOr (mTru fBl (mOp (fEqN true) (mCl fLen (mCons (mPk 0) mNil)) (M.pure (.v (.int 2))))) (mTru fBl (mOp (fIn false) (M.pure (.v (.bl false))) (mLc (mSeqIt (mPk 0)) (mSet 2) (M.pure true) (mFz (mCall 1 F__law_int (mCons (mVar 2) mNil))) [2]))))) (mRet (M.pure (.v (.bl false)))) mNx)
    (mRet (mAndV (mOp (fEqN false) (mOp fIx (mPk 0) (M.pure (.v (.int 0)))) (mOp fIx (mPk 1) (M.pure (.v (.int 0))))) (mOp (fEqN false) (mOp fIx (mPk 0) (M.pure (.v (.int 1)))) (mOp fIx (mPk 1) (M.pure (.v (.int 1))))))))
def F__law_is : M Rv := runDef 3 2 m__law_is
theorem sc__law_chance : FnScope ["wheel", "record", "state", "part", "whole", "log", "name", "barred", "judge", "cards", "row", "filled", "places", "weight", "k"] ["wheel", "record"] (defScope st__law_chance) := ⟨rfl, rfl, rfl, by decide +kernel, rfl, by decide +kernel, by decide +kernel⟩
def m__law_chance : M Fl := (mSeq (mAsg (mCl fTupOf (mCons (mLc (mSeqIt (mPk 0)) (mUnp 2 [(mSet 8), (mSet 13)]) (M.pure true) (mVar 13) [8, 13]) mNil)) (mSet 2))
    (mSeq (mAsg (M.pure (.v (.int 1))) (mSet 3))
    (mSeq (mAsg (M.pure (.v (.int 1))) (mSet 4))
    (mSeq (mAsg (mLst mNil) (mSet 5))
    (mSeq (mFor (mSeqIt (mPk 1)) (mUnp 3 [(mSet 6), (mSet 7), (mSet 8)]) (mSeq (mIf (mNot (mTru fTru (mCall 2 F__law_able (mCons (mVar 0) (mCons (mVar 7) mNil))))) (mRet (mTup (mCons (mTup (mCons (M.pure (.v (.int 0))) (mCons (M.pure (.v (.int 1))) mNil))) (mCons (M.pure (.v .non)) mNil)))) mNx)
    (mSeq (mAsg (mCall 3 F__law_step (mCons (mVar 0) (mCons (mVar 2) (mCons (mVar 7) mNil)))) (mUnp 3 [(mSet 9), (mSet 10), (mSet 11)]))
    (mSeq (mAsg (id (mLc (mRng1 (mCons (mCl fLen (mCons (mPk 10) mNil)) mNil)) (mSet 14) (mTru fBl (mOp (fEqN false) (mOp fIx (mOp fIx (mPk 0) (mOp fIx (mPk 10) (mPk 14))) (M.pure (.v (.int 0)))) (mPk 8))) (mVar 14) [14])) (mSet 12))
    (mSeq (mIf (mTru fBl (mOp (fEqN false) (mPk 12) (mLst mNil))) (mRet (mTup (mCons (mTup (mCons (M.pure (.v (.int 0))) (mCons (M.pure (.v (.int 1))) mNil))) (mCons (M.pure (.v .non)) mNil)))) mNx)
    (mSeq (mAsg (mOp fMul (mPk 3) (mCl fLen (mCons (mPk 12) mNil))) (mSet 3))
    (mSeq (mAsg (mOp fMul (mPk 4) (mCl fLen (mCons (mPk 10) mNil))) (mSet 4))
    (mSeq (mApp 5 (mTup (mCons (mVar 6) (mCons (mVar 7) (mCons (mFz (mOp fIx (mPk 12) (mUn fNeg (M.pure (.v (.int 1)))))) (mCons (mVar 8) mNil))))))
    (mAsg (mOp fIx (mCall 4 F__law_deal (mCons (mVar 0) (mCons (mVar 2) (mCons (mVar 7) (mCons (mFz (mOp fIx (mPk 12) (mUn fNeg (M.pure (.v (.int 1)))))) mNil))))) (M.pure (.v (.int 1)))) (mSet 2))))))))) [6, 7, 8, 9, 10, 11, 12])
    (mRet (mTup (mCons (mFz (mCall 2 F__law_lowest (mCons (mVar 3) (mCons (mVar 4) mNil)))) (mCons (mVar 5) mNil)))))))))
def F__law_chance : M Rv := runDef 15 2 m__law_chance
theorem sc__law_asked : FnScope ["wheel", "record", "handed", "due", "log", "told"] ["wheel", "record"] (defScope st__law_asked) := ⟨rfl, rfl, rfl, by decide +kernel, rfl, by decide +kernel, by decide +kernel⟩
def m__law_asked : M Fl := (mSeq (mAsg (mCl fListOf (mCons (mPk 1) mNil)) (mSet 2))
    (mSeq (mAsg (mCall 2 F__law_chance (mCons (mVar 0) (mCons (mVar 1) mNil))) (mUnp 2 [(mSet 3), (mSet 4)]))
    (mSeq (mAsg (mCall 2 F_chance_of (mCons (mVar 0) (mCons (mVar 2) mNil))) (mSet 5))
    (mSeq (mIf (mOr (mTru fBl (mOp (fEqN true) (mPk 2) (mPk 1))) (mNot (mTru fTru (mCall 2 F__law_is (mCons (mVar 5) (mCons (mVar 3) mNil)))))) (mRet (M.pure (.v (.bl false)))) mNx)
    (mSeq (mIf (mTru fBl (mOp (fIsN false) (mPk 4) (M.pure (.v .non)))) (mRet (mOp (fEqN false) (mPk 5) (mTup (mCons (M.pure (.v (.int 0))) (mCons (M.pure (.v (.int 1))) mNil))))) mNx)
    (mRet (mAndV (mOp (fEqN true) (mPk 5) (mTup (mCons (M.pure (.v (.int 0))) (mCons (M.pure (.v (.int 1))) mNil)))) (mOp (fIsN false) (mCall 2 F_first_fault (mCons (mVar 0) (mCons (mVar 4) mNil))) (M.pure (.v .non))))))))))
def F__law_asked : M Rv := runDef 6 2 m__law_asked
theorem sc__law_all : FnScope ["wheel", "rows", "records", "names", "barred", "more", "record", "name", "part", "whole", "one", "pair"] ["wheel", "rows"] (defScope st__law_all) := ⟨rfl, rfl, rfl, by decide +kernel, rfl, by decide +kernel, by decide +kernel⟩
def m__law_all : M Fl := (mSeq (mAsg (mLst (mCons (mFz (mLst mNil)) mNil)) (mSet 2))
    (mSeq (mAsg (mOp fAdd (mLc (mSeqIt (mPk 0)) (mSet 11) (M.pure true) (mFz (mOp fIx (mPk 11) (M.pure (.v (.int 0))))) [11]) (mLst (mCons (M.pure (.v (.str "zed"))) mNil))) (mSet 3))
    (mSeq (mFor (mSeqIt (mPk 1)) (mSet 4) (mSeq (mAsg (mLst mNil) (mSet 5))
    (mSeq (mFor (mSeqIt (mPk 2)) (mSet 6) (mFor (mSeqIt (mPk 3)) (mSet 7) (mApp 5 (mFz (mOp fAdd (mPk 6) (mLst (mCons (mTup (mCons (M.pure (.v (.str "case"))) (mCons (mVar 4) (mCons (mVar 7) mNil)))) mNil))))) [7]) [6, 7])
    (mAsg (mVar 5) (mSet 2)))) [4, 5, 6, 7])
    (mSeq (mAsg (M.pure (.v (.int 0))) (mSet 8))
    (mSeq (mAsg (M.pure (.v (.int 1))) (mSet 9))
    (mSeq (mFor (mSeqIt (mPk 2)) (mSet 6) (mSeq (mIf (mNot (mTru fTru (mCall 2 F__law_asked (mCons (mVar 0) (mCons (mVar 6) mNil))))) (mRet (M.pure (.v (.bl false)))) mNx)
    (mSeq (mAsg (mCall 2 F_chance_of (mCons (mVar 0) (mCons (mVar 6) mNil))) (mSet 10))
    (mAsg (mCall 2 F__law_lowest (mCons (mFz (mOp fAdd (mOp fMul (mPk 8) (mOp fIx (mPk 10) (M.pure (.v (.int 1))))) (mOp fMul (mOp fIx (mPk 10) (M.pure (.v (.int 0)))) (mPk 9)))) (mCons (mFz (mOp fMul (mPk 9) (mOp fIx (mPk 10) (M.pure (.v (.int 1)))))) mNil))) (mUnp 2 [(mSet 8), (mSet 9)])))) [6, 10])
    (mRet (mAndV (mOp (fEqN false) (mPk 8) (M.pure (.v (.int 1)))) (mOp (fEqN false) (mPk 9) (M.pure (.v (.int 1))))))))))))
def F__law_all : M Rv := runDef 12 2 m__law_all
def ct__law_state : Str → Option Bool := fun c => if c = "Refused" then some true else none
def mh__law_able (a : Addr) : M Fl := (mRet (mOp (fEqN true) (mLc (mSeqIt (mPk 0)) (mSet 2) (mTru fBl (mOp (fIn true) (mOp fIx (mPk 2) (M.pure (.v (.int 0)))) (mPk 1))) (mFz (mOp fIx (mPk 2) (M.pure (.v (.int 0))))) [2]) (mLst mNil)))
def mx__law_able (a : Addr) (c : Str) : M Fl := if c = "Refused" then mh__law_able a else mBad
def G__law_able (a : Addr) (c : Str) : M Rv := runDef 3 2 (mx__law_able a c)
def mh__law_told (a : Addr) : M Fl := (mSeq (mAsg (mLst (mCons (mTup (mCons (M.pure (.v (.str "OutOfRange"))) (mCons (mUn (fIsE a false) (mPk 0)) mNil))) (mCons (mTup (mCons (M.pure (.v (.str "Malformed"))) (mCons (mUn (fIsE a false) (mPk 0)) mNil))) (mCons (mTup (mCons (M.pure (.v (.str "NotThere"))) (mCons (mUn (fIsE a false) (mPk 0)) mNil))) (mCons (mTup (mCons (M.pure (.v (.str "Refused"))) (mCons (mUn (fIsE a true) (mPk 0)) mNil))) (mCons (mTup (mCons (M.pure (.v (.str "TooMuch"))) (mCons (mUn (fIsE a false) (mPk 0)) mNil))) mNil)))))) (mSet 1))
    (mSeq (mAsg (mLc (mSeqIt (mPk 1)) (mUnpT 2 [(mSet 3), (mSet 4)]) (mTru fTru (mVar 4)) (mVar 3) [3, 4]) (mSet 2))
    (mSeq (mIf (mOr (mTru fBl (mOp (fEqN true) (mCl fLen (mCons (mPk 2) mNil)) (M.pure (.v (.int 1))))) (mNot (mTru fTru (mUn (fIsE a true) (mPk 0))))) (mRet (M.pure (.v (.str "several")))) mNx)
    (mRet (mOp fIx (mPk 2) (M.pure (.v (.int 0))))))))
def mx__law_told (a : Addr) (c : Str) : M Fl := if c = "Refused" then mh__law_told a else mBad
def G__law_told (a : Addr) (c : Str) : M Rv := runDef 5 1 (mx__law_told a c)
theorem sc__law_told : FnScope ["error", "kinds", "names", "name", "true"] ["error"] (defScope st__law_told) := ⟨rfl, rfl, rfl, by decide +kernel, rfl, by decide +kernel, by decide +kernel⟩
theorem sc__law_state : FnScope ["wheel", "state", "barred", "told", "error", "cards", "row", "filled", "due", "k", "pair"] ["wheel", "state", "barred"] (defScope st__law_state) := ⟨rfl, rfl, rfl, by decide +kernel, rfl, by decide +kernel, by decide +kernel⟩
def m__law_state : M Fl := (mSeq (mTry 4 ct__law_state (mAsg (mCall 3 F_chances (mCons (mVar 0) (mCons (mVar 1) (mCons (mVar 2) mNil)))) (mSet 3)) (fun a c => (mRet (mAndV (mNotV (mCall 2 (G__law_able a c) (mCons (mVar 0) (mCons (mVar 2) mNil)))) (mOp (fEqN false) (mCall 1 (G__law_told a c) (mCons (mVar 4) mNil)) (M.pure (.v (.str "Refused"))))))))
    (mSeq (mIf (mOr (mNot (mTru fTru (mCall 2 F__law_able (mCons (mVar 0) (mCons (mVar 2) mNil))))) (mNot (mTru fTru (mUn (fIsi "tuple") (mPk 3))))) (mRet (M.pure (.v (.bl false)))) mNx)
    (mSeq (mAsg (mCall 3 F__law_step (mCons (mVar 0) (mCons (mVar 1) (mCons (mVar 2) mNil)))) (mUnp 3 [(mSet 5), (mSet 6), (mSet 7)]))
    (mSeq (mAsg (mLst mNil) (mSet 8))
    (mSeq (mFor (mRng1 (mCons (mCl fLen (mCons (mPk 0) mNil)) mNil)) (mSet 9) (mIf (mTru fBl (mOp fGt (mMt fCount (mPk 6) (mCons (mPk 9) mNil)) (M.pure (.v (.int 0))))) (mApp 8 (mTup (mCons (mFz (mOp fIx (mOp fIx (mPk 0) (mPk 9)) (M.pure (.v (.int 0))))) (mCons (mFz (mCall 2 F__law_lowest (mCons (mFz (mMt fCount (mPk 6) (mCons (mPk 9) mNil))) (mCons (mCl fLen (mCons (mPk 6) mNil)) mNil)))) mNil)))) mNx) [9])
    (mSeq (mIf (mOr (mTru fBl (mOp (fIn false) (M.pure (.v (.bl false))) (mLc (mSeqIt (mPk 3)) (mSet 10) (M.pure true) (mAndV (mUn (fIsi "tuple") (mPk 10)) (mOp (fEqN false) (mCl fLen (mCons (mPk 10) mNil)) (M.pure (.v (.int 2))))) [10]))) (mTru fBl (mOp (fEqN true) (mLc (mSeqIt (mPk 3)) (mSet 10) (M.pure true) (mFz (mOp fIx (mPk 10) (M.pure (.v (.int 0))))) [10]) (mLc (mSeqIt (mPk 8)) (mSet 10) (M.pure true) (mFz (mOp fIx (mPk 10) (M.pure (.v (.int 0))))) [10])))) (mRet (M.pure (.v (.bl false)))) mNx)
    (mRet (mOp (fIn true) (M.pure (.v (.bl false))) (mLc (mRng1 (mCons (mCl fLen (mCons (mPk 8) mNil)) mNil)) (mSet 9) (M.pure true) (mFz (mCall 2 F__law_is (mCons (mFz (mOp fIx (mOp fIx (mPk 3) (mPk 9)) (M.pure (.v (.int 1))))) (mCons (mFz (mOp fIx (mOp fIx (mPk 8) (mPk 9)) (M.pure (.v (.int 1))))) mNil)))) [9])))))))))
def F__law_state : M Rv := runDef 11 3 m__law_state
theorem sc_law : FnScope ["script", "draws", "wheel", "small", "rows", "names", "record", "state", "k", "barred", "at", "filled", "name", "pair", "judge", "weight"] ["script"] (defScope st_law) := ⟨rfl, rfl, rfl, by decide +kernel, rfl, by decide +kernel, by decide +kernel⟩
def m_law : M Fl := (mSeq (mAsg (mCall 1 F__law_open (mCons (mVar 0) mNil)) (mSet 1))
    (mSeq (mAsg (mCall 1 F__law_wheel (mCons (mPk 1) mNil)) (mSet 2))
    (mSeq (mAsg (mSl (mPk 2) (M.pure none) (mPart (mOp fIx (mLst (mCons (M.pure (.v (.int 4))) (mCons (M.pure (.v (.int 3))) (mCons (M.pure (.v (.int 2))) mNil)))) (mCall 2 F__law_draw (mCons (mPk 1) (mCons (M.pure (.v (.int 3))) mNil)))))) (mSet 3))
    (mSeq (mAsg (id (mLc (mRng1 (mCons (mOp fIx (mLst (mCons (mFz (mCall 2 F__law_draw (mCons (mPk 1) (mCons (M.pure (.v (.int 5))) mNil)))) (mCons (M.pure (.v (.int 2))) mNil))) (mCl fIntOf (mCons (mOp (fEqN false) (mCl fLen (mCons (mPk 3) mNil)) (M.pure (.v (.int 4)))) mNil))) mNil)) (mSet 8) (M.pure true) (mFz (mCall 3 F__law_barred (mCons (mPk 1) (mCons (mVar 3) (mCons (M.pure (.v (.bl false))) mNil))))) [8])) (mSet 4))
    (mSeq (mIf (mNot (mTru fTru (mCall 2 F__law_all (mCons (mVar 3) (mCons (mVar 4) mNil))))) (mRet (M.pure (.v (.bl false)))) mNx)
    (mSeq (mAsg (id (mLc (mSeqIt (mPk 2)) (mSet 13) (M.pure true) (mFz (mOp fIx (mPk 13) (M.pure (.v (.int 0))))) [13])) (mSet 5))
    (mSeq (mAsg (mLst mNil) (mSet 6))
    (mSeq (mAsg (mCl fTupOf (mCons (mLc (mSeqIt (mPk 2)) (mUnp 2 [(mSet 14), (mSet 15)]) (M.pure true) (mVar 15) [14, 15]) mNil)) (mSet 7))
    (mSeq (mFor (mRng1 (mCons (mCall 2 F__law_draw (mCons (mPk 1) (mCons (M.pure (.v (.int 15))) mNil))) mNil)) (mSet 8) (mSeq (mAsg (mCall 3 F__law_barred (mCons (mPk 1) (mCons (mVar 2) (mCons (M.pure (.v (.bl false))) mNil)))) (mSet 9))
    (mSeq (mIf (mOr (mNot (mTru fTru (mCall 3 F__law_state (mCons (mVar 2) (mCons (mVar 7) (mCons (mVar 9) mNil)))))) (mNot (mTru fTru (mCall 3 F__law_state (mCons (mVar 2) (mCons (mCl fTupOf (mCons (mLc (mSeqIt (mPk 2)) (mSet 13) (M.pure true) (mFz (mCall 2 F__law_draw (mCons (mPk 1) (mCons (M.pure (.v (.int 5))) mNil)))) [13]) mNil)) (mCons (mVar 9) mNil))))))) (mRet (M.pure (.v (.bl false)))) mNx)
    (mSeq (mAsg (mCall 4 F__law_deal (mCons (mVar 2) (mCons (mVar 7) (mCons (mVar 9) (mCons (mFz (mCall 2 F__law_draw (mCons (mPk 1) (mCons (M.pure (.v (.int 1000))) mNil)))) mNil))))) (mUnp 3 [(mSet 10), (mSet 7), (mSet 11)]))
    (mApp 6 (mTup (mCons (M.pure (.v (.str "case"))) (mCons (mVar 9) (mCons (mFz (mOp fIx (mOp fIx (mPk 2) (mPk 10)) (M.pure (.v (.int 0))))) mNil)))))))) [8, 9, 10, 11])
    (mSeq (mIf (mOr (mNot (mTru fTru (mCall 2 F__law_asked (mCons (mVar 2) (mCons (mVar 6) mNil))))) (mNot (mTru fTru (mCall 3 F__law_state (mCons (mVar 2) (mCons (mVar 7) (mCons (mCl fTupOf (mCons (mPk 5) mNil)) mNil))))))) (mRet (M.pure (.v (.bl false)))) mNx)
    (mSeq (mFor (mRng1 (mCons (mCl fLen (mCons (mPk 6) mNil)) mNil)) (mSet 8) (mFor (mSeqIt (mLst (mCons (mFz (mOp fIx (mPk 5) (mCall 2 F__law_draw (mCons (mPk 1) (mCons (mCl fLen (mCons (mPk 5) mNil)) mNil))))) (mCons (M.pure (.v (.str "zed"))) mNil)))) (mSet 12) (mIf (mNot (mTru fTru (mCall 2 F__law_asked (mCons (mVar 2) (mCons (mFz (mOp fAdd (mOp fAdd (mSl (mPk 6) (M.pure none) (mPart (mPk 8))) (mLst (mCons (mTup (mCons (M.pure (.v (.str "case"))) (mCons (mFz (mOp fIx (mOp fIx (mPk 6) (mPk 8)) (M.pure (.v (.int 1))))) (mCons (mVar 12) mNil)))) mNil))) (mSl (mPk 6) (mPart (mOp fAdd (mPk 8) (M.pure (.v (.int 1))))) (M.pure none)))) mNil))))) (mRet (M.pure (.v (.bl false)))) mNx) [12]) [8, 12])
    (mRet (mAndV (mCall 2 F__law_asked (mCons (mVar 2) (mCons (mFz (mOp fAdd (mPk 6) (mLst (mCons (mTup (mCons (M.pure (.v (.str "case"))) (mCons (mCl fTupOf (mCons (mPk 5) mNil)) (mCons (mFz (mOp fIx (mPk 5) (M.pure (.v (.int 0))))) mNil)))) mNil)))) mNil))) (mCall 2 F__law_asked (mCons (mVar 2) (mCons (mFz (mLst mNil)) mNil))))))))))))))))
def F_law : M Rv := runDef 16 1 m_law
/-- what the top gives -/
structure Top (P : Program) (w : World) (K : PySem.W.Frag) (mg : Str → Option Value) (base : Heap) where
  cv : Cv
  a_lowest : Addr
  d_lowest : FuncData
  u_lowest : Fun K "lowest" "lowest" st_lowest a_lowest d_lowest
  g_lowest : mg "lowest" = some (.ref a_lowest)
  b_lowest : Binds K d_lowest ["part", "whole"] []
  a_made : Addr
  d_made : FuncData
  u_made : Fun K "made" "made" st_made a_made d_made
  g_made : mg "made" = some (.ref a_made)
  b_made : Binds K d_made ["part", "whole"] []
  a_times : Addr
  d_times : FuncData
  u_times : Fun K "times" "times" st_times a_times d_times
  g_times : mg "times" = some (.ref a_times)
  b_times : Binds K d_times ["one", "other"] []
  a_full_state : Addr
  d_full_state : FuncData
  u_full_state : Fun K "full_state" "full_state" st_full_state a_full_state d_full_state
  g_full_state : mg "full_state" = some (.ref a_full_state)
  b_full_state : Binds K d_full_state ["wheel"] []
  a_cards_for : Addr
  d_cards_for : FuncData
  u_cards_for : Fun K "cards_for" "cards_for" st_cards_for a_cards_for d_cards_for
  g_cards_for : mg "cards_for" = some (.ref a_cards_for)
  b_cards_for : Binds K d_cards_for ["wheel", "state", "barred"] []
  a_without : Addr
  d_without : FuncData
  u_without : Fun K "without" "without" st_without a_without d_without
  g_without : mg "without" = some (.ref a_without)
  b_without : Binds K d_without ["state", "k"] []
  a_deal : Addr
  d_deal : FuncData
  u_deal : Fun K "deal" "deal" st_deal a_deal d_deal
  g_deal : mg "deal" = some (.ref a_deal)
  b_deal : Binds K d_deal ["wheel", "state", "barred", "draw"] []
  a_can_deal : Addr
  d_can_deal : FuncData
  cod_can_deal : Addr
  tab_can_deal : Addr
  v_can_deal : FunC K "can_deal" "can_deal" st_can_deal a_can_deal d_can_deal cod_can_deal
  u_can_deal : Fun K "can_deal" "can_deal" st_can_deal a_can_deal d_can_deal := v_can_deal.toFun
  tabB_can_deal : GxR.TabB base mg cod_can_deal tab_can_deal
  tabM_can_deal : tab_can_deal ∈ cv.tb
  g_can_deal : mg "can_deal" = some (.ref a_can_deal)
  b_can_deal : Binds K d_can_deal ["wheel", "barred"] []
  a_first_fault : Addr
  d_first_fault : FuncData
  u_first_fault : Fun K "first_fault" "first_fault" st_first_fault a_first_fault d_first_fault
  g_first_fault : mg "first_fault" = some (.ref a_first_fault)
  b_first_fault : Binds K d_first_fault ["wheel", "log"] []
  a_steps : Addr
  d_steps : FuncData
  u_steps : Fun K "steps" "steps" st_steps a_steps d_steps
  g_steps : mg "steps" = some (.ref a_steps)
  b_steps : Binds K d_steps ["wheel", "state", "barred"] []
  a_chances : Addr
  d_chances : FuncData
  u_chances : Fun K "chances" "chances" st_chances a_chances d_chances
  g_chances : mg "chances" = some (.ref a_chances)
  b_chances : Binds K d_chances ["wheel", "state", "barred"] []
  a_chance_of : Addr
  d_chance_of : FuncData
  u_chance_of : Fun K "chance_of" "chance_of" st_chance_of a_chance_of d_chance_of
  g_chance_of : mg "chance_of" = some (.ref a_chance_of)
  b_chance_of : Binds K d_chance_of ["wheel", "record"] []
  a__law_open : Addr
  d__law_open : FuncData
  u__law_open : Fun K "_law_open" "_law_open" st__law_open a__law_open d__law_open
  g__law_open : mg "_law_open" = some (.ref a__law_open)
  b__law_open : Binds K d__law_open ["script"] []
  a__law_mixed : Addr
  d__law_mixed : FuncData
  u__law_mixed : Fun K "_law_mixed" "_law_mixed" st__law_mixed a__law_mixed d__law_mixed
  g__law_mixed : mg "_law_mixed" = some (.ref a__law_mixed)
  b__law_mixed : Binds K d__law_mixed ["cell", "turn"] []
  a__law_draw : Addr
  d__law_draw : FuncData
  u__law_draw : Fun K "_law_draw" "_law_draw" st__law_draw a__law_draw d__law_draw
  g__law_draw : mg "_law_draw" = some (.ref a__law_draw)
  b__law_draw : Binds K d__law_draw ["draws", "size"] []
  a__law_told : Addr
  d__law_told : FuncData
  u__law_told : Fun K "_law_told" "_law_told" st__law_told a__law_told d__law_told
  g__law_told : mg "_law_told" = some (.ref a__law_told)
  b__law_told : Binds K d__law_told ["error"] []
  a__law_int : Addr
  d__law_int : FuncData
  u__law_int : Fun K "_law_int" "_law_int" st__law_int a__law_int d__law_int
  g__law_int : mg "_law_int" = some (.ref a__law_int)
  b__law_int : Binds K d__law_int ["value"] []
  a__law_wheel : Addr
  d__law_wheel : FuncData
  u__law_wheel : Fun K "_law_wheel" "_law_wheel" st__law_wheel a__law_wheel d__law_wheel
  g__law_wheel : mg "_law_wheel" = some (.ref a__law_wheel)
  b__law_wheel : Binds K d__law_wheel ["draws"] []
  a__law_barred : Addr
  d__law_barred : FuncData
  u__law_barred : Fun K "_law_barred" "_law_barred" st__law_barred a__law_barred d__law_barred
  g__law_barred : mg "_law_barred" = some (.ref a__law_barred)
  b__law_barred : Binds K d__law_barred ["draws", "wheel", "more"] []
  a__law_step : Addr
  d__law_step : FuncData
  u__law_step : Fun K "_law_step" "_law_step" st__law_step a__law_step d__law_step
  g__law_step : mg "_law_step" = some (.ref a__law_step)
  b__law_step : Binds K d__law_step ["wheel", "state", "barred"] []
  a__law_deal : Addr
  d__law_deal : FuncData
  u__law_deal : Fun K "_law_deal" "_law_deal" st__law_deal a__law_deal d__law_deal
  g__law_deal : mg "_law_deal" = some (.ref a__law_deal)
  b__law_deal : Binds K d__law_deal ["wheel", "state", "barred", "draw"] []
  a__law_able : Addr
  d__law_able : FuncData
  u__law_able : Fun K "_law_able" "_law_able" st__law_able a__law_able d__law_able
  g__law_able : mg "_law_able" = some (.ref a__law_able)
  b__law_able : Binds K d__law_able ["wheel", "barred"] []
  a__law_lowest : Addr
  d__law_lowest : FuncData
  u__law_lowest : Fun K "_law_lowest" "_law_lowest" st__law_lowest a__law_lowest d__law_lowest
  g__law_lowest : mg "_law_lowest" = some (.ref a__law_lowest)
  b__law_lowest : Binds K d__law_lowest ["part", "whole"] []
  a__law_is : Addr
  d__law_is : FuncData
  u__law_is : Fun K "_law_is" "_law_is" st__law_is a__law_is d__law_is
  g__law_is : mg "_law_is" = some (.ref a__law_is)
  b__law_is : Binds K d__law_is ["value", "due"] []
  a__law_chance : Addr
  d__law_chance : FuncData
  u__law_chance : Fun K "_law_chance" "_law_chance" st__law_chance a__law_chance d__law_chance
  g__law_chance : mg "_law_chance" = some (.ref a__law_chance)
  b__law_chance : Binds K d__law_chance ["wheel", "record"] []
  a__law_asked : Addr
  d__law_asked : FuncData
  u__law_asked : Fun K "_law_asked" "_law_asked" st__law_asked a__law_asked d__law_asked
  g__law_asked : mg "_law_asked" = some (.ref a__law_asked)
  b__law_asked : Binds K d__law_asked ["wheel", "record"] []
  a__law_all : Addr
  d__law_all : FuncData
  u__law_all : Fun K "_law_all" "_law_all" st__law_all a__law_all d__law_all
  g__law_all : mg "_law_all" = some (.ref a__law_all)
  b__law_all : Binds K d__law_all ["wheel", "rows"] []
  a__law_state : Addr
  d__law_state : FuncData
  u__law_state : Fun K "_law_state" "_law_state" st__law_state a__law_state d__law_state
  g__law_state : mg "_law_state" = some (.ref a__law_state)
  b__law_state : Binds K d__law_state ["wheel", "state", "barred"] []
  a_law : Addr
  d_law : FuncData
  u_law : Fun K "law" "law" st_law a_law d_law
  g_law : mg "law" = some (.ref a_law)
  b_law : Binds K d_law ["script"] []
  n_ValueError : mg "ValueError" = none
  n_abs : mg "abs" = none
  n_any : mg "any" = none
  n_bool : mg "bool" = none
  n_enumerate : mg "enumerate" = none
  n_int : mg "int" = none
  n_isinstance : mg "isinstance" = none
  n_len : mg "len" = none
  n_list : mg "list" = none
  n_range : mg "range" = none
  n_sorted : mg "sorted" = none
  n_sum : mg "sum" = none
  n_tuple : mg "tuple" = none
  n_zip : mg "zip" = none
  g_gcd : mg "gcd" = some (.builtin "math.gcd")
  c_OutOfRange : Addr
  e_OutOfRange : cv.f "OutOfRange" = .ref c_OutOfRange
  g_OutOfRange : mg "OutOfRange" = some (.ref c_OutOfRange)
  k_OutOfRange : PySem.W.keepIn K (.ref c_OutOfRange) = true
  x_OutOfRange : PySem.W.excIn K c_OutOfRange [.type "ValueError", .type "Exception", .type "BaseException", .type "object"] "ValueError.__new__" = true
  s_OutOfRange : PySem.W.subIn K (.ref c_OutOfRange) (.type "BaseException") = some true
  t_OutOfRange : PySem.W.typeIn K (.ref c_OutOfRange) = some (.type "type")
  c_Refused : Addr
  e_Refused : cv.f "Refused" = .ref c_Refused
  g_Refused : mg "Refused" = some (.ref c_Refused)
  k_Refused : PySem.W.keepIn K (.ref c_Refused) = true
  x_Refused : PySem.W.excIn K c_Refused [.type "ValueError", .type "Exception", .type "BaseException", .type "object"] "ValueError.__new__" = true
  s_Refused : PySem.W.subIn K (.ref c_Refused) (.type "BaseException") = some true
  t_Refused : PySem.W.typeIn K (.ref c_Refused) = some (.type "type")
  c_DocketError : Addr
  g_DocketError : mg "DocketError" = some (.ref c_DocketError)
  te_Refused : PySem.W.exmOne K (.ref c_Refused) (.ref c_DocketError) = some true
  ec_Refused : ExcC K c_Refused
  c_Malformed : Addr
  g_Malformed : mg "Malformed" = some (.ref c_Malformed)
  c_NotThere : Addr
  g_NotThere : mg "NotThere" = some (.ref c_NotThere)
  c_TooMuch : Addr
  g_TooMuch : mg "TooMuch" = some (.ref c_TooMuch)
  ki_Refused_Malformed : PySem.W.kitOne K (.ref c_Refused) (.ref c_Malformed) = some false
  ki_Refused_NotThere : PySem.W.kitOne K (.ref c_Refused) (.ref c_NotThere) = some false
  ki_Refused_OutOfRange : PySem.W.kitOne K (.ref c_Refused) (.ref c_OutOfRange) = some false
  ki_Refused_Refused : PySem.W.kitOne K (.ref c_Refused) (.ref c_Refused) = some true
  ki_Refused_TooMuch : PySem.W.kitOne K (.ref c_Refused) (.ref c_TooMuch) = some false
  ki_Refused_ValueError : PySem.W.kitOne K (.ref c_Refused) (.type "ValueError") = some true
  q_NOUGHT : Addr
  g_NOUGHT : mg "NOUGHT" = some (.ref q_NOUGHT)
  r_NOUGHT : ∀ B, Rep K B d_NOUGHT (.ref q_NOUGHT)
  q_ONE : Addr
  g_ONE : mg "ONE" = some (.ref q_ONE)
  r_ONE : ∀ B, Rep K B d_ONE (.ref q_ONE)
end K62
set_option Elab.async false
set_option linter.all false
set_option maxRecDepth 100000
set_option maxHeartbeats 4000000
namespace K62
open PySem PySem.Spec PyProof.Rows L2 Pd
section
variable {P : Program} {w : World} {K : PySem.W.Frag} {mg : Str → Option Value} {base : Heap}
theorem ok_lowest (T : Top P w K mg base) : FnOk P w K mg base (L2N.CX P w) 1 T.a_lowest T.d_lowest ["part", "whole"] (spF K T.cv 2 F_lowest) :=
  def_okC (N := ["part", "whole", "common"]) (ps := ["part", "whole"]) (m := m_lowest) T.u_lowest sc_lowest (by decide) fun cdv A outer s H E hr tk po =>
    (b_cons (s_set 2 sc_lowest.nd (e_callBf cr_gcd cl_gcd T.g_gcd rfl (a_cons (e_pk 0) (a_cons (e_pk 1) a_nil))))
    (b_cons (s_if (t_c k_lt (e_pk 1) e_int) (b_one (s_set 2 sc_lowest.nd (e_un un_neg um_neg (e_var 2)))) b_nil)
    (b_one (s_ret (e_tup (a_cons (e_div (e_pk 0) (e_pk 2)) (a_cons (e_div (e_pk 1) (e_pk 2)) a_nil)))))))
theorem ok_made (T : Top P w K mg base) : FnOk P w K mg base (L2N.CX P w) 2 T.a_made T.d_made ["part", "whole"] (spF K T.cv 2 F_made) :=
  def_okC (N := ["part", "whole"]) (ps := ["part", "whole"]) (m := m_made) T.u_made sc_made (by decide) fun cdv A outer s H E hr tk po =>
    (b_cons (s_if (t_c (k_eq hr) (e_pk 1) e_int) (b_one (s_raise rfl tk (by rw [T.e_OutOfRange]; exact L2N.pmk_own PySem.F.excBase_ValueError T.x_OutOfRange T.g_OutOfRange T.k_OutOfRange (raises_own T.s_OutOfRange T.t_OutOfRange) rfl))) b_nil)
    (b_one (s_ret (e_call (ok_lowest T) hr (by decide) T.g_lowest T.u_lowest.kp T.b_lowest tk rfl (a_cons (e_var 0) (a_cons (e_var 1) a_nil))))))
theorem ok_times (T : Top P w K mg base) : FnOk P w K mg base (L2N.CX P w) 2 T.a_times T.d_times ["one", "other"] (spF K T.cv 2 F_times) :=
  def_okC (N := ["one", "other"]) (ps := ["one", "other"]) (m := m_times) T.u_times sc_times (by decide) fun cdv A outer s H E hr tk po =>
    (b_one (s_ret (e_call (ok_lowest T) hr (by decide) T.g_lowest T.u_lowest.kp T.b_lowest tk rfl (a_cons (e_fz (e_mul (e_at (e_pk 0) e_int) (e_at (e_pk 1) e_int))) (a_cons (e_fz (e_mul (e_at (e_pk 0) e_int) (e_at (e_pk 1) e_int))) a_nil)))))
theorem ok_full_state (T : Top P w K mg base) : FnOk P w K mg base (L2N.CX P w) 1 T.a_full_state T.d_full_state ["wheel"] (spF K T.cv 1 F_full_state) :=
  def_okC (N := ["wheel", "judge", "weight"]) (ps := ["wheel"]) (m := m_full_state) T.u_full_state sc_full_state (by decide) fun cdv A outer s H E hr tk po =>
    (b_one (s_ret (e_callTy call_tuple_of cl_tupOf rfl T.n_tuple (by decide +kernel) (a_cons (e_lc [("judge", 1), ("weight", 2)] rfl sc_full_state.nd (i_seq (e_pk 0)) (blkOk_by (N := ["wheel", "judge", "weight"]) (sc := defScope st_full_state) (by decide +kernel)) (fun _ => (g_seq rfl (gs_cons (g_name 1 sc_full_state.nd) (gs_cons (g_name 2 sc_full_state.nd) gs_nil)))) (fun _ => c_nil) (fun _ => (e_var 2))) a_nil))))
theorem ok_cards_for (T : Top P w K mg base) : FnOk P w K mg base (L2N.CX P w) 1 T.a_cards_for T.d_cards_for ["wheel", "state", "barred"] (spF K T.cv 3 F_cards_for) :=
  def_okC (N := ["wheel", "state", "barred", "able", "counts", "judge", "weight", "one", "left", "pair"]) (ps := ["wheel", "state", "barred"]) (m := m_cards_for) T.u_cards_for sc_cards_for (by decide) fun cdv A outer s H E hr tk po =>
    (b_cons (s_setLc 3 [("judge", 5), ("weight", 6)] id (Or.inl rfl) rfl sc_cards_for.nd (i_seq (e_pk 0)) (blkOk_by (N := ["wheel", "state", "barred", "able", "counts", "judge", "weight", "one", "left", "pair"]) (sc := defScope st_cards_for) (by decide +kernel)) (fun _ => (g_seq rfl (gs_cons (g_name 5 sc_cards_for.nd) (gs_cons (g_name 6 sc_cards_for.nd) gs_nil)))) (fun _ => c_nil) (fun _ => (e_fz (e_ifExp (t_c (k_in hr) (e_pk 5) (e_pk 2)) e_int e_int))) (sw_true rfl rfl rfl (by decide +kernel)))
    (b_cons (s_if (t_c (k_eq hr) (e_callB (cr_sum rfl) cl_sum rfl T.n_sum (by decide +kernel) (a_cons (e_pk 3) a_nil)) e_int) (b_one (s_raise rfl tk (by rw [T.e_Refused]; exact L2N.pmk_own PySem.F.excBase_ValueError T.x_Refused T.g_Refused T.k_Refused (raises_own T.s_Refused T.t_Refused) rfl))) b_nil)
    (b_cons (s_setLc 4 [("one", 7), ("left", 8)] id (Or.inl rfl) rfl sc_cards_for.nd (i_zip rfl T.n_zip (a_cons (e_var 3) (a_cons (e_var 1) a_nil))) (blkOk_by (N := ["wheel", "state", "barred", "able", "counts", "judge", "weight", "one", "left", "pair"]) (sc := defScope st_cards_for) (by decide +kernel)) (fun _ => (g_seq rfl (gs_cons (g_name 7 sc_cards_for.nd) (gs_cons (g_name 8 sc_cards_for.nd) gs_nil)))) (fun _ => c_nil) (fun _ => (e_fz (e_mul (e_pk 7) (e_pk 8)))) (sw_true rfl rfl rfl (by decide +kernel)))
    (b_cons (s_if (t_c (k_eq hr) (e_callB (cr_sum rfl) cl_sum rfl T.n_sum (by decide +kernel) (a_cons (e_pk 4) a_nil)) e_int) (b_cons (s_set 1 sc_cards_for.nd (e_callTy call_tuple_of cl_tupOf rfl T.n_tuple (by decide +kernel) (a_cons (e_lc [("left", 8), ("pair", 9)] rfl sc_cards_for.nd (i_zip rfl T.n_zip (a_cons (e_var 1) (a_cons (e_var 0) a_nil))) (blkOk_by (N := ["wheel", "state", "barred", "able", "counts", "judge", "weight", "one", "left", "pair"]) (sc := defScope st_cards_for) (by decide +kernel)) (fun _ => (g_seq rfl (gs_cons (g_name 8 sc_cards_for.nd) (gs_cons (g_name 9 sc_cards_for.nd) gs_nil)))) (fun _ => c_nil) (fun _ => (e_fz (e_add (e_pk 8) (e_at (e_pk 9) e_int))))) a_nil)))
    (b_one (s_setLc 4 [("one", 7), ("left", 8)] id (Or.inl rfl) rfl sc_cards_for.nd (i_zip rfl T.n_zip (a_cons (e_var 3) (a_cons (e_var 1) a_nil))) (blkOk_by (N := ["wheel", "state", "barred", "able", "counts", "judge", "weight", "one", "left", "pair"]) (sc := defScope st_cards_for) (by decide +kernel)) (fun _ => (g_seq rfl (gs_cons (g_name 7 sc_cards_for.nd) (gs_cons (g_name 8 sc_cards_for.nd) gs_nil)))) (fun _ => c_nil) (fun _ => (e_fz (e_mul (e_pk 7) (e_pk 8)))) (sw_true rfl rfl rfl (by decide +kernel))))) b_nil)
    (b_one (s_ret (e_tup (a_cons (e_var 1) (a_cons (e_var 4) a_nil)))))))))
theorem ok_without (T : Top P w K mg base) : FnOk P w K mg base (L2N.CX P w) 1 T.a_without T.d_without ["state", "k"] (spF K T.cv 2 F_without) :=
  def_okC (N := ["state", "k", "at"]) (ps := ["state", "k"]) (m := m_without) T.u_without sc_without (by decide) fun cdv A outer s H E hr tk po =>
    (b_one (s_ret (e_callTy call_tuple_of cl_tupOf rfl T.n_tuple (by decide +kernel) (a_cons (e_lc [("at", 2)] rfl sc_without.nd (i_range1 rfl T.n_range (a_cons (e_callB call_len_seq cl_len rfl T.n_len (by decide +kernel) (a_cons (e_pk 0) a_nil)) a_nil)) (blkOk_by (N := ["state", "k", "at"]) (sc := defScope st_without) (by decide +kernel)) (fun _ => (g_name 2 sc_without.nd)) (fun _ => c_nil) (fun _ => (e_fz (e_ifExp (t_c (k_eq hr) (e_pk 2) (e_pk 1)) (e_sub (e_at (e_pk 0) (e_pk 2)) e_int) (e_fz (e_at (e_pk 0) (e_pk 2))))))) a_nil))))
end
end K62
set_option Elab.async false
set_option linter.all false
set_option maxRecDepth 100000
set_option maxHeartbeats 4000000
namespace K62
open PySem PySem.Spec PyProof.Rows L2 Pd
section
variable {P : Program} {w : World} {K : PySem.W.Frag} {mg : Str → Option Value} {base : Heap}
theorem ok_deal (T : Top P w K mg base) : FnOk P w K mg base (L2N.CX P w) 2 T.a_deal T.d_deal ["wheel", "state", "barred", "draw"] (spF K T.cv 4 F_deal) :=
  def_okC (N := ["wheel", "state", "barred", "draw", "counts", "number", "k"]) (ps := ["wheel", "state", "barred", "draw"]) (m := m_deal) T.u_deal sc_deal (by decide) fun cdv A outer s H E hr tk po =>
    (b_cons (s_asg (e_call (ok_cards_for T) hr (by decide) T.g_cards_for T.u_cards_for.kp T.b_cards_for tk rfl (a_cons (e_var 0) (a_cons (e_var 1) (a_cons (e_var 2) a_nil)))) (g_seq rfl (gs_cons (g_name 1 sc_deal.nd) (gs_cons (g_name 4 sc_deal.nd) gs_nil))))
    (b_cons (s_set 5 sc_deal.nd (e_mod (e_pk 3) (e_callB (cr_sum rfl) cl_sum rfl T.n_sum (by decide +kernel) (a_cons (e_pk 4) a_nil))))
    (b_cons (s_set 6 sc_deal.nd e_int)
    (b_cons (s_while [] 100 po (t_c k_ge (e_pk 5) (e_at (e_pk 4) (e_pk 6))) (b_cons (s_aug 5 sc_deal.nd ip_sub om_iSub (e_at (e_pk 4) (e_pk 6)))
    (b_one (s_aug 6 sc_deal.nd ip_add om_iAdd e_int))))
    (b_one (s_ret (e_tup (a_cons (e_fz (e_at (e_at (e_pk 0) (e_pk 6)) e_int)) (a_cons (e_fz (e_call (ok_without T) hr (by decide) T.g_without T.u_without.kp T.b_without tk rfl (a_cons (e_var 1) (a_cons (e_var 6) a_nil)))) a_nil)))))))))
theorem ok_can_deal (T : Top P w K mg base) : FnOk P w K mg base (L2N.CX P w) 1 T.a_can_deal T.d_can_deal ["wheel", "barred"] (spF K T.cv 2 F_can_deal) :=
  def_okG (N := ["wheel", "barred"]) (ps := ["wheel", "barred"]) (m := m_can_deal) T.v_can_deal sc_can_deal (by decide) fun A outer s H E hr tk po =>
    (b_one (s_ret (e_any2 (P := T.tab_can_deal) (c := T.cod_can_deal) (el_in true 1 rfl rfl rfl rfl rfl rfl) hr rfl T.n_any T.tabB_can_deal rfl ⟨rfl, rfl, by decide +kernel, rfl, rfl, rfl, by decide, gen_free (by decide +kernel)⟩ T.tabM_can_deal (e_var 0))))
theorem ok_first_fault (T : Top P w K mg base) : FnOk P w K mg base (L2N.CX P w) 3 T.a_first_fault T.d_first_fault ["wheel", "log"] (spF K T.cv 2 F_first_fault) :=
  def_okC (N := ["wheel", "log", "state", "k", "cause", "barred", "draw", "judge", "due"]) (ps := ["wheel", "log"]) (m := m_first_fault) T.u_first_fault sc_first_fault (by decide) fun cdv A outer s H E hr tk po =>
    (b_cons (s_set 2 sc_first_fault.nd (e_call (ok_full_state T) hr (by decide) T.g_full_state T.u_full_state.kp T.b_full_state tk rfl (a_cons (e_var 0) a_nil)))
    (b_cons (s_for [3, 4, 5, 6, 7, 8] po rfl (i_enum rfl T.n_enumerate (a_cons (e_var 1) a_nil)) (g_seq rfl (gs_cons (g_name 3 sc_first_fault.nd) (gs_cons (g_seq rfl (gs_cons (g_name 4 sc_first_fault.nd) (gs_cons (g_name 5 sc_first_fault.nd) (gs_cons (g_name 6 sc_first_fault.nd) (gs_cons (g_name 7 sc_first_fault.nd) gs_nil))))) gs_nil))) (b_cons (s_if (t_not (t_tru (e_call (ok_can_deal T) hr (by decide) T.g_can_deal T.u_can_deal.kp T.b_can_deal tk rfl (a_cons (e_var 0) (a_cons (e_var 5) a_nil))) (fun _ => rfl))) (b_one (s_ret (e_var 3))) b_nil)
    (b_cons (s_asg (e_call (ok_deal T) hr (by decide) T.g_deal T.u_deal.kp T.b_deal tk rfl (a_cons (e_var 0) (a_cons (e_var 2) (a_cons (e_var 5) (a_cons (e_var 6) a_nil))))) (g_seq rfl (gs_cons (g_name 8 sc_first_fault.nd) (gs_cons (g_name 2 sc_first_fault.nd) gs_nil))))
    (b_one (s_if (t_c (k_ne hr) (e_pk 8) (e_pk 7)) (b_one (s_ret (e_var 3))) b_nil)))))
    (b_one (s_ret e_non))))
theorem ok_steps (T : Top P w K mg base) : FnOk P w K mg base (L2N.CX P w) 3 T.a_steps T.d_steps ["wheel", "state", "barred"] (spF K T.cv 3 F_steps) :=
  def_okC (N := ["wheel", "state", "barred", "counts", "whole", "k"]) (ps := ["wheel", "state", "barred"]) (m := m_steps) T.u_steps sc_steps (by decide) fun cdv A outer s H E hr tk po =>
    (b_cons (s_asg (e_call (ok_cards_for T) hr (by decide) T.g_cards_for T.u_cards_for.kp T.b_cards_for tk rfl (a_cons (e_var 0) (a_cons (e_var 1) (a_cons (e_var 2) a_nil)))) (g_seq rfl (gs_cons (g_name 1 sc_steps.nd) (gs_cons (g_name 3 sc_steps.nd) gs_nil))))
    (b_cons (s_set 4 sc_steps.nd (e_callB (cr_sum rfl) cl_sum rfl T.n_sum (by decide +kernel) (a_cons (e_pk 3) a_nil)))
    (b_one (s_ret (e_lc [("k", 5)] rfl sc_steps.nd (i_range1 rfl T.n_range (a_cons (e_callB call_len_seq cl_len rfl T.n_len (by decide +kernel) (a_cons (e_pk 3) a_nil)) a_nil)) (blkOk_by (N := ["wheel", "state", "barred", "counts", "whole", "k"]) (sc := defScope st_steps) (by decide +kernel)) (fun _ => (g_name 5 sc_steps.nd)) (fun _ => (c_one (t_c k_gt (e_at (e_pk 3) (e_pk 5)) e_int))) (fun _ => (e_tup (a_cons (e_var 5) (a_cons (e_fz (e_call (ok_made T) hr (by decide) T.g_made T.u_made.kp T.b_made takesN rfl (a_cons (e_fz (e_at (e_pk 3) (e_pk 5))) (a_cons (e_var 4) a_nil)))) (a_cons (e_fz (e_call (ok_without T) hr (by decide) T.g_without T.u_without.kp T.b_without takesN rfl (a_cons (e_var 1) (a_cons (e_var 5) a_nil)))) a_nil))))))))))
theorem ok_chances (T : Top P w K mg base) : FnOk P w K mg base (L2N.CX P w) 4 T.a_chances T.d_chances ["wheel", "state", "barred"] (spF K T.cv 3 F_chances) :=
  def_okC (N := ["wheel", "state", "barred", "k", "chance", "following"]) (ps := ["wheel", "state", "barred"]) (m := m_chances) T.u_chances sc_chances (by decide) fun cdv A outer s H E hr tk po =>
    (b_one (s_ret (e_callTy call_tuple_of cl_tupOf rfl T.n_tuple (by decide +kernel) (a_cons (e_lc [("k", 3), ("chance", 4), ("following", 5)] rfl sc_chances.nd (i_seq (e_call (ok_steps T) hr (by decide) T.g_steps T.u_steps.kp T.b_steps tk rfl (a_cons (e_var 0) (a_cons (e_var 1) (a_cons (e_var 2) a_nil))))) (blkOk_by (N := ["wheel", "state", "barred", "k", "chance", "following"]) (sc := defScope st_chances) (by decide +kernel)) (fun _ => (g_seq rfl (gs_cons (g_name 3 sc_chances.nd) (gs_cons (g_name 4 sc_chances.nd) (gs_cons (g_name 5 sc_chances.nd) gs_nil))))) (fun _ => c_nil) (fun _ => (e_tup (a_cons (e_fz (e_at (e_at (e_pk 0) (e_pk 3)) e_int)) (a_cons (e_var 4) a_nil))))) a_nil))))
theorem ok_chance_of (T : Top P w K mg base) : FnOk P w K mg base (L2N.CX P w) 4 T.a_chance_of T.d_chance_of ["wheel", "record"] (spF K T.cv 2 F_chance_of) :=
  def_okC (N := ["wheel", "record", "state", "whole", "cause", "barred", "judge", "found", "k", "chance", "following", "behind"]) (ps := ["wheel", "record"]) (m := m_chance_of) T.u_chance_of sc_chance_of (by decide) fun cdv A outer s H E hr tk po =>
    (b_cons (s_set 2 sc_chance_of.nd (e_call (ok_full_state T) hr (by decide) T.g_full_state T.u_full_state.kp T.b_full_state tk rfl (a_cons (e_var 0) a_nil)))
    (b_cons (s_set 3 sc_chance_of.nd (e_glob (v := .ref T.q_ONE) rfl T.g_ONE rfl T.r_ONE))
    (b_cons (s_for [4, 5, 6, 7, 8, 9, 10] po rfl (i_seq (e_pk 1)) (g_seq rfl (gs_cons (g_name 4 sc_chance_of.nd) (gs_cons (g_name 5 sc_chance_of.nd) (gs_cons (g_name 6 sc_chance_of.nd) gs_nil)))) (b_cons (s_if (t_not (t_tru (e_call (ok_can_deal T) hr (by decide) T.g_can_deal T.u_can_deal.kp T.b_can_deal tk rfl (a_cons (e_var 0) (a_cons (e_var 5) a_nil))) (fun _ => rfl))) (b_one (s_ret (e_glob (v := .ref T.q_NOUGHT) rfl T.g_NOUGHT rfl T.r_NOUGHT))) b_nil)
    (b_cons (s_set 7 sc_chance_of.nd (e_glob (v := .ref T.q_NOUGHT) rfl T.g_NOUGHT rfl T.r_NOUGHT))
    (b_cons (s_for [8, 9, 10] po rfl (i_seq (e_call (ok_steps T) hr (by decide) T.g_steps T.u_steps.kp T.b_steps tk rfl (a_cons (e_var 0) (a_cons (e_var 2) (a_cons (e_var 5) a_nil))))) (g_seq rfl (gs_cons (g_name 8 sc_chance_of.nd) (gs_cons (g_name 9 sc_chance_of.nd) (gs_cons (g_name 10 sc_chance_of.nd) gs_nil)))) (b_one (s_if (t_c (k_eq hr) (e_at (e_at (e_pk 0) (e_pk 8)) e_int) (e_pk 6)) (b_cons (s_set 7 sc_chance_of.nd (e_var 9))
    (b_one (s_set 11 sc_chance_of.nd (e_var 10)))) b_nil)))
    (b_cons (s_if (t_c (k_eq hr) (e_pk 7) (e_glob (v := .ref T.q_NOUGHT) rfl T.g_NOUGHT rfl T.r_NOUGHT)) (b_one (s_ret (e_glob (v := .ref T.q_NOUGHT) rfl T.g_NOUGHT rfl T.r_NOUGHT))) b_nil)
    (b_cons (s_set 3 sc_chance_of.nd (e_call (ok_times T) hr (by decide) T.g_times T.u_times.kp T.b_times tk rfl (a_cons (e_var 3) (a_cons (e_var 7) a_nil))))
    (b_one (s_set 2 sc_chance_of.nd (e_var 11)))))))))
    (b_one (s_ret (e_var 3))))))
end
end K62
set_option Elab.async false
set_option linter.all false
set_option maxRecDepth 100000
set_option maxHeartbeats 4000000
namespace K62
open PySem PySem.Spec PyProof.Rows L2 Pd
section
variable {P : Program} {w : World} {K : PySem.W.Frag} {mg : Str → Option Value} {base : Heap}
theorem ok__law_open (T : Top P w K mg base) : FnOk P w K mg base (L2N.CX P w) 1 T.a__law_open T.d__law_open ["script"] (spF K T.cv 1 F__law_open) :=
  def_okC (N := ["script", "cells", "cell"]) (ps := ["script"]) (m := m__law_open) T.u__law_open sc__law_open (by decide) fun cdv A outer s H E hr tk po =>
    (b_cons (s_setLc 1 [("cell", 2)] id (Or.inl rfl) rfl sc__law_open.nd (i_seq (e_slice (e_pk 0) p_none (p_some e_int))) (blkOk_by (N := ["script", "cells", "cell"]) (sc := defScope st__law_open) (by decide +kernel)) (fun _ => (g_name 2 sc__law_open.nd)) (fun _ => c_nil) (fun _ => (e_callB call_abs cl_abs rfl T.n_abs (by decide +kernel) (a_cons (e_callTy call_int1 cl_intOf rfl T.n_int (by decide +kernel) (a_cons (e_pk 2) a_nil)) a_nil))) (sw_true rfl rfl rfl (by decide +kernel)))
    (b_one (s_ret (e_lst (a_cons e_int (a_cons e_int (a_cons (e_fz (e_add (e_pk 1) (e_lst (a_cons e_int a_nil)))) a_nil)))))))
theorem ok__law_mixed (T : Top P w K mg base) : FnOk P w K mg base (L2N.CX P w) 1 T.a__law_mixed T.d__law_mixed ["cell", "turn"] (spF K T.cv 2 F__law_mixed) :=
  def_okC (N := ["cell", "turn", "number"]) (ps := ["cell", "turn"]) (m := m__law_mixed) T.u__law_mixed sc__law_mixed (by decide) fun cdv A outer s H E hr tk po =>
    (b_cons (s_set 2 sc__law_mixed.nd (e_mod (e_add (e_add (e_mul (e_mod (e_pk 0) (e_sub (e_pow e_int e_int) e_int)) e_int) (e_mul (e_pk 1) e_int)) e_int) (e_pow e_int e_int)))
    (b_cons (s_set 2 sc__law_mixed.nd (e_mod (e_mul (e_xor (e_pk 2) (e_shr (e_pk 2) e_int)) e_int) (e_pow e_int e_int)))
    (b_one (s_ret (e_mod (e_mul (e_xor (e_pk 2) (e_shr (e_pk 2) e_int)) e_int) (e_pow e_int e_int))))))
theorem ok__law_draw (T : Top P w K mg base) : FnOk P w K mg base (L2N.CX P w) 2 T.a__law_draw T.d__law_draw ["draws", "size"] (spF K T.cv 2 F__law_draw) :=
  def_okC (N := ["draws", "size", "turn", "left", "cells", "cell"]) (ps := ["draws", "size"]) (m := m__law_draw) T.u__law_draw sc__law_draw (by decide) fun cdv A outer s H E hr tk po =>
    (b_cons (s_asg (e_pk 0) (g_seq rfl (gs_cons (g_name 2 sc__law_draw.nd) (gs_cons (g_name 3 sc__law_draw.nd) (gs_cons (g_name 4 sc__law_draw.nd) gs_nil)))))
    (b_cons (s_if (t_c k_lt (e_pk 3) (e_pk 1)) (b_cons (s_set 5 sc__law_draw.nd (e_at (e_pk 4) (e_mod (e_pk 2) (e_callB call_len_seq cl_len rfl T.n_len (by decide +kernel) (a_cons (e_pk 4) a_nil)))))
    (b_cons (s_set 3 sc__law_draw.nd (e_ifExp (t_w (w_and (t_c k_lt (e_pk 2) (e_callB call_len_seq cl_len rfl T.n_len (by decide +kernel) (a_cons (e_pk 4) a_nil))) (w_and1 (t_c k_ge (e_pk 5) (e_pow e_int e_int))))) (e_var 5) (e_fz (e_call (ok__law_mixed T) hr (by decide) T.g__law_mixed T.u__law_mixed.kp T.b__law_mixed tk rfl (a_cons (e_var 5) (a_cons (e_var 2) a_nil))))))
    (b_one (s_set 2 sc__law_draw.nd (e_add (e_pk 2) e_int))))) b_nil)
    (b_cons (s_setIx 0 e_int (e_var 2))
    (b_cons (s_setIx 0 e_int (e_div (e_pk 3) (e_pk 1)))
    (b_one (s_ret (e_mod (e_pk 3) (e_pk 1))))))))
theorem ok__law_int (T : Top P w K mg base) : FnOk P w K mg base (L2N.CX P w) 1 T.a__law_int T.d__law_int ["value"] (spF K T.cv 1 F__law_int) :=
  def_okC (N := ["value"]) (ps := ["value"]) (m := m__law_int) T.u__law_int sc__law_int (by decide) fun cdv A outer s H E hr tk po =>
    (b_one (s_ret (e_and (e_isi rfl T.n_isinstance rfl T.n_int (by decide +kernel) (e_pk 0)) (e_one (e_not (e_isi rfl T.n_isinstance rfl T.n_bool (by decide +kernel) (e_pk 0)))))))
theorem ok__law_wheel (T : Top P w K mg base) : FnOk P w K mg base (L2N.CX P w) 3 T.a__law_wheel T.d__law_wheel ["draws"] (spF K T.cv 1 F__law_wheel) :=
  def_okC (N := ["draws", "names", "most", "name"]) (ps := ["draws"]) (m := m__law_wheel) T.u__law_wheel sc__law_wheel (by decide) fun cdv A outer s H E hr tk po =>
    (b_cons (s_set 1 sc__law_wheel.nd (e_lst (a_cons e_str (a_cons e_str (a_cons e_str (a_cons e_str (a_cons e_str (a_cons e_str (a_cons e_str (a_cons e_str a_nil))))))))))
    (b_cons (s_set 2 sc__law_wheel.nd (e_at (e_lst (a_cons e_int (a_cons e_int (a_cons e_int a_nil)))) (e_call (ok__law_draw T) hr (by decide) T.g__law_draw T.u__law_draw.kp T.b__law_draw tk rfl (a_cons (e_pk 0) (a_cons e_int a_nil)))))
    (b_one (s_ret (e_callTy call_tuple_of cl_tupOf rfl T.n_tuple (by decide +kernel) (a_cons (e_lc [("name", 3)] rfl sc__law_wheel.nd (i_seq (e_slice (e_pk 1) p_none (p_some (e_add e_int (e_call (ok__law_draw T) hr (by decide) T.g__law_draw T.u__law_draw.kp T.b__law_draw tk rfl (a_cons (e_pk 0) (a_cons (e_var 2) a_nil))))))) (blkOk_by (N := ["draws", "names", "most", "name"]) (sc := defScope st__law_wheel) (by decide +kernel)) (fun _ => (g_name 3 sc__law_wheel.nd)) (fun _ => c_nil) (fun _ => (e_tup (a_cons (e_var 3) (a_cons (e_fz (e_add e_int (e_call (ok__law_draw T) hr (by decide) T.g__law_draw T.u__law_draw.kp T.b__law_draw takesN rfl (a_cons (e_pk 0) (a_cons (e_fz (e_at (e_lst (a_cons e_int (a_cons e_int a_nil))) (e_call (ok__law_draw T) hr (by decide) T.g__law_draw T.u__law_draw.kp T.b__law_draw takesN rfl (a_cons (e_pk 0) (a_cons e_int a_nil))))) a_nil))))) a_nil))))) a_nil))))))
theorem ok__law_barred (T : Top P w K mg base) : FnOk P w K mg base (L2N.CX P w) 3 T.a__law_barred T.d__law_barred ["draws", "wheel", "more"] (spF K T.cv 3 F__law_barred) :=
  def_okC (N := ["draws", "wheel", "more", "names", "kind", "rows", "kept", "pair", "name", "k"]) (ps := ["draws", "wheel", "more"]) (m := m__law_barred) T.u__law_barred sc__law_barred (by decide) fun cdv A outer s H E hr tk po =>
    (b_cons (s_set 3 sc__law_barred.nd (e_lc [("pair", 7)] rfl sc__law_barred.nd (i_seq (e_pk 1)) (blkOk_by (N := ["draws", "wheel", "more", "names", "kind", "rows", "kept", "pair", "name", "k"]) (sc := defScope st__law_barred) (by decide +kernel)) (fun _ => (g_name 7 sc__law_barred.nd)) (fun _ => c_nil) (fun _ => (e_fz (e_at (e_pk 7) e_int)))))
    (b_cons (s_set 4 sc__law_barred.nd (e_call (ok__law_draw T) hr (by decide) T.g__law_draw T.u__law_draw.kp T.b__law_draw tk rfl (a_cons (e_pk 0) (a_cons e_int a_nil))))
    (b_cons (s_set 5 sc__law_barred.nd (e_lst a_nil))
    (b_cons (s_if (t_c (k_eq hr) (e_pk 4) e_int) (b_one (s_set 5 sc__law_barred.nd (e_lc [("name", 8)] rfl sc__law_barred.nd (i_seq (e_pk 3)) (blkOk_by (N := ["draws", "wheel", "more", "names", "kind", "rows", "kept", "pair", "name", "k"]) (sc := defScope st__law_barred) (by decide +kernel)) (fun _ => (g_name 8 sc__law_barred.nd)) (fun _ => (c_one (t_c (k_eq hr) (e_call (ok__law_draw T) hr (by decide) T.g__law_draw T.u__law_draw.kp T.b__law_draw takesN rfl (a_cons (e_pk 0) (a_cons e_int a_nil))) e_int))) (fun _ => (e_var 8))))) b_nil)
    (b_cons (s_if (t_c (k_eq hr) (e_pk 4) e_int) (b_cons (s_set 6 sc__law_barred.nd (e_call (ok__law_draw T) hr (by decide) T.g__law_draw T.u__law_draw.kp T.b__law_draw tk rfl (a_cons (e_pk 0) (a_cons (e_callB call_len_seq cl_len rfl T.n_len (by decide +kernel) (a_cons (e_pk 3) a_nil)) a_nil))))
    (b_one (s_set 5 sc__law_barred.nd (e_lc [("k", 9)] rfl sc__law_barred.nd (i_range1 rfl T.n_range (a_cons (e_callB call_len_seq cl_len rfl T.n_len (by decide +kernel) (a_cons (e_pk 3) a_nil)) a_nil)) (blkOk_by (N := ["draws", "wheel", "more", "names", "kind", "rows", "kept", "pair", "name", "k"]) (sc := defScope st__law_barred) (by decide +kernel)) (fun _ => (g_name 9 sc__law_barred.nd)) (fun _ => (c_one (t_c (k_ne hr) (e_pk 9) (e_pk 6)))) (fun _ => (e_fz (e_at (e_pk 3) (e_pk 9)))))))) b_nil)
    (b_cons (s_if (t_c (k_eq hr) (e_pk 4) e_int) (b_one (s_set 5 sc__law_barred.nd (e_add (e_lst (a_cons e_str (a_cons e_str a_nil))) (e_lc [("name", 8)] rfl sc__law_barred.nd (i_seq (e_pk 3)) (blkOk_by (N := ["draws", "wheel", "more", "names", "kind", "rows", "kept", "pair", "name", "k"]) (sc := defScope st__law_barred) (by decide +kernel)) (fun _ => (g_name 8 sc__law_barred.nd)) (fun _ => (c_one (t_c (k_eq hr) (e_call (ok__law_draw T) hr (by decide) T.g__law_draw T.u__law_draw.kp T.b__law_draw takesN rfl (a_cons (e_pk 0) (a_cons e_int a_nil))) e_int))) (fun _ => (e_var 8)))))) b_nil)
    (b_cons (s_if (t_w (w_and (t_not (t_tru (e_var 2) (fun _ => rfl))) (w_and1 (t_c (k_eq hr) (e_callB call_len_seq cl_len rfl T.n_len (by decide +kernel) (a_cons (e_lc [("name", 8)] rfl sc__law_barred.nd (i_seq (e_pk 3)) (blkOk_by (N := ["draws", "wheel", "more", "names", "kind", "rows", "kept", "pair", "name", "k"]) (sc := defScope st__law_barred) (by decide +kernel)) (fun _ => (g_name 8 sc__law_barred.nd)) (fun _ => (c_one (t_c (k_notIn hr) (e_pk 8) (e_pk 5)))) (fun _ => (e_var 8))) a_nil)) e_int)))) (b_one (s_set 5 sc__law_barred.nd (e_lc [("name", 8)] rfl sc__law_barred.nd (i_seq (e_pk 5)) (blkOk_by (N := ["draws", "wheel", "more", "names", "kind", "rows", "kept", "pair", "name", "k"]) (sc := defScope st__law_barred) (by decide +kernel)) (fun _ => (g_name 8 sc__law_barred.nd)) (fun _ => (c_one (t_c (k_ne hr) (e_pk 8) (e_at (e_pk 3) e_int)))) (fun _ => (e_var 8))))) b_nil)
    (b_one (s_ret (e_callTy call_tuple_of cl_tupOf rfl T.n_tuple (by decide +kernel) (a_cons (e_callB (cr_sorted.or cr_sortedS) cl_sorted rfl T.n_sorted (by decide +kernel) (a_cons (e_pk 5) a_nil)) a_nil)))))))))))
end
end K62
set_option Elab.async false
set_option linter.all false
set_option maxRecDepth 100000
set_option maxHeartbeats 4000000
namespace K62
open PySem PySem.Spec PyProof.Rows L2 Pd
section
variable {P : Program} {w : World} {K : PySem.W.Frag} {mg : Str → Option Value} {base : Heap}
theorem ok__law_step (T : Top P w K mg base) : FnOk P w K mg base (L2N.CX P w) 1 T.a__law_step T.d__law_step ["wheel", "state", "barred"] (spF K T.cv 3 F__law_step) :=
  def_okC (N := ["wheel", "state", "barred", "able", "cards", "filled", "row", "k"]) (ps := ["wheel", "state", "barred"]) (m := m__law_step) T.u__law_step sc__law_step (by decide) fun cdv A outer s H E hr tk po =>
    (b_cons (s_setLc 3 [("k", 7)] id (Or.inl rfl) rfl sc__law_step.nd (i_range1 rfl T.n_range (a_cons (e_callB call_len_seq cl_len rfl T.n_len (by decide +kernel) (a_cons (e_pk 0) a_nil)) a_nil)) (blkOk_by (N := ["wheel", "state", "barred", "able", "cards", "filled", "row", "k"]) (sc := defScope st__law_step) (by decide +kernel)) (fun _ => (g_name 7 sc__law_step.nd)) (fun _ => (c_one (t_c (k_notIn hr) (e_at (e_at (e_pk 0) (e_pk 7)) e_int) (e_pk 2)))) (fun _ => (e_var 7)) (sw_true rfl rfl rfl (by decide +kernel)))
    (b_cons (s_set 4 sc__law_step.nd (e_callTy call_list_of cl_listOf rfl T.n_list (by decide +kernel) (a_cons (e_pk 1) a_nil)))
    (b_cons (s_set 5 sc__law_step.nd e_int)
    (b_cons (s_if (t_c (k_eq hr) (e_callB (cr_sum rfl) cl_sum rfl T.n_sum (by decide +kernel) (a_cons (e_lc [("k", 7)] rfl sc__law_step.nd (i_seq (e_pk 3)) (blkOk_by (N := ["wheel", "state", "barred", "able", "cards", "filled", "row", "k"]) (sc := defScope st__law_step) (by decide +kernel)) (fun _ => (g_name 7 sc__law_step.nd)) (fun _ => c_nil) (fun _ => (e_fz (e_at (e_pk 4) (e_pk 7))))) a_nil)) e_int) (b_cons (s_set 4 sc__law_step.nd (e_lc [("k", 7)] rfl sc__law_step.nd (i_range1 rfl T.n_range (a_cons (e_callB call_len_seq cl_len rfl T.n_len (by decide +kernel) (a_cons (e_pk 0) a_nil)) a_nil)) (blkOk_by (N := ["wheel", "state", "barred", "able", "cards", "filled", "row", "k"]) (sc := defScope st__law_step) (by decide +kernel)) (fun _ => (g_name 7 sc__law_step.nd)) (fun _ => c_nil) (fun _ => (e_fz (e_add (e_at (e_pk 4) (e_pk 7)) (e_at (e_at (e_pk 0) (e_pk 7)) e_int))))))
    (b_one (s_set 5 sc__law_step.nd e_int))) b_nil)
    (b_cons (s_set 6 sc__law_step.nd (e_lst a_nil))
    (b_cons (s_for [7] po rfl (i_seq (e_pk 3)) (g_name 7 sc__law_step.nd) (b_one (s_set 6 sc__law_step.nd (e_add (e_pk 6) (e_mul (e_lst (a_cons (e_var 7) a_nil)) (e_at (e_pk 4) (e_pk 7)))))))
    (b_one (s_ret (e_tupM (a_cons (e_mov 4) (a_cons (e_mov 6) (a_cons (e_mov 5) a_nil))))))))))))
theorem ok__law_deal (T : Top P w K mg base) : FnOk P w K mg base (L2N.CX P w) 2 T.a__law_deal T.d__law_deal ["wheel", "state", "barred", "draw"] (spF K T.cv 4 F__law_deal) :=
  def_okC (N := ["wheel", "state", "barred", "draw", "cards", "row", "filled", "k"]) (ps := ["wheel", "state", "barred", "draw"]) (m := m__law_deal) T.u__law_deal sc__law_deal (by decide) fun cdv A outer s H E hr tk po =>
    (b_cons (s_asg (e_call (ok__law_step T) hr (by decide) T.g__law_step T.u__law_step.kp T.b__law_step tk rfl (a_cons (e_var 0) (a_cons (e_var 1) (a_cons (e_var 2) a_nil)))) (g_seq rfl (gs_cons (g_name 4 sc__law_deal.nd) (gs_cons (g_name 5 sc__law_deal.nd) (gs_cons (g_name 6 sc__law_deal.nd) gs_nil)))))
    (b_cons (s_set 7 sc__law_deal.nd (e_at (e_pk 5) (e_mod (e_pk 3) (e_callB call_len_seq cl_len rfl T.n_len (by decide +kernel) (a_cons (e_pk 5) a_nil)))))
    (b_cons (s_setIx 4 (e_pk 7) (e_sub (e_at (e_pk 4) (e_pk 7)) e_int))
    (b_one (s_ret (e_tup (a_cons (e_var 7) (a_cons (e_callTy call_tuple_of cl_tupOf rfl T.n_tuple (by decide +kernel) (a_cons (e_pk 4) a_nil)) (a_cons (e_var 6) a_nil)))))))))
theorem ok__law_able (T : Top P w K mg base) : FnOk P w K mg base (L2N.CX P w) 1 T.a__law_able T.d__law_able ["wheel", "barred"] (spF K T.cv 2 F__law_able) :=
  def_okC (N := ["wheel", "barred", "pair"]) (ps := ["wheel", "barred"]) (m := m__law_able) T.u__law_able sc__law_able (by decide) fun cdv A outer s H E hr tk po =>
    (b_one (s_ret (e_c (k_ne hr) (e_lc [("pair", 2)] rfl sc__law_able.nd (i_seq (e_pk 0)) (blkOk_by (N := ["wheel", "barred", "pair"]) (sc := defScope st__law_able) (by decide +kernel)) (fun _ => (g_name 2 sc__law_able.nd)) (fun _ => (c_one (t_c (k_notIn hr) (e_at (e_pk 2) e_int) (e_pk 1)))) (fun _ => (e_fz (e_at (e_pk 2) e_int)))) (e_lst a_nil))))
theorem ok__law_lowest (T : Top P w K mg base) : FnOk P w K mg base (L2N.CX P w) 1 T.a__law_lowest T.d__law_lowest ["part", "whole"] (spF K T.cv 2 F__law_lowest) :=
  def_okC (N := ["part", "whole", "one", "other", "k", "rest"]) (ps := ["part", "whole"]) (m := m__law_lowest) T.u__law_lowest sc__law_lowest (by decide) fun cdv A outer s H E hr tk po =>
    (b_cons (s_set 2 sc__law_lowest.nd (e_var 1))
    (b_cons (s_set 3 sc__law_lowest.nd (e_var 0))
    (b_cons (s_for [4, 5] po rfl (i_range1 rfl T.n_range (a_cons e_int a_nil)) (g_name 4 sc__law_lowest.nd) (b_cons (s_if (t_c (k_eq hr) (e_pk 3) e_int) (b_one s_break) b_nil)
    (b_cons (s_set 5 sc__law_lowest.nd (e_mod (e_pk 2) (e_pk 3)))
    (b_cons (s_set 2 sc__law_lowest.nd (e_var 3))
    (b_one (s_set 3 sc__law_lowest.nd (e_var 5)))))))
    (b_one (s_ret (e_tup (a_cons (e_div (e_pk 0) (e_pk 2)) (a_cons (e_div (e_pk 1) (e_pk 2)) a_nil))))))))
theorem ok__law_is (T : Top P w K mg base) : FnOk P w K mg base (L2N.CX P w) 2 T.a__law_is T.d__law_is ["value", "due"] (spF K T.cv 2 F__law_is) :=
  def_okC (N := ["value", "due", "one"]) (ps := ["value", "due"]) (m := m__law_is) T.u__law_is sc__law_is (by decide) fun cdv A outer s H E hr tk po =>
    (b_cons (s_if (t_w (w_or (t_not (t_tru (e_isi rfl T.n_isinstance rfl T.n_tuple (by decide +kernel) (e_pk 0)) (fun _ => rfl))) (w_or (t_c (k_ne hr) (e_callB call_len_seq cl_len rfl T.n_len (by decide +kernel) (a_cons (e_pk 0) a_nil)) e_int) (w_or1 (t_c (k_in hr) e_bl (e_lc [("one", 2)] rfl sc__law_is.nd (i_seq (e_pk 0)) (blkOk_by (N := ["value", "due", "one"]) (sc := defScope st__law_is) (by decide +kernel)) (fun _ => (g_name 2 sc__law_is.nd)) (fun _ => c_nil) (fun _ => (e_fz (e_call (ok__law_int T) hr (by decide) T.g__law_int T.u__law_int.kp T.b__law_int takesN rfl (a_cons (e_var 2) a_nil)))))))))) (b_one (s_ret e_bl)) b_nil)
    (b_one (s_ret (e_and (e_c (k_eq hr) (e_at (e_pk 0) e_int) (e_at (e_pk 1) e_int)) (e_one (e_c (k_eq hr) (e_at (e_pk 0) e_int) (e_at (e_pk 1) e_int)))))))
theorem ok__law_chance (T : Top P w K mg base) : FnOk P w K mg base (L2N.CX P w) 3 T.a__law_chance T.d__law_chance ["wheel", "record"] (spF K T.cv 2 F__law_chance) :=
  def_okC (N := ["wheel", "record", "state", "part", "whole", "log", "name", "barred", "judge", "cards", "row", "filled", "places", "weight", "k"]) (ps := ["wheel", "record"]) (m := m__law_chance) T.u__law_chance sc__law_chance (by decide) fun cdv A outer s H E hr tk po =>
    (b_cons (s_set 2 sc__law_chance.nd (e_callTy call_tuple_of cl_tupOf rfl T.n_tuple (by decide +kernel) (a_cons (e_lc [("judge", 8), ("weight", 13)] rfl sc__law_chance.nd (i_seq (e_pk 0)) (blkOk_by (N := ["wheel", "record", "state", "part", "whole", "log", "name", "barred", "judge", "cards", "row", "filled", "places", "weight", "k"]) (sc := defScope st__law_chance) (by decide +kernel)) (fun _ => (g_seq rfl (gs_cons (g_name 8 sc__law_chance.nd) (gs_cons (g_name 13 sc__law_chance.nd) gs_nil)))) (fun _ => c_nil) (fun _ => (e_var 13))) a_nil)))
    (b_cons (s_set 3 sc__law_chance.nd e_int)
    (b_cons (s_set 4 sc__law_chance.nd e_int)
    (b_cons (s_set 5 sc__law_chance.nd (e_lst a_nil))
    (b_cons (s_for [6, 7, 8, 9, 10, 11, 12] po rfl (i_seq (e_pk 1)) (g_seq rfl (gs_cons (g_name 6 sc__law_chance.nd) (gs_cons (g_name 7 sc__law_chance.nd) (gs_cons (g_name 8 sc__law_chance.nd) gs_nil)))) (b_cons (s_if (t_not (t_tru (e_call (ok__law_able T) hr (by decide) T.g__law_able T.u__law_able.kp T.b__law_able tk rfl (a_cons (e_var 0) (a_cons (e_var 7) a_nil))) (fun _ => rfl))) (b_one (s_ret (e_tup (a_cons (e_tup (a_cons e_int (a_cons e_int a_nil))) (a_cons e_non a_nil))))) b_nil)
    (b_cons (s_asg (e_call (ok__law_step T) hr (by decide) T.g__law_step T.u__law_step.kp T.b__law_step tk rfl (a_cons (e_var 0) (a_cons (e_var 2) (a_cons (e_var 7) a_nil)))) (g_seq rfl (gs_cons (g_name 9 sc__law_chance.nd) (gs_cons (g_name 10 sc__law_chance.nd) (gs_cons (g_name 11 sc__law_chance.nd) gs_nil)))))
    (b_cons (s_setLc 12 [("k", 14)] id (Or.inl rfl) rfl sc__law_chance.nd (i_range1 rfl T.n_range (a_cons (e_callB call_len_seq cl_len rfl T.n_len (by decide +kernel) (a_cons (e_pk 10) a_nil)) a_nil)) (blkOk_by (N := ["wheel", "record", "state", "part", "whole", "log", "name", "barred", "judge", "cards", "row", "filled", "places", "weight", "k"]) (sc := defScope st__law_chance) (by decide +kernel)) (fun _ => (g_name 14 sc__law_chance.nd)) (fun _ => (c_one (t_c (k_eq hr) (e_at (e_at (e_pk 0) (e_at (e_pk 10) (e_pk 14))) e_int) (e_pk 8)))) (fun _ => (e_var 14)) (sw_true rfl rfl rfl (by decide +kernel)))
    (b_cons (s_if (t_c (k_eq hr) (e_pk 12) (e_lst a_nil)) (b_one (s_ret (e_tup (a_cons (e_tup (a_cons e_int (a_cons e_int a_nil))) (a_cons e_non a_nil))))) b_nil)
    (b_cons (s_set 3 sc__law_chance.nd (e_mul (e_pk 3) (e_callB call_len_seq cl_len rfl T.n_len (by decide +kernel) (a_cons (e_pk 12) a_nil))))
    (b_cons (s_set 4 sc__law_chance.nd (e_mul (e_pk 4) (e_callB call_len_seq cl_len rfl T.n_len (by decide +kernel) (a_cons (e_pk 10) a_nil))))
    (b_cons (s_app 5 (e_tup (a_cons (e_var 6) (a_cons (e_var 7) (a_cons (e_fz (e_at (e_pk 12) (e_un un_neg um_neg e_int))) (a_cons (e_var 8) a_nil))))))
    (b_one (s_set 2 sc__law_chance.nd (e_at (e_call (ok__law_deal T) hr (by decide) T.g__law_deal T.u__law_deal.kp T.b__law_deal tk rfl (a_cons (e_var 0) (a_cons (e_var 2) (a_cons (e_var 7) (a_cons (e_fz (e_at (e_pk 12) (e_un un_neg um_neg e_int))) a_nil))))) e_int)))))))))))
    (b_one (s_ret (e_tup (a_cons (e_fz (e_call (ok__law_lowest T) hr (by decide) T.g__law_lowest T.u__law_lowest.kp T.b__law_lowest tk rfl (a_cons (e_var 3) (a_cons (e_var 4) a_nil)))) (a_cons (e_var 5) a_nil))))))))))
end
end K62
set_option Elab.async false
set_option linter.all false
set_option maxRecDepth 100000
set_option maxHeartbeats 4000000
namespace K62
open PySem PySem.Spec PyProof.Rows L2 Pd
section
variable {P : Program} {w : World} {K : PySem.W.Frag} {mg : Str → Option Value} {base : Heap}
theorem ok__law_asked (T : Top P w K mg base) : FnOk P w K mg base (L2N.CX P w) 5 T.a__law_asked T.d__law_asked ["wheel", "record"] (spF K T.cv 2 F__law_asked) :=
  def_okC (N := ["wheel", "record", "handed", "due", "log", "told"]) (ps := ["wheel", "record"]) (m := m__law_asked) T.u__law_asked sc__law_asked (by decide) fun cdv A outer s H E hr tk po =>
    (b_cons (s_set 2 sc__law_asked.nd (e_callTy call_list_of cl_listOf rfl T.n_list (by decide +kernel) (a_cons (e_pk 1) a_nil)))
    (b_cons (s_asg (e_call (ok__law_chance T) hr (by decide) T.g__law_chance T.u__law_chance.kp T.b__law_chance tk rfl (a_cons (e_var 0) (a_cons (e_var 1) a_nil))) (g_seq rfl (gs_cons (g_name 3 sc__law_asked.nd) (gs_cons (g_name 4 sc__law_asked.nd) gs_nil))))
    (b_cons (s_set 5 sc__law_asked.nd (e_call (ok_chance_of T) hr (by decide) T.g_chance_of T.u_chance_of.kp T.b_chance_of tk rfl (a_cons (e_var 0) (a_cons (e_var 2) a_nil))))
    (b_cons (s_if (t_w (w_or (t_c (k_ne hr) (e_pk 2) (e_pk 1)) (w_or1 (t_not (t_tru (e_call (ok__law_is T) hr (by decide) T.g__law_is T.u__law_is.kp T.b__law_is tk rfl (a_cons (e_var 5) (a_cons (e_var 3) a_nil))) (fun _ => rfl)))))) (b_one (s_ret e_bl)) b_nil)
    (b_cons (s_if (t_c k_isN (e_pk 4) e_non) (b_one (s_ret (e_c (k_eq hr) (e_pk 5) (e_tup (a_cons e_int (a_cons e_int a_nil)))))) b_nil)
    (b_one (s_ret (e_and (e_c (k_ne hr) (e_pk 5) (e_tup (a_cons e_int (a_cons e_int a_nil)))) (e_one (e_c k_isN (e_call (ok_first_fault T) hr (by decide) T.g_first_fault T.u_first_fault.kp T.b_first_fault tk rfl (a_cons (e_var 0) (a_cons (e_var 4) a_nil))) e_non))))))))))
theorem ok__law_all (T : Top P w K mg base) : FnOk P w K mg base (L2N.CX P w) 6 T.a__law_all T.d__law_all ["wheel", "rows"] (spF K T.cv 2 F__law_all) :=
  def_okC (N := ["wheel", "rows", "records", "names", "barred", "more", "record", "name", "part", "whole", "one", "pair"]) (ps := ["wheel", "rows"]) (m := m__law_all) T.u__law_all sc__law_all (by decide) fun cdv A outer s H E hr tk po =>
    (b_cons (s_set 2 sc__law_all.nd (e_lst (a_cons (e_fz (e_lst a_nil)) a_nil)))
    (b_cons (s_set 3 sc__law_all.nd (e_add (e_lc [("pair", 11)] rfl sc__law_all.nd (i_seq (e_pk 0)) (blkOk_by (N := ["wheel", "rows", "records", "names", "barred", "more", "record", "name", "part", "whole", "one", "pair"]) (sc := defScope st__law_all) (by decide +kernel)) (fun _ => (g_name 11 sc__law_all.nd)) (fun _ => c_nil) (fun _ => (e_fz (e_at (e_pk 11) e_int)))) (e_lst (a_cons e_str a_nil))))
    (b_cons (s_for [4, 5, 6, 7] po rfl (i_seq (e_pk 1)) (g_name 4 sc__law_all.nd) (b_cons (s_set 5 sc__law_all.nd (e_lst a_nil))
    (b_cons (s_for [6, 7] po rfl (i_seq (e_pk 2)) (g_name 6 sc__law_all.nd) (b_one (s_for [7] po rfl (i_seq (e_pk 3)) (g_name 7 sc__law_all.nd) (b_one (s_app 5 (e_fz (e_add (e_pk 6) (e_lst (a_cons (e_tup (a_cons e_str (a_cons (e_var 4) (a_cons (e_var 7) a_nil)))) a_nil)))))))))
    (b_one (s_set 2 sc__law_all.nd (e_var 5))))))
    (b_cons (s_set 8 sc__law_all.nd e_int)
    (b_cons (s_set 9 sc__law_all.nd e_int)
    (b_cons (s_for [6, 10] po rfl (i_seq (e_pk 2)) (g_name 6 sc__law_all.nd) (b_cons (s_if (t_not (t_tru (e_call (ok__law_asked T) hr (by decide) T.g__law_asked T.u__law_asked.kp T.b__law_asked tk rfl (a_cons (e_var 0) (a_cons (e_var 6) a_nil))) (fun _ => rfl))) (b_one (s_ret e_bl)) b_nil)
    (b_cons (s_set 10 sc__law_all.nd (e_call (ok_chance_of T) hr (by decide) T.g_chance_of T.u_chance_of.kp T.b_chance_of tk rfl (a_cons (e_var 0) (a_cons (e_var 6) a_nil))))
    (b_one (s_asg (e_call (ok__law_lowest T) hr (by decide) T.g__law_lowest T.u__law_lowest.kp T.b__law_lowest tk rfl (a_cons (e_fz (e_add (e_mul (e_pk 8) (e_at (e_pk 10) e_int)) (e_mul (e_at (e_pk 10) e_int) (e_pk 9)))) (a_cons (e_fz (e_mul (e_pk 9) (e_at (e_pk 10) e_int))) a_nil))) (g_seq rfl (gs_cons (g_name 8 sc__law_all.nd) (gs_cons (g_name 9 sc__law_all.nd) gs_nil))))))))
    (b_one (s_ret (e_and (e_c (k_eq hr) (e_pk 8) e_int) (e_one (e_c (k_eq hr) (e_pk 9) e_int)))))))))))
end
end K62
set_option Elab.async false
set_option linter.all false
set_option maxRecDepth 100000
set_option maxHeartbeats 4000000
namespace K62
open PySem PySem.Spec PyProof.Rows L2 Pd
section
variable {P : Program} {w : World} {K : PySem.W.Frag} {mg : Str → Option Value} {base : Heap}
theorem okh__law_able (T : Top P w K mg base) : FnP P w K mg base (L2N.CX P w) 1 T.a__law_able T.d__law_able ["wheel", "barred"] (spE K T.cv 2 G__law_able) :=
  def_okH (N := ["wheel", "barred", "pair"]) (ps := ["wheel", "barred"]) (m := mx__law_able) T.u__law_able sc__law_able (by decide) fun p c cdv A outer s H E he hr hc => by
    by_cases z : c = "Refused"
    · subst z
      rw [show mx__law_able p.1 "Refused" = mh__law_able p.1 from if_pos rfl]
      have he : ErrObj p (.ref T.c_Refused) := by rw [← T.e_Refused]; exact he
      exact ((b_one (s_ret (e_c (k_neH hr) (e_lcW [("pair", 2)] hc sc__law_able.nd (i_seqW (e_pk 0)) (blkOk_by (N := ["wheel", "barred", "pair"]) (sc := defScope st__law_able) (by decide +kernel)) (fun _ => (g_name 2 sc__law_able.nd)) (fun _ => (c_one (t_c (k_notInH hr) (e_at (e_pk 2) e_int) (e_pk 1)))) (fun _ => (e_fz (e_at (e_pk 2) e_int)))) (e_lst a_nil)))))
    · rw [show mx__law_able p.1 c = mBad from if_neg z]
      exact b_bad
theorem okh__law_told (T : Top P w K mg base) : FnP P w K mg base (L2N.CX P w) 1 T.a__law_told T.d__law_told ["error"] (spE K T.cv 1 G__law_told) :=
  def_okH (N := ["error", "kinds", "names", "name", "true"]) (ps := ["error"]) (m := mx__law_told) T.u__law_told sc__law_told (by decide) fun p c cdv A outer s H E he hr hc => by
    by_cases z : c = "Refused"
    · subst z
      rw [show mx__law_told p.1 "Refused" = mh__law_told p.1 from if_pos rfl]
      have he : ErrObj p (.ref T.c_Refused) := by rw [← T.e_Refused]; exact he
      exact ((b_cons (s_set 1 sc__law_told.nd (e_lst (a_cons (e_tup (a_cons e_str (a_cons (e_isEo (a := p.1) (oe := p.2) (b := false) (List.mem_singleton.mpr rfl) T.ec_Refused he.1 he.2 T.ki_Refused_OutOfRange rfl T.n_isinstance rfl T.g_OutOfRange (e_pk 0)) a_nil))) (a_cons (e_tup (a_cons e_str (a_cons (e_isEo (a := p.1) (oe := p.2) (b := false) (List.mem_singleton.mpr rfl) T.ec_Refused he.1 he.2 T.ki_Refused_Malformed rfl T.n_isinstance rfl T.g_Malformed (e_pk 0)) a_nil))) (a_cons (e_tup (a_cons e_str (a_cons (e_isEo (a := p.1) (oe := p.2) (b := false) (List.mem_singleton.mpr rfl) T.ec_Refused he.1 he.2 T.ki_Refused_NotThere rfl T.n_isinstance rfl T.g_NotThere (e_pk 0)) a_nil))) (a_cons (e_tup (a_cons e_str (a_cons (e_isEo (a := p.1) (oe := p.2) (b := true) (List.mem_singleton.mpr rfl) T.ec_Refused he.1 he.2 T.ki_Refused_Refused rfl T.n_isinstance rfl T.g_Refused (e_pk 0)) a_nil))) (a_cons (e_tup (a_cons e_str (a_cons (e_isEo (a := p.1) (oe := p.2) (b := false) (List.mem_singleton.mpr rfl) T.ec_Refused he.1 he.2 T.ki_Refused_TooMuch rfl T.n_isinstance rfl T.g_TooMuch (e_pk 0)) a_nil))) a_nil)))))))
          (b_cons (s_setLcW 2 [("name", 3), ("true", 4)] hc sc__law_told.nd (i_seqW (e_pk 1)) (blkOk_by (N := ["error", "kinds", "names", "name", "true"]) (sc := defScope st__law_told) (by decide +kernel)) (fun _ => (g_tupW hc.blk (gs_cons (g_name 3 sc__law_told.nd) (gs_cons (g_name 4 sc__law_told.nd) gs_nil)))) (fun _ => (c_one (t_tru (e_var 4) (fun _ => rfl)))) (fun _ => (e_var 3)) (sw_true rfl rfl rfl (by decide +kernel)))
          (b_cons (s_if (t_w (w_or (t_c (k_neH hr) (e_callB call_len_seq cl_len rfl T.n_len (by decide +kernel) (a_cons (e_pk 2) a_nil)) e_int) (w_or1 (t_not (t_tru (e_isEb (a := p.1) (oe := p.2) (b := true) (List.mem_singleton.mpr rfl) T.ec_Refused he.1 he.2 T.ki_Refused_ValueError rfl T.n_isinstance rfl T.n_ValueError (by decide +kernel) (e_pk 0)) (fun _ => rfl)))))) (b_one (s_ret e_str)) b_nil)
          (b_one (s_ret (e_at (e_pk 2) e_int)))))))
    · rw [show mx__law_told p.1 c = mBad from if_neg z]
      exact b_bad
end
end K62
set_option Elab.async false
set_option linter.all false
set_option maxRecDepth 100000
set_option maxHeartbeats 4000000
namespace K62
open PySem PySem.Spec PyProof.Rows L2 Pd
theorem sR : PyData.strOk (("Refused" : Str)) = true := by decide +kernel
theorem isE_ev (a : Addr) (b : Bool) (ρ : Rho) : fIsE a b (.rv (.val (.exc a))) ρ = some (.v (.bl b)) := by simp [fIsE, when]
theorem told_ev (a : Addr) : G__law_told a "Refused" [.own (.val (.exc a))] = .ok (.val (.str "Refused")) [.any] := by
  have e : mx__law_told a "Refused" = mh__law_told a := if_pos rfl
  unfold G__law_told
  rw [e]
  simp [runDef, mh__law_told, mSeq, mAsg, M.bind, M.pure, mLst, mTup, mCl, mCons, mNil, mUn, Pd.lift, mPk, isE_ev, fTup, fLst, vals?, when, put, mSet, mNx, mLc, mSeqIt, mFz, mVar, fItems, seqD, wipR, mLcL, fVal, lcEnd, Pd.rest, keepV, fgt1, fgt, mFgt, mUnpT, unpT, mSets, mTru, fTru, truD, Tm.dat, Tm.r, Rv.toD, Rv.toDs, mIf, mOr, mNot, mOp, fBl, fEqN, fLen, Tm.elsF, Rv.elsF, Rv.els, flat, slR, D.py, D.dep, PyData.eqv, mRet, fIx, orF, fIxL, atI, ixN, keepA]
theorem hct__law_state {P : Program} {w : World} {K : PySem.W.Frag} {mg : Str → Option Value} {base : Heap} (T : Top P w K mg base) : ∀ c b, ct__law_state c = some b → PySem.W.exmOne K (T.cv.f c) (.ref T.c_DocketError) = some b := fun c b h => by
  unfold ct__law_state at h
  split at h
  · rename_i e
    subst e
    rw [T.e_Refused, ← h]
    exact T.te_Refused
  · cases h
theorem ct_is__law_state {c : Str} (h : ct__law_state c = some true) : c = "Refused" := by
  unfold ct__law_state at h
  split at h
  · assumption
  · cases h
theorem hind__law_state (a : Addr) (c : Str) (ρ : Rho) (h : ct__law_state c = some true) :
    unexc 4 ((mRet (mAndV (mNotV (mCall 2 (G__law_able a c) (mCons (mVar 0) (mCons (mVar 2) mNil)))) (mOp (fEqN false) (mCall 1 (G__law_told a c) (mCons (mVar 4) mNil)) (M.pure (.v (.str "Refused")))))) (ρ.set 4 (.own (.val (.exc a))))) =
    unexc 4 ((mRet (mAndV (mNotV (mCall 2 (G__law_able 0 c) (mCons (mVar 0) (mCons (mVar 2) mNil)))) (mOp (fEqN false) (mCall 1 (G__law_told 0 c) (mCons (mVar 4) mNil)) (M.pure (.v (.str "Refused")))))) (ρ.set 4 (.own (.val (.exc 0))))) := by
  obtain rfl := ct_is__law_state h
  have eG : G__law_able a "Refused" = G__law_able 0 "Refused" := rfl
  rw [eG]
  have sw : Sw 4 (fun _ => True) (mTru fBl (mNotV (mCall 2 (G__law_able 0 "Refused") (mCons (mVar 0) (mCons (mVar 2) mNil))))) := Sw.mTru (Sw.mNotV (Sw.mCall (Sw.mCons (Sw.mVar (by decide)) (Sw.mCons (Sw.mVar (by decide)) Sw.mNil))))
  have tail : ∀ (b : Addr) (ρ' : Rho), 4 < ρ'.length → (mOp (fEqN false) (mCall 1 (G__law_told b "Refused") (mCons (mVar 4) mNil)) (M.pure (.v (.str "Refused")))) (ρ'.set 4 (.own (.val (.exc b)))) = .ok (.v (.bl true)) (ρ'.set 4 (.own (.val (.exc b)))) := fun b ρ' hl => by
    have e4 : (ρ'.set 4 (Sl.own (.val (.exc b))))[4]? = some (Sl.own (.val (.exc b))) := List.getElem?_set_self hl
    have ec := callF_vals (G__law_told b "Refused") [D.exc b] (ρ'.set 4 (Sl.own (.val (.exc b))))
    simp only [List.map_cons, List.map_nil, told_ev] at ec
    simp [mOp, mCall, mCons, mNil, M.bind, M.pure, mVar, e4, ec, Pd.lift, fEqN, Tm.dat, Tm.r, Rv.toD, D.dep, D.py, PyData.eqv, when, sR]
  have tailN : ∀ (b : Addr) (ρ' : Rho), ¬ 4 < ρ'.length → (mOp (fEqN false) (mCall 1 (G__law_told b "Refused") (mCons (mVar 4) mNil)) (M.pure (.v (.str "Refused")))) (ρ'.set 4 (.own (.val (.exc b)))) = .bad := fun b ρ' hl => by
    have e4 : (ρ'.set 4 (Sl.own (.val (.exc b))))[4]? = none := List.getElem?_eq_none (by rw [List.length_set]; omega)
    simp [mOp, mCall, mCons, mNil, M.bind, M.pure, mVar, e4]
  have key : ∀ b : Addr, (mRet (mAndV (mNotV (mCall 2 (G__law_able 0 "Refused") (mCons (mVar 0) (mCons (mVar 2) mNil)))) (mOp (fEqN false) (mCall 1 (G__law_told b "Refused") (mCons (mVar 4) mNil)) (M.pure (.v (.str "Refused")))))) (ρ.set 4 (.own (.val (.exc b)))) =
      match mTru fBl (mNotV (mCall 2 (G__law_able 0 "Refused") (mCons (mVar 0) (mCons (mVar 2) mNil)))) (ρ.set 4 .any) with
      | .ok true ρ' => if 4 < ρ'.length then .ok (.rt (.val (.bl true))) (ρ'.set 4 (.own (.val (.exc b)))) else .bad
      | .ok false ρ' => .ok (.rt (.val (.bl false))) (ρ'.set 4 (.own (.val (.exc b))))
      | .err c ρ' => .err c (ρ'.set 4 (.own (.val (.exc b))))
      | .bad => .bad := fun b => by
    unfold mRet mAndV
    unfold M.bind
    rw [sw.eq]
    cases mTru fBl (mNotV (mCall 2 (G__law_able 0 "Refused") (mCons (mVar 0) (mCons (mVar 2) mNil)))) (ρ.set 4 .any) with
    | bad => rfl
    | err c ρ' => rfl
    | ok k ρ' =>
      cases k with
      | false => rfl
      | true =>
        simp only [mapR, if_true]
        by_cases hl : 4 < ρ'.length
        · rw [tail b ρ' hl, if_pos hl]
          rfl
        · rw [tailN b ρ' hl, if_neg hl]
  rw [key a, key 0]
  cases mTru fBl (mNotV (mCall 2 (G__law_able 0 "Refused") (mCons (mVar 0) (mCons (mVar 2) mNil)))) (ρ.set 4 .any) with
  | bad => rfl
  | err c ρ' => rfl
  | ok k ρ' =>
    cases k with
    | false => simp [unexc]
    | true =>
      simp only
      by_cases hl : 4 < ρ'.length
      · rw [if_pos hl, if_pos hl]
        simp [unexc]
      · rw [if_neg hl, if_neg hl]
end K62
set_option Elab.async false
set_option linter.all false
set_option maxRecDepth 100000
set_option maxHeartbeats 4000000
namespace K62
open PySem PySem.Spec PyProof.Rows L2 Pd
section
variable {P : Program} {w : World} {K : PySem.W.Frag} {mg : Str → Option Value} {base : Heap}
theorem ok__law_state (T : Top P w K mg base) : FnOk P w K mg base (L2N.CX P w) 5 T.a__law_state T.d__law_state ["wheel", "state", "barred"] (spF K T.cv 3 F__law_state) :=
  def_okC (N := ["wheel", "state", "barred", "told", "error", "cards", "row", "filled", "due", "k", "pair"]) (ps := ["wheel", "state", "barred"]) (m := m__law_state) T.u__law_state sc__law_state (by decide) fun cdv A outer s H E hr tk po =>
    (b_cons (s_try 4 (C0 := .ref T.c_DocketError) (ct := ct__law_state) (mb := (mAsg (mCall 3 F_chances (mCons (mVar 0) (mCons (mVar 1) (mCons (mVar 2) mNil)))) (mSet 3))) (ms := fun a c => (mRet (mAndV (mNotV (mCall 2 (G__law_able a c) (mCons (mVar 0) (mCons (mVar 2) mNil)))) (mOp (fEqN false) (mCall 1 (G__law_told a c) (mCons (mVar 4) mNil)) (M.pure (.v (.str "Refused"))))))) rfl rfl sc__law_state.nd rfl rfl ⟨rfl, by decide, Or.inl T.g_DocketError⟩ tk (hct__law_state T) hind__law_state (fun W pn xe tk po => (b_one (s_set 3 sc__law_state.nd (e_call (ok_chances T) hr (by decide) T.g_chances T.u_chances.kp T.b_chances tk rfl (a_cons (e_var 0) (a_cons (e_var 1) (a_cons (e_var 2) a_nil)))))))
    (fun a oe c pn hcc hz hf => by
      obtain rfl : c = "Refused" := ct_is__law_state hcc
      exact (have hr := roomH_suite (a := a) (pn := (a, oe) :: pn) hr; have he : ErrObj (a, oe) (T.cv.f "Refused") := ⟨hz.zc, hf⟩; (b_one (s_ret (e_and (e_not (e_callH (p := (a, oe)) (c := "Refused") (okh__law_able T) hr (by decide) T.g__law_able T.u__law_able.kp T.b__law_able takesN (hot_suite hz hf) List.mem_cons_self he rfl (a_cons (e_var 0) (a_cons (e_var 2) a_nil)))) (e_one (e_c (k_eqH hr) (e_callH (p := (a, oe)) (c := "Refused") (okh__law_told T) hr (by decide) T.g__law_told T.u__law_told.kp T.b__law_told takesN (hot_suite hz hf) List.mem_cons_self he rfl (a_cons (e_var 4) a_nil)) e_str))))))))
    (b_cons (s_if (t_w (w_or (t_not (t_tru (e_call (ok__law_able T) hr (by decide) T.g__law_able T.u__law_able.kp T.b__law_able tk rfl (a_cons (e_var 0) (a_cons (e_var 2) a_nil))) (fun _ => rfl))) (w_or1 (t_not (t_tru (e_isi rfl T.n_isinstance rfl T.n_tuple (by decide +kernel) (e_pk 3)) (fun _ => rfl)))))) (b_one (s_ret e_bl)) b_nil)
    (b_cons (s_asg (e_call (ok__law_step T) hr (by decide) T.g__law_step T.u__law_step.kp T.b__law_step tk rfl (a_cons (e_var 0) (a_cons (e_var 1) (a_cons (e_var 2) a_nil)))) (g_seq rfl (gs_cons (g_name 5 sc__law_state.nd) (gs_cons (g_name 6 sc__law_state.nd) (gs_cons (g_name 7 sc__law_state.nd) gs_nil)))))
    (b_cons (s_set 8 sc__law_state.nd (e_lst a_nil))
    (b_cons (s_for [9] po rfl (i_range1 rfl T.n_range (a_cons (e_callB call_len_seq cl_len rfl T.n_len (by decide +kernel) (a_cons (e_pk 0) a_nil)) a_nil)) (g_name 9 sc__law_state.nd) (b_one (s_if (t_c k_gt (e_mtL PySem.F.slot_list_count PySem.F.type_list_count mt_lcount mtm_count (e_pk 6) (a_cons (e_pk 9) a_nil)) e_int) (b_one (s_app 8 (e_tup (a_cons (e_fz (e_at (e_at (e_pk 0) (e_pk 9)) e_int)) (a_cons (e_fz (e_call (ok__law_lowest T) hr (by decide) T.g__law_lowest T.u__law_lowest.kp T.b__law_lowest tk rfl (a_cons (e_fz (e_mtL PySem.F.slot_list_count PySem.F.type_list_count mt_lcount mtm_count (e_pk 6) (a_cons (e_pk 9) a_nil))) (a_cons (e_callB call_len_seq cl_len rfl T.n_len (by decide +kernel) (a_cons (e_pk 6) a_nil)) a_nil)))) a_nil))))) b_nil)))
    (b_cons (s_if (t_w (w_or (t_c (k_in hr) e_bl (e_lc [("pair", 10)] rfl sc__law_state.nd (i_seq (e_pk 3)) (blkOk_by (N := ["wheel", "state", "barred", "told", "error", "cards", "row", "filled", "due", "k", "pair"]) (sc := defScope st__law_state) (by decide +kernel)) (fun _ => (g_name 10 sc__law_state.nd)) (fun _ => c_nil) (fun _ => (e_and (e_isi rfl T.n_isinstance rfl T.n_tuple (by decide +kernel) (e_pk 10)) (e_one (e_c (k_eq hr) (e_callB call_len_seq cl_len rfl T.n_len (by decide +kernel) (a_cons (e_pk 10) a_nil)) e_int)))))) (w_or1 (t_c (k_ne hr) (e_lc [("pair", 10)] rfl sc__law_state.nd (i_seq (e_pk 3)) (blkOk_by (N := ["wheel", "state", "barred", "told", "error", "cards", "row", "filled", "due", "k", "pair"]) (sc := defScope st__law_state) (by decide +kernel)) (fun _ => (g_name 10 sc__law_state.nd)) (fun _ => c_nil) (fun _ => (e_fz (e_at (e_pk 10) e_int)))) (e_lc [("pair", 10)] rfl sc__law_state.nd (i_seq (e_pk 8)) (blkOk_by (N := ["wheel", "state", "barred", "told", "error", "cards", "row", "filled", "due", "k", "pair"]) (sc := defScope st__law_state) (by decide +kernel)) (fun _ => (g_name 10 sc__law_state.nd)) (fun _ => c_nil) (fun _ => (e_fz (e_at (e_pk 10) e_int)))))))) (b_one (s_ret e_bl)) b_nil)
    (b_one (s_ret (e_c (k_notIn hr) e_bl (e_lc [("k", 9)] rfl sc__law_state.nd (i_range1 rfl T.n_range (a_cons (e_callB call_len_seq cl_len rfl T.n_len (by decide +kernel) (a_cons (e_pk 8) a_nil)) a_nil)) (blkOk_by (N := ["wheel", "state", "barred", "told", "error", "cards", "row", "filled", "due", "k", "pair"]) (sc := defScope st__law_state) (by decide +kernel)) (fun _ => (g_name 9 sc__law_state.nd)) (fun _ => c_nil) (fun _ => (e_fz (e_call (ok__law_is T) hr (by decide) T.g__law_is T.u__law_is.kp T.b__law_is takesN rfl (a_cons (e_fz (e_at (e_at (e_pk 3) (e_pk 9)) e_int)) (a_cons (e_fz (e_at (e_at (e_pk 8) (e_pk 9)) e_int)) a_nil)))))))))))))))
theorem ok_law (T : Top P w K mg base) : FnOk P w K mg base (L2N.CX P w) 7 T.a_law T.d_law ["script"] (spF K T.cv 1 F_law) :=
  def_okC (N := ["script", "draws", "wheel", "small", "rows", "names", "record", "state", "k", "barred", "at", "filled", "name", "pair", "judge", "weight"]) (ps := ["script"]) (m := m_law) T.u_law sc_law (by decide) fun cdv A outer s H E hr tk po =>
    (b_cons (s_set 1 sc_law.nd (e_call (ok__law_open T) hr (by decide) T.g__law_open T.u__law_open.kp T.b__law_open tk rfl (a_cons (e_var 0) a_nil)))
    (b_cons (s_set 2 sc_law.nd (e_call (ok__law_wheel T) hr (by decide) T.g__law_wheel T.u__law_wheel.kp T.b__law_wheel tk rfl (a_cons (e_pk 1) a_nil)))
    (b_cons (s_set 3 sc_law.nd (e_slice (e_pk 2) p_none (p_some (e_at (e_lst (a_cons e_int (a_cons e_int (a_cons e_int a_nil)))) (e_call (ok__law_draw T) hr (by decide) T.g__law_draw T.u__law_draw.kp T.b__law_draw tk rfl (a_cons (e_pk 1) (a_cons e_int a_nil)))))))
    (b_cons (s_setLc 4 [("k", 8)] id (Or.inl rfl) rfl sc_law.nd (i_range1 rfl T.n_range (a_cons (e_at (e_lst (a_cons (e_fz (e_call (ok__law_draw T) hr (by decide) T.g__law_draw T.u__law_draw.kp T.b__law_draw tk rfl (a_cons (e_pk 1) (a_cons e_int a_nil)))) (a_cons e_int a_nil))) (e_callTy call_int1 cl_intOf rfl T.n_int (by decide +kernel) (a_cons (e_c (k_eq hr) (e_callB call_len_seq cl_len rfl T.n_len (by decide +kernel) (a_cons (e_pk 3) a_nil)) e_int) a_nil))) a_nil)) (blkOk_by (N := ["script", "draws", "wheel", "small", "rows", "names", "record", "state", "k", "barred", "at", "filled", "name", "pair", "judge", "weight"]) (sc := defScope st_law) (by decide +kernel)) (fun _ => (g_name 8 sc_law.nd)) (fun _ => c_nil) (fun _ => (e_fz (e_call (ok__law_barred T) hr (by decide) T.g__law_barred T.u__law_barred.kp T.b__law_barred takesN rfl (a_cons (e_pk 1) (a_cons (e_var 3) (a_cons e_bl a_nil)))))) (sw_true rfl rfl rfl (by decide +kernel)))
    (b_cons (s_if (t_not (t_tru (e_call (ok__law_all T) hr (by decide) T.g__law_all T.u__law_all.kp T.b__law_all tk rfl (a_cons (e_var 3) (a_cons (e_var 4) a_nil))) (fun _ => rfl))) (b_one (s_ret e_bl)) b_nil)
    (b_cons (s_setLc 5 [("pair", 13)] id (Or.inl rfl) rfl sc_law.nd (i_seq (e_pk 2)) (blkOk_by (N := ["script", "draws", "wheel", "small", "rows", "names", "record", "state", "k", "barred", "at", "filled", "name", "pair", "judge", "weight"]) (sc := defScope st_law) (by decide +kernel)) (fun _ => (g_name 13 sc_law.nd)) (fun _ => c_nil) (fun _ => (e_fz (e_at (e_pk 13) e_int))) (sw_true rfl rfl rfl (by decide +kernel)))
    (b_cons (s_set 6 sc_law.nd (e_lst a_nil))
    (b_cons (s_set 7 sc_law.nd (e_callTy call_tuple_of cl_tupOf rfl T.n_tuple (by decide +kernel) (a_cons (e_lc [("judge", 14), ("weight", 15)] rfl sc_law.nd (i_seq (e_pk 2)) (blkOk_by (N := ["script", "draws", "wheel", "small", "rows", "names", "record", "state", "k", "barred", "at", "filled", "name", "pair", "judge", "weight"]) (sc := defScope st_law) (by decide +kernel)) (fun _ => (g_seq rfl (gs_cons (g_name 14 sc_law.nd) (gs_cons (g_name 15 sc_law.nd) gs_nil)))) (fun _ => c_nil) (fun _ => (e_var 15))) a_nil)))
    (b_cons (s_for [8, 9, 10, 11] po rfl (i_range1 rfl T.n_range (a_cons (e_call (ok__law_draw T) hr (by decide) T.g__law_draw T.u__law_draw.kp T.b__law_draw tk rfl (a_cons (e_pk 1) (a_cons e_int a_nil))) a_nil)) (g_name 8 sc_law.nd) (b_cons (s_set 9 sc_law.nd (e_call (ok__law_barred T) hr (by decide) T.g__law_barred T.u__law_barred.kp T.b__law_barred tk rfl (a_cons (e_pk 1) (a_cons (e_var 2) (a_cons e_bl a_nil)))))
    (b_cons (s_if (t_w (w_or (t_not (t_tru (e_call (ok__law_state T) hr (by decide) T.g__law_state T.u__law_state.kp T.b__law_state tk rfl (a_cons (e_var 2) (a_cons (e_var 7) (a_cons (e_var 9) a_nil)))) (fun _ => rfl))) (w_or1 (t_not (t_tru (e_call (ok__law_state T) hr (by decide) T.g__law_state T.u__law_state.kp T.b__law_state tk rfl (a_cons (e_var 2) (a_cons (e_callTy call_tuple_of cl_tupOf rfl T.n_tuple (by decide +kernel) (a_cons (e_lc [("pair", 13)] rfl sc_law.nd (i_seq (e_pk 2)) (blkOk_by (N := ["script", "draws", "wheel", "small", "rows", "names", "record", "state", "k", "barred", "at", "filled", "name", "pair", "judge", "weight"]) (sc := defScope st_law) (by decide +kernel)) (fun _ => (g_name 13 sc_law.nd)) (fun _ => c_nil) (fun _ => (e_fz (e_call (ok__law_draw T) hr (by decide) T.g__law_draw T.u__law_draw.kp T.b__law_draw takesN rfl (a_cons (e_pk 1) (a_cons e_int a_nil)))))) a_nil)) (a_cons (e_var 9) a_nil)))) (fun _ => rfl)))))) (b_one (s_ret e_bl)) b_nil)
    (b_cons (s_asg (e_call (ok__law_deal T) hr (by decide) T.g__law_deal T.u__law_deal.kp T.b__law_deal tk rfl (a_cons (e_var 2) (a_cons (e_var 7) (a_cons (e_var 9) (a_cons (e_fz (e_call (ok__law_draw T) hr (by decide) T.g__law_draw T.u__law_draw.kp T.b__law_draw tk rfl (a_cons (e_pk 1) (a_cons e_int a_nil)))) a_nil))))) (g_seq rfl (gs_cons (g_name 10 sc_law.nd) (gs_cons (g_name 7 sc_law.nd) (gs_cons (g_name 11 sc_law.nd) gs_nil)))))
    (b_one (s_app 6 (e_tup (a_cons e_str (a_cons (e_var 9) (a_cons (e_fz (e_at (e_at (e_pk 2) (e_pk 10)) e_int)) a_nil))))))))))
    (b_cons (s_if (t_w (w_or (t_not (t_tru (e_call (ok__law_asked T) hr (by decide) T.g__law_asked T.u__law_asked.kp T.b__law_asked tk rfl (a_cons (e_var 2) (a_cons (e_var 6) a_nil))) (fun _ => rfl))) (w_or1 (t_not (t_tru (e_call (ok__law_state T) hr (by decide) T.g__law_state T.u__law_state.kp T.b__law_state tk rfl (a_cons (e_var 2) (a_cons (e_var 7) (a_cons (e_callTy call_tuple_of cl_tupOf rfl T.n_tuple (by decide +kernel) (a_cons (e_pk 5) a_nil)) a_nil)))) (fun _ => rfl)))))) (b_one (s_ret e_bl)) b_nil)
    (b_cons (s_for [8, 12] po rfl (i_range1 rfl T.n_range (a_cons (e_callB call_len_seq cl_len rfl T.n_len (by decide +kernel) (a_cons (e_pk 6) a_nil)) a_nil)) (g_name 8 sc_law.nd) (b_one (s_for [12] po rfl (i_seq (e_lst (a_cons (e_fz (e_at (e_pk 5) (e_call (ok__law_draw T) hr (by decide) T.g__law_draw T.u__law_draw.kp T.b__law_draw tk rfl (a_cons (e_pk 1) (a_cons (e_callB call_len_seq cl_len rfl T.n_len (by decide +kernel) (a_cons (e_pk 5) a_nil)) a_nil))))) (a_cons e_str a_nil)))) (g_name 12 sc_law.nd) (b_one (s_if (t_not (t_tru (e_call (ok__law_asked T) hr (by decide) T.g__law_asked T.u__law_asked.kp T.b__law_asked tk rfl (a_cons (e_var 2) (a_cons (e_fz (e_add (e_add (e_slice (e_pk 6) p_none (p_some (e_pk 8))) (e_lst (a_cons (e_tup (a_cons e_str (a_cons (e_fz (e_at (e_at (e_pk 6) (e_pk 8)) e_int)) (a_cons (e_var 12) a_nil)))) a_nil))) (e_slice (e_pk 6) (p_some (e_add (e_pk 8) e_int)) p_none))) a_nil))) (fun _ => rfl))) (b_one (s_ret e_bl)) b_nil)))))
    (b_one (s_ret (e_and (e_call (ok__law_asked T) hr (by decide) T.g__law_asked T.u__law_asked.kp T.b__law_asked tk rfl (a_cons (e_var 2) (a_cons (e_fz (e_add (e_pk 6) (e_lst (a_cons (e_tup (a_cons e_str (a_cons (e_callTy call_tuple_of cl_tupOf rfl T.n_tuple (by decide +kernel) (a_cons (e_pk 5) a_nil)) (a_cons (e_fz (e_at (e_pk 5) e_int)) a_nil)))) a_nil)))) a_nil))) (e_one (e_call (ok__law_asked T) hr (by decide) T.g__law_asked T.u__law_asked.kp T.b__law_asked tk rfl (a_cons (e_var 2) (a_cons (e_fz (e_lst a_nil)) a_nil))))))))))))))))))
end
end K62
set_option Elab.async false
set_option linter.all false
set_option maxRecDepth 100000
set_option maxHeartbeats 4000000
namespace K62
open PySem PySem.Spec PyProof.Rows L2 Pd LamX
theorem rep_pair {K : PySem.W.Frag} {a : Addr} {x y : Int} {d : Option Addr} {t u : Tok} {n : Nat} {sl : Array (Option Value)} (h : K.lookup a = some ⟨.type "tuple", d, .seq #[.int x t, .int y u] n, sl⟩) : ∀ B, Rep K B (.tup [.int x, .int y]) (.ref a) := fun B =>
  ⟨a, [.int x, .int y], rfl, .inr ⟨_, #[.int x t, .int y u], n, h, rfl, rfl, by show 2 ≤ sizeLine; decide, .cons ⟨t, rfl⟩ (.cons ⟨u, rfl⟩ .nil)⟩, ints_reps [x, y]⟩
def cvK (r o p : Addr) : Cv := ⟨fun c => if c = "Refused" then .ref r else if c = "OutOfRange" then .ref o else .none, [p]⟩
theorem cvK_Refused {r o p : Addr} : (cvK r o p).f "Refused" = .ref r := by simp [cvK]
theorem cvK_OutOfRange {r o p : Addr} : (cvK r o p).f "OutOfRange" = .ref o := by
  have ne : ¬ (("OutOfRange" : Str) = "Refused") := by decide
  simp [cvK, ne]
def LawTrue : Prop := ∀ ns : List Int, ns.length ≤ 63 → ∃ ρ, F_law [.own (.val (.fls (ns.map D.int)))] = .ok (.val (.bl true)) ρ
set_option maxHeartbeats 20000000 in
theorem all_mk (HT : LawTrue) {l : PySem.W.OpenLaw} {w : World} {K : PySem.W.Frag} {h : Heap} {mg : Str → Option Value} {fa : Addr} (X : K.In h) (G : h.Ns mainGlobals mg) (hfa : mg "law" = some (.ref fa)) (own : ∀ nm ∈ (["can_deal"] : List Str), ∀ f, mg nm = some (.ref f) → OwnTab K f h)
    {f_lowest : Addr} {od_lowest an_lowest : Option Addr} {sl_lowest : Array (Option Value)} {oc_lowest kV_lowest dc_lowest pm_lowest cd_lowest ct_lowest : Value}
    {f_made : Addr} {od_made an_made : Option Addr} {sl_made : Array (Option Value)} {oc_made kV_made dc_made pm_made cd_made ct_made : Value}
    {f_times : Addr} {od_times an_times : Option Addr} {sl_times : Array (Option Value)} {oc_times kV_times dc_times pm_times cd_times ct_times : Value}
    {f_full_state : Addr} {od_full_state an_full_state : Option Addr} {sl_full_state : Array (Option Value)} {oc_full_state kV_full_state dc_full_state pm_full_state cd_full_state ct_full_state : Value}
    {f_cards_for : Addr} {od_cards_for an_cards_for : Option Addr} {sl_cards_for : Array (Option Value)} {oc_cards_for kV_cards_for dc_cards_for pm_cards_for cd_cards_for ct_cards_for : Value}
    {f_without : Addr} {od_without an_without : Option Addr} {sl_without : Array (Option Value)} {oc_without kV_without dc_without pm_without cd_without ct_without : Value}
    {f_deal : Addr} {od_deal an_deal : Option Addr} {sl_deal : Array (Option Value)} {oc_deal kV_deal dc_deal pm_deal cd_deal ct_deal : Value}
    {f_can_deal cod_can_deal tab_can_deal : Addr} {od_can_deal an_can_deal dd_can_deal : Option Addr} {sl_can_deal sc_can_deal : Array (Option Value)} {oc_can_deal kV_can_deal dc_can_deal pm_can_deal ct_can_deal : Value} {vs_can_deal : Array Value} {fi_can_deal : Str} {tf_can_deal tg_can_deal tt_can_deal : Tok} {fl_can_deal te_can_deal : Int} {in_can_deal : Bool}
    {f_first_fault : Addr} {od_first_fault an_first_fault : Option Addr} {sl_first_fault : Array (Option Value)} {oc_first_fault kV_first_fault dc_first_fault pm_first_fault cd_first_fault ct_first_fault : Value}
    {f_steps : Addr} {od_steps an_steps : Option Addr} {sl_steps : Array (Option Value)} {oc_steps kV_steps dc_steps pm_steps cd_steps ct_steps : Value}
    {f_chances : Addr} {od_chances an_chances : Option Addr} {sl_chances : Array (Option Value)} {oc_chances kV_chances dc_chances pm_chances cd_chances ct_chances : Value}
    {f_chance_of : Addr} {od_chance_of an_chance_of : Option Addr} {sl_chance_of : Array (Option Value)} {oc_chance_of kV_chance_of dc_chance_of pm_chance_of cd_chance_of ct_chance_of : Value}
    {f__law_open : Addr} {od__law_open an__law_open : Option Addr} {sl__law_open : Array (Option Value)} {oc__law_open kV__law_open dc__law_open pm__law_open cd__law_open ct__law_open : Value}
    {f__law_mixed : Addr} {od__law_mixed an__law_mixed : Option Addr} {sl__law_mixed : Array (Option Value)} {oc__law_mixed kV__law_mixed dc__law_mixed pm__law_mixed cd__law_mixed ct__law_mixed : Value}
    {f__law_draw : Addr} {od__law_draw an__law_draw : Option Addr} {sl__law_draw : Array (Option Value)} {oc__law_draw kV__law_draw dc__law_draw pm__law_draw cd__law_draw ct__law_draw : Value}
    {f__law_told : Addr} {od__law_told an__law_told : Option Addr} {sl__law_told : Array (Option Value)} {oc__law_told kV__law_told dc__law_told pm__law_told cd__law_told ct__law_told : Value}
    {f__law_int : Addr} {od__law_int an__law_int : Option Addr} {sl__law_int : Array (Option Value)} {oc__law_int kV__law_int dc__law_int pm__law_int cd__law_int ct__law_int : Value}
    {f__law_wheel : Addr} {od__law_wheel an__law_wheel : Option Addr} {sl__law_wheel : Array (Option Value)} {oc__law_wheel kV__law_wheel dc__law_wheel pm__law_wheel cd__law_wheel ct__law_wheel : Value}
    {f__law_barred : Addr} {od__law_barred an__law_barred : Option Addr} {sl__law_barred : Array (Option Value)} {oc__law_barred kV__law_barred dc__law_barred pm__law_barred cd__law_barred ct__law_barred : Value}
    {f__law_step : Addr} {od__law_step an__law_step : Option Addr} {sl__law_step : Array (Option Value)} {oc__law_step kV__law_step dc__law_step pm__law_step cd__law_step ct__law_step : Value}
    {f__law_deal : Addr} {od__law_deal an__law_deal : Option Addr} {sl__law_deal : Array (Option Value)} {oc__law_deal kV__law_deal dc__law_deal pm__law_deal cd__law_deal ct__law_deal : Value}
    {f__law_able : Addr} {od__law_able an__law_able : Option Addr} {sl__law_able : Array (Option Value)} {oc__law_able kV__law_able dc__law_able pm__law_able cd__law_able ct__law_able : Value}
    {f__law_lowest : Addr} {od__law_lowest an__law_lowest : Option Addr} {sl__law_lowest : Array (Option Value)} {oc__law_lowest kV__law_lowest dc__law_lowest pm__law_lowest cd__law_lowest ct__law_lowest : Value}
    {f__law_is : Addr} {od__law_is an__law_is : Option Addr} {sl__law_is : Array (Option Value)} {oc__law_is kV__law_is dc__law_is pm__law_is cd__law_is ct__law_is : Value}
    {f__law_chance : Addr} {od__law_chance an__law_chance : Option Addr} {sl__law_chance : Array (Option Value)} {oc__law_chance kV__law_chance dc__law_chance pm__law_chance cd__law_chance ct__law_chance : Value}
    {f__law_asked : Addr} {od__law_asked an__law_asked : Option Addr} {sl__law_asked : Array (Option Value)} {oc__law_asked kV__law_asked dc__law_asked pm__law_asked cd__law_asked ct__law_asked : Value}
    {f__law_all : Addr} {od__law_all an__law_all : Option Addr} {sl__law_all : Array (Option Value)} {oc__law_all kV__law_all dc__law_all pm__law_all cd__law_all ct__law_all : Value}
    {f__law_state : Addr} {od__law_state an__law_state : Option Addr} {sl__law_state : Array (Option Value)} {oc__law_state kV__law_state dc__law_state pm__law_state cd__law_state ct__law_state : Value}
    {f_law : Addr} {od_law an_law : Option Addr} {sl_law : Array (Option Value)} {oc_law kV_law dc_law pm_law cd_law ct_law : Value}
    {C_OutOfRange : Addr}
    {C_Malformed : Addr}
    {C_NotThere : Addr}
    {C_Refused : Addr}
    {C_TooMuch : Addr}
    {C_DocketError : Addr}
    {q_NOUGHT : Addr} {qd_NOUGHT : Option Addr} {qt_NOUGHT qu_NOUGHT : Tok} {qn_NOUGHT : Nat} {qs_NOUGHT : Array (Option Value)}
    {q_ONE : Addr} {qd_ONE : Option Addr} {qt_ONE qu_ONE : Tok} {qn_ONE : Nat} {qs_ONE : Array (Option Value)}
    (a_lowest : PySem.W.nsIn K mainGlobals "lowest" = some (some (.ref f_lowest)))
    (l_lowest : K.lookup f_lowest = some ⟨oc_lowest, od_lowest, .func (PySem.W.fnOf "lowest" "lowest" (defArgs st_lowest) (defBody st_lowest) (defScope st_lowest) .none kV_lowest dc_lowest pm_lowest an_lowest cd_lowest ct_lowest), sl_lowest⟩)
    (c_lowest : PySem.W.codeIn K cd_lowest "lowest" = true)
    (k_lowest : PySem.W.keepIn K (.ref f_lowest) = true)
    (a_made : PySem.W.nsIn K mainGlobals "made" = some (some (.ref f_made)))
    (l_made : K.lookup f_made = some ⟨oc_made, od_made, .func (PySem.W.fnOf "made" "made" (defArgs st_made) (defBody st_made) (defScope st_made) .none kV_made dc_made pm_made an_made cd_made ct_made), sl_made⟩)
    (c_made : PySem.W.codeIn K cd_made "made" = true)
    (k_made : PySem.W.keepIn K (.ref f_made) = true)
    (a_times : PySem.W.nsIn K mainGlobals "times" = some (some (.ref f_times)))
    (l_times : K.lookup f_times = some ⟨oc_times, od_times, .func (PySem.W.fnOf "times" "times" (defArgs st_times) (defBody st_times) (defScope st_times) .none kV_times dc_times pm_times an_times cd_times ct_times), sl_times⟩)
    (c_times : PySem.W.codeIn K cd_times "times" = true)
    (k_times : PySem.W.keepIn K (.ref f_times) = true)
    (a_full_state : PySem.W.nsIn K mainGlobals "full_state" = some (some (.ref f_full_state)))
    (l_full_state : K.lookup f_full_state = some ⟨oc_full_state, od_full_state, .func (PySem.W.fnOf "full_state" "full_state" (defArgs st_full_state) (defBody st_full_state) (defScope st_full_state) .none kV_full_state dc_full_state pm_full_state an_full_state cd_full_state ct_full_state), sl_full_state⟩)
    (c_full_state : PySem.W.codeIn K cd_full_state "full_state" = true)
    (k_full_state : PySem.W.keepIn K (.ref f_full_state) = true)
    (a_cards_for : PySem.W.nsIn K mainGlobals "cards_for" = some (some (.ref f_cards_for)))
    (l_cards_for : K.lookup f_cards_for = some ⟨oc_cards_for, od_cards_for, .func (PySem.W.fnOf "cards_for" "cards_for" (defArgs st_cards_for) (defBody st_cards_for) (defScope st_cards_for) .none kV_cards_for dc_cards_for pm_cards_for an_cards_for cd_cards_for ct_cards_for), sl_cards_for⟩)
    (c_cards_for : PySem.W.codeIn K cd_cards_for "cards_for" = true)
    (k_cards_for : PySem.W.keepIn K (.ref f_cards_for) = true)
    (a_without : PySem.W.nsIn K mainGlobals "without" = some (some (.ref f_without)))
    (l_without : K.lookup f_without = some ⟨oc_without, od_without, .func (PySem.W.fnOf "without" "without" (defArgs st_without) (defBody st_without) (defScope st_without) .none kV_without dc_without pm_without an_without cd_without ct_without), sl_without⟩)
    (c_without : PySem.W.codeIn K cd_without "without" = true)
    (k_without : PySem.W.keepIn K (.ref f_without) = true)
    (a_deal : PySem.W.nsIn K mainGlobals "deal" = some (some (.ref f_deal)))
    (l_deal : K.lookup f_deal = some ⟨oc_deal, od_deal, .func (PySem.W.fnOf "deal" "deal" (defArgs st_deal) (defBody st_deal) (defScope st_deal) .none kV_deal dc_deal pm_deal an_deal cd_deal ct_deal), sl_deal⟩)
    (c_deal : PySem.W.codeIn K cd_deal "deal" = true)
    (k_deal : PySem.W.keepIn K (.ref f_deal) = true)
    (a_can_deal : PySem.W.nsIn K mainGlobals "can_deal" = some (some (.ref f_can_deal)))
    (l_can_deal : K.lookup f_can_deal = some ⟨oc_can_deal, od_can_deal, .func (PySem.W.fnOf "can_deal" "can_deal" (defArgs st_can_deal) (defBody st_can_deal) (defScope st_can_deal) .none kV_can_deal dc_can_deal pm_can_deal an_can_deal (.ref cod_can_deal) ct_can_deal), sl_can_deal⟩)
    (c_can_deal : PySem.W.codeIn K (.ref cod_can_deal) "can_deal" = true)
    (k_can_deal : PySem.W.keepIn K (.ref f_can_deal) = true)
    (lc_can_deal : K.lookup cod_can_deal = some ⟨.type "code", dd_can_deal, .fields vs_can_deal, sc_can_deal⟩)
    (v0_can_deal : vs_can_deal[11]? = some (.ref tab_can_deal))
    (v1_can_deal : vs_can_deal.getD 11 .none = .ref tab_can_deal)
    (v2_can_deal : vs_can_deal.getD 18 .none = .str fi_can_deal tf_can_deal)
    (v3_can_deal : vs_can_deal.getD 7 .none = .int fl_can_deal tg_can_deal)
    (v4_can_deal : vs_can_deal.getD 9 .none = .bool in_can_deal)
    (v5_can_deal : vs_can_deal.getD 10 .none = .int te_can_deal tt_can_deal)
    (v6_can_deal : cod_can_deal ≠ tab_can_deal)
    (v7_can_deal : K.lookup tab_can_deal = none)
    (v8_can_deal : mainGlobals ≠ tab_can_deal)
    (a_first_fault : PySem.W.nsIn K mainGlobals "first_fault" = some (some (.ref f_first_fault)))
    (l_first_fault : K.lookup f_first_fault = some ⟨oc_first_fault, od_first_fault, .func (PySem.W.fnOf "first_fault" "first_fault" (defArgs st_first_fault) (defBody st_first_fault) (defScope st_first_fault) .none kV_first_fault dc_first_fault pm_first_fault an_first_fault cd_first_fault ct_first_fault), sl_first_fault⟩)
    (c_first_fault : PySem.W.codeIn K cd_first_fault "first_fault" = true)
    (k_first_fault : PySem.W.keepIn K (.ref f_first_fault) = true)
    (a_steps : PySem.W.nsIn K mainGlobals "steps" = some (some (.ref f_steps)))
    (l_steps : K.lookup f_steps = some ⟨oc_steps, od_steps, .func (PySem.W.fnOf "steps" "steps" (defArgs st_steps) (defBody st_steps) (defScope st_steps) .none kV_steps dc_steps pm_steps an_steps cd_steps ct_steps), sl_steps⟩)
    (c_steps : PySem.W.codeIn K cd_steps "steps" = true)
    (k_steps : PySem.W.keepIn K (.ref f_steps) = true)
    (a_chances : PySem.W.nsIn K mainGlobals "chances" = some (some (.ref f_chances)))
    (l_chances : K.lookup f_chances = some ⟨oc_chances, od_chances, .func (PySem.W.fnOf "chances" "chances" (defArgs st_chances) (defBody st_chances) (defScope st_chances) .none kV_chances dc_chances pm_chances an_chances cd_chances ct_chances), sl_chances⟩)
    (c_chances : PySem.W.codeIn K cd_chances "chances" = true)
    (k_chances : PySem.W.keepIn K (.ref f_chances) = true)
    (a_chance_of : PySem.W.nsIn K mainGlobals "chance_of" = some (some (.ref f_chance_of)))
    (l_chance_of : K.lookup f_chance_of = some ⟨oc_chance_of, od_chance_of, .func (PySem.W.fnOf "chance_of" "chance_of" (defArgs st_chance_of) (defBody st_chance_of) (defScope st_chance_of) .none kV_chance_of dc_chance_of pm_chance_of an_chance_of cd_chance_of ct_chance_of), sl_chance_of⟩)
    (c_chance_of : PySem.W.codeIn K cd_chance_of "chance_of" = true)
    (k_chance_of : PySem.W.keepIn K (.ref f_chance_of) = true)
    (a__law_open : PySem.W.nsIn K mainGlobals "_law_open" = some (some (.ref f__law_open)))
    (l__law_open : K.lookup f__law_open = some ⟨oc__law_open, od__law_open, .func (PySem.W.fnOf "_law_open" "_law_open" (defArgs st__law_open) (defBody st__law_open) (defScope st__law_open) .none kV__law_open dc__law_open pm__law_open an__law_open cd__law_open ct__law_open), sl__law_open⟩)
    (c__law_open : PySem.W.codeIn K cd__law_open "_law_open" = true)
    (k__law_open : PySem.W.keepIn K (.ref f__law_open) = true)
    (a__law_mixed : PySem.W.nsIn K mainGlobals "_law_mixed" = some (some (.ref f__law_mixed)))
    (l__law_mixed : K.lookup f__law_mixed = some ⟨oc__law_mixed, od__law_mixed, .func (PySem.W.fnOf "_law_mixed" "_law_mixed" (defArgs st__law_mixed) (defBody st__law_mixed) (defScope st__law_mixed) .none kV__law_mixed dc__law_mixed pm__law_mixed an__law_mixed cd__law_mixed ct__law_mixed), sl__law_mixed⟩)
    (c__law_mixed : PySem.W.codeIn K cd__law_mixed "_law_mixed" = true)
    (k__law_mixed : PySem.W.keepIn K (.ref f__law_mixed) = true)
    (a__law_draw : PySem.W.nsIn K mainGlobals "_law_draw" = some (some (.ref f__law_draw)))
    (l__law_draw : K.lookup f__law_draw = some ⟨oc__law_draw, od__law_draw, .func (PySem.W.fnOf "_law_draw" "_law_draw" (defArgs st__law_draw) (defBody st__law_draw) (defScope st__law_draw) .none kV__law_draw dc__law_draw pm__law_draw an__law_draw cd__law_draw ct__law_draw), sl__law_draw⟩)
    (c__law_draw : PySem.W.codeIn K cd__law_draw "_law_draw" = true)
    (k__law_draw : PySem.W.keepIn K (.ref f__law_draw) = true)
    (a__law_told : PySem.W.nsIn K mainGlobals "_law_told" = some (some (.ref f__law_told)))
    (l__law_told : K.lookup f__law_told = some ⟨oc__law_told, od__law_told, .func (PySem.W.fnOf "_law_told" "_law_told" (defArgs st__law_told) (defBody st__law_told) (defScope st__law_told) .none kV__law_told dc__law_told pm__law_told an__law_told cd__law_told ct__law_told), sl__law_told⟩)
    (c__law_told : PySem.W.codeIn K cd__law_told "_law_told" = true)
    (k__law_told : PySem.W.keepIn K (.ref f__law_told) = true)
    (a__law_int : PySem.W.nsIn K mainGlobals "_law_int" = some (some (.ref f__law_int)))
    (l__law_int : K.lookup f__law_int = some ⟨oc__law_int, od__law_int, .func (PySem.W.fnOf "_law_int" "_law_int" (defArgs st__law_int) (defBody st__law_int) (defScope st__law_int) .none kV__law_int dc__law_int pm__law_int an__law_int cd__law_int ct__law_int), sl__law_int⟩)
    (c__law_int : PySem.W.codeIn K cd__law_int "_law_int" = true)
    (k__law_int : PySem.W.keepIn K (.ref f__law_int) = true)
    (a__law_wheel : PySem.W.nsIn K mainGlobals "_law_wheel" = some (some (.ref f__law_wheel)))
    (l__law_wheel : K.lookup f__law_wheel = some ⟨oc__law_wheel, od__law_wheel, .func (PySem.W.fnOf "_law_wheel" "_law_wheel" (defArgs st__law_wheel) (defBody st__law_wheel) (defScope st__law_wheel) .none kV__law_wheel dc__law_wheel pm__law_wheel an__law_wheel cd__law_wheel ct__law_wheel), sl__law_wheel⟩)
    (c__law_wheel : PySem.W.codeIn K cd__law_wheel "_law_wheel" = true)
    (k__law_wheel : PySem.W.keepIn K (.ref f__law_wheel) = true)
    (a__law_barred : PySem.W.nsIn K mainGlobals "_law_barred" = some (some (.ref f__law_barred)))
    (l__law_barred : K.lookup f__law_barred = some ⟨oc__law_barred, od__law_barred, .func (PySem.W.fnOf "_law_barred" "_law_barred" (defArgs st__law_barred) (defBody st__law_barred) (defScope st__law_barred) .none kV__law_barred dc__law_barred pm__law_barred an__law_barred cd__law_barred ct__law_barred), sl__law_barred⟩)
    (c__law_barred : PySem.W.codeIn K cd__law_barred "_law_barred" = true)
    (k__law_barred : PySem.W.keepIn K (.ref f__law_barred) = true)
    (a__law_step : PySem.W.nsIn K mainGlobals "_law_step" = some (some (.ref f__law_step)))
    (l__law_step : K.lookup f__law_step = some ⟨oc__law_step, od__law_step, .func (PySem.W.fnOf "_law_step" "_law_step" (defArgs st__law_step) (defBody st__law_step) (defScope st__law_step) .none kV__law_step dc__law_step pm__law_step an__law_step cd__law_step ct__law_step), sl__law_step⟩)
    (c__law_step : PySem.W.codeIn K cd__law_step "_law_step" = true)
    (k__law_step : PySem.W.keepIn K (.ref f__law_step) = true)
    (a__law_deal : PySem.W.nsIn K mainGlobals "_law_deal" = some (some (.ref f__law_deal)))
    (l__law_deal : K.lookup f__law_deal = some ⟨oc__law_deal, od__law_deal, .func (PySem.W.fnOf "_law_deal" "_law_deal" (defArgs st__law_deal) (defBody st__law_deal) (defScope st__law_deal) .none kV__law_deal dc__law_deal pm__law_deal an__law_deal cd__law_deal ct__law_deal), sl__law_deal⟩)
    (c__law_deal : PySem.W.codeIn K cd__law_deal "_law_deal" = true)
    (k__law_deal : PySem.W.keepIn K (.ref f__law_deal) = true)
    (a__law_able : PySem.W.nsIn K mainGlobals "_law_able" = some (some (.ref f__law_able)))
    (l__law_able : K.lookup f__law_able = some ⟨oc__law_able, od__law_able, .func (PySem.W.fnOf "_law_able" "_law_able" (defArgs st__law_able) (defBody st__law_able) (defScope st__law_able) .none kV__law_able dc__law_able pm__law_able an__law_able cd__law_able ct__law_able), sl__law_able⟩)
    (c__law_able : PySem.W.codeIn K cd__law_able "_law_able" = true)
    (k__law_able : PySem.W.keepIn K (.ref f__law_able) = true)
    (a__law_lowest : PySem.W.nsIn K mainGlobals "_law_lowest" = some (some (.ref f__law_lowest)))
    (l__law_lowest : K.lookup f__law_lowest = some ⟨oc__law_lowest, od__law_lowest, .func (PySem.W.fnOf "_law_lowest" "_law_lowest" (defArgs st__law_lowest) (defBody st__law_lowest) (defScope st__law_lowest) .none kV__law_lowest dc__law_lowest pm__law_lowest an__law_lowest cd__law_lowest ct__law_lowest), sl__law_lowest⟩)
    (c__law_lowest : PySem.W.codeIn K cd__law_lowest "_law_lowest" = true)
    (k__law_lowest : PySem.W.keepIn K (.ref f__law_lowest) = true)
    (a__law_is : PySem.W.nsIn K mainGlobals "_law_is" = some (some (.ref f__law_is)))
    (l__law_is : K.lookup f__law_is = some ⟨oc__law_is, od__law_is, .func (PySem.W.fnOf "_law_is" "_law_is" (defArgs st__law_is) (defBody st__law_is) (defScope st__law_is) .none kV__law_is dc__law_is pm__law_is an__law_is cd__law_is ct__law_is), sl__law_is⟩)
    (c__law_is : PySem.W.codeIn K cd__law_is "_law_is" = true)
    (k__law_is : PySem.W.keepIn K (.ref f__law_is) = true)
    (a__law_chance : PySem.W.nsIn K mainGlobals "_law_chance" = some (some (.ref f__law_chance)))
    (l__law_chance : K.lookup f__law_chance = some ⟨oc__law_chance, od__law_chance, .func (PySem.W.fnOf "_law_chance" "_law_chance" (defArgs st__law_chance) (defBody st__law_chance) (defScope st__law_chance) .none kV__law_chance dc__law_chance pm__law_chance an__law_chance cd__law_chance ct__law_chance), sl__law_chance⟩)
    (c__law_chance : PySem.W.codeIn K cd__law_chance "_law_chance" = true)
    (k__law_chance : PySem.W.keepIn K (.ref f__law_chance) = true)
    (a__law_asked : PySem.W.nsIn K mainGlobals "_law_asked" = some (some (.ref f__law_asked)))
    (l__law_asked : K.lookup f__law_asked = some ⟨oc__law_asked, od__law_asked, .func (PySem.W.fnOf "_law_asked" "_law_asked" (defArgs st__law_asked) (defBody st__law_asked) (defScope st__law_asked) .none kV__law_asked dc__law_asked pm__law_asked an__law_asked cd__law_asked ct__law_asked), sl__law_asked⟩)
    (c__law_asked : PySem.W.codeIn K cd__law_asked "_law_asked" = true)
    (k__law_asked : PySem.W.keepIn K (.ref f__law_asked) = true)
    (a__law_all : PySem.W.nsIn K mainGlobals "_law_all" = some (some (.ref f__law_all)))
    (l__law_all : K.lookup f__law_all = some ⟨oc__law_all, od__law_all, .func (PySem.W.fnOf "_law_all" "_law_all" (defArgs st__law_all) (defBody st__law_all) (defScope st__law_all) .none kV__law_all dc__law_all pm__law_all an__law_all cd__law_all ct__law_all), sl__law_all⟩)
    (c__law_all : PySem.W.codeIn K cd__law_all "_law_all" = true)
    (k__law_all : PySem.W.keepIn K (.ref f__law_all) = true)
    (a__law_state : PySem.W.nsIn K mainGlobals "_law_state" = some (some (.ref f__law_state)))
    (l__law_state : K.lookup f__law_state = some ⟨oc__law_state, od__law_state, .func (PySem.W.fnOf "_law_state" "_law_state" (defArgs st__law_state) (defBody st__law_state) (defScope st__law_state) .none kV__law_state dc__law_state pm__law_state an__law_state cd__law_state ct__law_state), sl__law_state⟩)
    (c__law_state : PySem.W.codeIn K cd__law_state "_law_state" = true)
    (k__law_state : PySem.W.keepIn K (.ref f__law_state) = true)
    (a_law : PySem.W.nsIn K mainGlobals "law" = some (some (.ref f_law)))
    (l_law : K.lookup f_law = some ⟨oc_law, od_law, .func (PySem.W.fnOf "law" "law" (defArgs st_law) (defBody st_law) (defScope st_law) .none kV_law dc_law pm_law an_law cd_law ct_law), sl_law⟩)
    (c_law : PySem.W.codeIn K cd_law "law" = true)
    (k_law : PySem.W.keepIn K (.ref f_law) = true)
    (z_ValueError : PySem.W.nsIn K mainGlobals "ValueError" = some none)
    (z_abs : PySem.W.nsIn K mainGlobals "abs" = some none)
    (z_any : PySem.W.nsIn K mainGlobals "any" = some none)
    (z_bool : PySem.W.nsIn K mainGlobals "bool" = some none)
    (z_enumerate : PySem.W.nsIn K mainGlobals "enumerate" = some none)
    (z_int : PySem.W.nsIn K mainGlobals "int" = some none)
    (z_isinstance : PySem.W.nsIn K mainGlobals "isinstance" = some none)
    (z_len : PySem.W.nsIn K mainGlobals "len" = some none)
    (z_list : PySem.W.nsIn K mainGlobals "list" = some none)
    (z_range : PySem.W.nsIn K mainGlobals "range" = some none)
    (z_sorted : PySem.W.nsIn K mainGlobals "sorted" = some none)
    (z_sum : PySem.W.nsIn K mainGlobals "sum" = some none)
    (z_tuple : PySem.W.nsIn K mainGlobals "tuple" = some none)
    (z_zip : PySem.W.nsIn K mainGlobals "zip" = some none)
    (z_gcd : PySem.W.nsIn K mainGlobals "gcd" = some (some (.builtin "math.gcd")))
    (y_OutOfRange : PySem.W.nsIn K mainGlobals "OutOfRange" = some (some (.ref C_OutOfRange)))
    (y_Malformed : PySem.W.nsIn K mainGlobals "Malformed" = some (some (.ref C_Malformed)))
    (y_NotThere : PySem.W.nsIn K mainGlobals "NotThere" = some (some (.ref C_NotThere)))
    (y_Refused : PySem.W.nsIn K mainGlobals "Refused" = some (some (.ref C_Refused)))
    (y_TooMuch : PySem.W.nsIn K mainGlobals "TooMuch" = some (some (.ref C_TooMuch)))
    (y_DocketError : PySem.W.nsIn K mainGlobals "DocketError" = some (some (.ref C_DocketError)))
    (ke_OutOfRange : PySem.W.keepIn K (.ref C_OutOfRange) = true)
    (xe_OutOfRange : PySem.W.excIn K C_OutOfRange [.type "ValueError", .type "Exception", .type "BaseException", .type "object"] "ValueError.__new__" = true)
    (se_OutOfRange : PySem.W.subIn K (.ref C_OutOfRange) (.type "BaseException") = some true)
    (ty_OutOfRange : PySem.W.typeIn K (.ref C_OutOfRange) = some (.type "type"))
    (ke_Refused : PySem.W.keepIn K (.ref C_Refused) = true)
    (xe_Refused : PySem.W.excIn K C_Refused [.type "ValueError", .type "Exception", .type "BaseException", .type "object"] "ValueError.__new__" = true)
    (se_Refused : PySem.W.subIn K (.ref C_Refused) (.type "BaseException") = some true)
    (ty_Refused : PySem.W.typeIn K (.ref C_Refused) = some (.type "type"))
    (te : PySem.W.exmOne K (.ref C_Refused) (.ref C_DocketError) = some true)
    (ec_hg : PySem.W.findIn K (.ref C_Refused) "__getattribute__" = some (some (.builtin "BaseException.__getattribute__")))
    (ec_hk : PySem.W.findIn K (.ref C_Refused) "__getattr__" = some none)
    (ec_hd : PySem.W.hasDictIn K C_Refused = true)
    (ec_ha : PySem.W.findIn K (.ref C_Refused) "__class__" = some (some (.builtin "object.__class__")))
    (ec_hn : PySem.W.specialIn K (.builtin "object.__class__") "__get__" = some (some (.builtin "getset_descriptor.__get__")))
    (ec_ht : PySem.W.takesIn K (.builtin "object.__class__") = some true)
    (ec_hm : PySem.W.mroIn K C_Refused (.type "object") = some true)
    (ki_Refused_Malformed : PySem.W.kitOne K (.ref C_Refused) (.ref C_Malformed) = some false)
    (ki_Refused_NotThere : PySem.W.kitOne K (.ref C_Refused) (.ref C_NotThere) = some false)
    (ki_Refused_OutOfRange : PySem.W.kitOne K (.ref C_Refused) (.ref C_OutOfRange) = some false)
    (ki_Refused_Refused : PySem.W.kitOne K (.ref C_Refused) (.ref C_Refused) = some true)
    (ki_Refused_TooMuch : PySem.W.kitOne K (.ref C_Refused) (.ref C_TooMuch) = some false)
    (ki_Refused_ValueError : PySem.W.kitOne K (.ref C_Refused) (.type "ValueError") = some true)
    (w_NOUGHT : PySem.W.nsIn K mainGlobals "NOUGHT" = some (some (.ref q_NOUGHT)))
    (wl_NOUGHT : K.lookup q_NOUGHT = some ⟨.type "tuple", qd_NOUGHT, .seq #[.int 0 qt_NOUGHT, .int 1 qu_NOUGHT] qn_NOUGHT, qs_NOUGHT⟩)
    (w_ONE : PySem.W.nsIn K mainGlobals "ONE" = some (some (.ref q_ONE)))
    (wl_ONE : K.lookup q_ONE = some ⟨.type "tuple", qd_ONE, .seq #[.int 1 qt_ONE, .int 1 qu_ONE] qn_ONE, qs_ONE⟩)
    : LawAtS l w K (L2N.CX l.prog w) 7 63 "script" mg fa h := by
  have ef : f_law = fa := by
    have z := hfa.symm.trans (PySem.W.mg_of X G a_law)
    cases z
    rfl
  subst ef
  have U_lowest := fun_mk (st := st_lowest) l_lowest c_lowest k_lowest
  have B_lowest := U_lowest.binds (ps := ["part", "whole"]) fun _ _ _ _ _ _ us hl => match us, hl with | [_, _], _ => rfl
  have U_made := fun_mk (st := st_made) l_made c_made k_made
  have B_made := U_made.binds (ps := ["part", "whole"]) fun _ _ _ _ _ _ us hl => match us, hl with | [_, _], _ => rfl
  have U_times := fun_mk (st := st_times) l_times c_times k_times
  have B_times := U_times.binds (ps := ["one", "other"]) fun _ _ _ _ _ _ us hl => match us, hl with | [_, _], _ => rfl
  have U_full_state := fun_mk (st := st_full_state) l_full_state c_full_state k_full_state
  have B_full_state := U_full_state.binds (ps := ["wheel"]) fun _ _ _ _ _ _ us hl => match us, hl with | [_], _ => rfl
  have U_cards_for := fun_mk (st := st_cards_for) l_cards_for c_cards_for k_cards_for
  have B_cards_for := U_cards_for.binds (ps := ["wheel", "state", "barred"]) fun _ _ _ _ _ _ us hl => match us, hl with | [_, _, _], _ => rfl
  have U_without := fun_mk (st := st_without) l_without c_without k_without
  have B_without := U_without.binds (ps := ["state", "k"]) fun _ _ _ _ _ _ us hl => match us, hl with | [_, _], _ => rfl
  have U_deal := fun_mk (st := st_deal) l_deal c_deal k_deal
  have B_deal := U_deal.binds (ps := ["wheel", "state", "barred", "draw"]) fun _ _ _ _ _ _ us hl => match us, hl with | [_, _, _, _], _ => rfl
  have V_can_deal : FunC K "can_deal" "can_deal" st_can_deal f_can_deal _ cod_can_deal := ⟨⟨oc_can_deal, od_can_deal, kV_can_deal, dc_can_deal, pm_can_deal, an_can_deal, ct_can_deal, sl_can_deal, rfl, l_can_deal, c_can_deal⟩, k_can_deal⟩
  have U_can_deal := V_can_deal.toFun
  have B_can_deal := U_can_deal.binds (ps := ["wheel", "barred"]) fun _ _ _ _ _ _ us hl => match us, hl with | [_, _], _ => rfl
  have U_first_fault := fun_mk (st := st_first_fault) l_first_fault c_first_fault k_first_fault
  have B_first_fault := U_first_fault.binds (ps := ["wheel", "log"]) fun _ _ _ _ _ _ us hl => match us, hl with | [_, _], _ => rfl
  have U_steps := fun_mk (st := st_steps) l_steps c_steps k_steps
  have B_steps := U_steps.binds (ps := ["wheel", "state", "barred"]) fun _ _ _ _ _ _ us hl => match us, hl with | [_, _, _], _ => rfl
  have U_chances := fun_mk (st := st_chances) l_chances c_chances k_chances
  have B_chances := U_chances.binds (ps := ["wheel", "state", "barred"]) fun _ _ _ _ _ _ us hl => match us, hl with | [_, _, _], _ => rfl
  have U_chance_of := fun_mk (st := st_chance_of) l_chance_of c_chance_of k_chance_of
  have B_chance_of := U_chance_of.binds (ps := ["wheel", "record"]) fun _ _ _ _ _ _ us hl => match us, hl with | [_, _], _ => rfl
  have U__law_open := fun_mk (st := st__law_open) l__law_open c__law_open k__law_open
  have B__law_open := U__law_open.binds (ps := ["script"]) fun _ _ _ _ _ _ us hl => match us, hl with | [_], _ => rfl
  have U__law_mixed := fun_mk (st := st__law_mixed) l__law_mixed c__law_mixed k__law_mixed
  have B__law_mixed := U__law_mixed.binds (ps := ["cell", "turn"]) fun _ _ _ _ _ _ us hl => match us, hl with | [_, _], _ => rfl
  have U__law_draw := fun_mk (st := st__law_draw) l__law_draw c__law_draw k__law_draw
  have B__law_draw := U__law_draw.binds (ps := ["draws", "size"]) fun _ _ _ _ _ _ us hl => match us, hl with | [_, _], _ => rfl
  have U__law_told := fun_mk (st := st__law_told) l__law_told c__law_told k__law_told
  have B__law_told := U__law_told.binds (ps := ["error"]) fun _ _ _ _ _ _ us hl => match us, hl with | [_], _ => rfl
  have U__law_int := fun_mk (st := st__law_int) l__law_int c__law_int k__law_int
  have B__law_int := U__law_int.binds (ps := ["value"]) fun _ _ _ _ _ _ us hl => match us, hl with | [_], _ => rfl
  have U__law_wheel := fun_mk (st := st__law_wheel) l__law_wheel c__law_wheel k__law_wheel
  have B__law_wheel := U__law_wheel.binds (ps := ["draws"]) fun _ _ _ _ _ _ us hl => match us, hl with | [_], _ => rfl
  have U__law_barred := fun_mk (st := st__law_barred) l__law_barred c__law_barred k__law_barred
  have B__law_barred := U__law_barred.binds (ps := ["draws", "wheel", "more"]) fun _ _ _ _ _ _ us hl => match us, hl with | [_, _, _], _ => rfl
  have U__law_step := fun_mk (st := st__law_step) l__law_step c__law_step k__law_step
  have B__law_step := U__law_step.binds (ps := ["wheel", "state", "barred"]) fun _ _ _ _ _ _ us hl => match us, hl with | [_, _, _], _ => rfl
  have U__law_deal := fun_mk (st := st__law_deal) l__law_deal c__law_deal k__law_deal
  have B__law_deal := U__law_deal.binds (ps := ["wheel", "state", "barred", "draw"]) fun _ _ _ _ _ _ us hl => match us, hl with | [_, _, _, _], _ => rfl
  have U__law_able := fun_mk (st := st__law_able) l__law_able c__law_able k__law_able
  have B__law_able := U__law_able.binds (ps := ["wheel", "barred"]) fun _ _ _ _ _ _ us hl => match us, hl with | [_, _], _ => rfl
  have U__law_lowest := fun_mk (st := st__law_lowest) l__law_lowest c__law_lowest k__law_lowest
  have B__law_lowest := U__law_lowest.binds (ps := ["part", "whole"]) fun _ _ _ _ _ _ us hl => match us, hl with | [_, _], _ => rfl
  have U__law_is := fun_mk (st := st__law_is) l__law_is c__law_is k__law_is
  have B__law_is := U__law_is.binds (ps := ["value", "due"]) fun _ _ _ _ _ _ us hl => match us, hl with | [_, _], _ => rfl
  have U__law_chance := fun_mk (st := st__law_chance) l__law_chance c__law_chance k__law_chance
  have B__law_chance := U__law_chance.binds (ps := ["wheel", "record"]) fun _ _ _ _ _ _ us hl => match us, hl with | [_, _], _ => rfl
  have U__law_asked := fun_mk (st := st__law_asked) l__law_asked c__law_asked k__law_asked
  have B__law_asked := U__law_asked.binds (ps := ["wheel", "record"]) fun _ _ _ _ _ _ us hl => match us, hl with | [_, _], _ => rfl
  have U__law_all := fun_mk (st := st__law_all) l__law_all c__law_all k__law_all
  have B__law_all := U__law_all.binds (ps := ["wheel", "rows"]) fun _ _ _ _ _ _ us hl => match us, hl with | [_, _], _ => rfl
  have U__law_state := fun_mk (st := st__law_state) l__law_state c__law_state k__law_state
  have B__law_state := U__law_state.binds (ps := ["wheel", "state", "barred"]) fun _ _ _ _ _ _ us hl => match us, hl with | [_, _, _], _ => rfl
  have U_law := fun_mk (st := st_law) l_law c_law k_law
  have B_law := U_law.binds (ps := ["script"]) fun _ _ _ _ _ _ us hl => match us, hl with | [_], _ => rfl
  have hTab : h.get? tab_can_deal = some { cls := .none, data := .fields #[] } := own _ (by simp) f_can_deal (PySem.W.mg_of X G a_can_deal) cod_can_deal tab_can_deal _ _ _ _ _ _ l_can_deal rfl rfl lc_can_deal v0_can_deal
  have hCode : PySem.W.CodeHd h cod_can_deal tab_can_deal := ⟨_, vs_can_deal, fi_can_deal, tf_can_deal, fl_can_deal, tg_can_deal, in_can_deal, te_can_deal, tt_can_deal, X _ _ lc_can_deal, rfl, rfl, v0_can_deal, v1_can_deal, v2_can_deal, v3_can_deal, v4_can_deal, v5_can_deal, v6_can_deal⟩
  refine ⟨PySem.W.fnOf "law" "law" (defArgs st_law) (defBody st_law) (defScope st_law) .none kV_law dc_law pm_law an_law cd_law ct_law, [(cod_can_deal, tab_can_deal)], spF K (cvK C_Refused C_OutOfRange tab_can_deal) 1 F_law, fun p hp => ?_, fun p hp => ?_, fun p hp => ?_, fun s v => .of_eq rfl, fun H a ns hl hb hH hS => ?_, fun base _ _ hT => ?_⟩
  · rw [List.mem_singleton.mp hp]; exact hTab
  · rw [List.mem_singleton.mp hp]; exact v7_can_deal
  · rw [List.mem_singleton.mp hp]; exact hCode
  · exact enter_script hS (fun p hp => by rw [List.mem_singleton.mp hp]; exact hH (cod_can_deal, tab_can_deal) (List.mem_singleton.mpr rfl)) (HT ns hl)
  · let T : Top l.prog w K mg base :=
      { cv := cvK C_Refused C_OutOfRange tab_can_deal,
        a_lowest := f_lowest,
        d_lowest := _,
        u_lowest := U_lowest,
        g_lowest := PySem.W.mg_of X G a_lowest,
        b_lowest := B_lowest,
        a_made := f_made,
        d_made := _,
        u_made := U_made,
        g_made := PySem.W.mg_of X G a_made,
        b_made := B_made,
        a_times := f_times,
        d_times := _,
        u_times := U_times,
        g_times := PySem.W.mg_of X G a_times,
        b_times := B_times,
        a_full_state := f_full_state,
        d_full_state := _,
        u_full_state := U_full_state,
        g_full_state := PySem.W.mg_of X G a_full_state,
        b_full_state := B_full_state,
        a_cards_for := f_cards_for,
        d_cards_for := _,
        u_cards_for := U_cards_for,
        g_cards_for := PySem.W.mg_of X G a_cards_for,
        b_cards_for := B_cards_for,
        a_without := f_without,
        d_without := _,
        u_without := U_without,
        g_without := PySem.W.mg_of X G a_without,
        b_without := B_without,
        a_deal := f_deal,
        d_deal := _,
        u_deal := U_deal,
        g_deal := PySem.W.mg_of X G a_deal,
        b_deal := B_deal,
        a_can_deal := f_can_deal,
        d_can_deal := _,
        cod_can_deal := cod_can_deal,
        tab_can_deal := tab_can_deal,
        v_can_deal := V_can_deal,
        tabB_can_deal := (have z := hT (cod_can_deal, tab_can_deal) (List.mem_singleton.mpr rfl); ⟨z.code, z.bm, v8_can_deal⟩),
        tabM_can_deal := List.mem_singleton.mpr rfl,
        g_can_deal := PySem.W.mg_of X G a_can_deal,
        b_can_deal := B_can_deal,
        a_first_fault := f_first_fault,
        d_first_fault := _,
        u_first_fault := U_first_fault,
        g_first_fault := PySem.W.mg_of X G a_first_fault,
        b_first_fault := B_first_fault,
        a_steps := f_steps,
        d_steps := _,
        u_steps := U_steps,
        g_steps := PySem.W.mg_of X G a_steps,
        b_steps := B_steps,
        a_chances := f_chances,
        d_chances := _,
        u_chances := U_chances,
        g_chances := PySem.W.mg_of X G a_chances,
        b_chances := B_chances,
        a_chance_of := f_chance_of,
        d_chance_of := _,
        u_chance_of := U_chance_of,
        g_chance_of := PySem.W.mg_of X G a_chance_of,
        b_chance_of := B_chance_of,
        a__law_open := f__law_open,
        d__law_open := _,
        u__law_open := U__law_open,
        g__law_open := PySem.W.mg_of X G a__law_open,
        b__law_open := B__law_open,
        a__law_mixed := f__law_mixed,
        d__law_mixed := _,
        u__law_mixed := U__law_mixed,
        g__law_mixed := PySem.W.mg_of X G a__law_mixed,
        b__law_mixed := B__law_mixed,
        a__law_draw := f__law_draw,
        d__law_draw := _,
        u__law_draw := U__law_draw,
        g__law_draw := PySem.W.mg_of X G a__law_draw,
        b__law_draw := B__law_draw,
        a__law_told := f__law_told,
        d__law_told := _,
        u__law_told := U__law_told,
        g__law_told := PySem.W.mg_of X G a__law_told,
        b__law_told := B__law_told,
        a__law_int := f__law_int,
        d__law_int := _,
        u__law_int := U__law_int,
        g__law_int := PySem.W.mg_of X G a__law_int,
        b__law_int := B__law_int,
        a__law_wheel := f__law_wheel,
        d__law_wheel := _,
        u__law_wheel := U__law_wheel,
        g__law_wheel := PySem.W.mg_of X G a__law_wheel,
        b__law_wheel := B__law_wheel,
        a__law_barred := f__law_barred,
        d__law_barred := _,
        u__law_barred := U__law_barred,
        g__law_barred := PySem.W.mg_of X G a__law_barred,
        b__law_barred := B__law_barred,
        a__law_step := f__law_step,
        d__law_step := _,
        u__law_step := U__law_step,
        g__law_step := PySem.W.mg_of X G a__law_step,
        b__law_step := B__law_step,
        a__law_deal := f__law_deal,
        d__law_deal := _,
        u__law_deal := U__law_deal,
        g__law_deal := PySem.W.mg_of X G a__law_deal,
        b__law_deal := B__law_deal,
        a__law_able := f__law_able,
        d__law_able := _,
        u__law_able := U__law_able,
        g__law_able := PySem.W.mg_of X G a__law_able,
        b__law_able := B__law_able,
        a__law_lowest := f__law_lowest,
        d__law_lowest := _,
        u__law_lowest := U__law_lowest,
        g__law_lowest := PySem.W.mg_of X G a__law_lowest,
        b__law_lowest := B__law_lowest,
        a__law_is := f__law_is,
        d__law_is := _,
        u__law_is := U__law_is,
        g__law_is := PySem.W.mg_of X G a__law_is,
        b__law_is := B__law_is,
        a__law_chance := f__law_chance,
        d__law_chance := _,
        u__law_chance := U__law_chance,
        g__law_chance := PySem.W.mg_of X G a__law_chance,
        b__law_chance := B__law_chance,
        a__law_asked := f__law_asked,
        d__law_asked := _,
        u__law_asked := U__law_asked,
        g__law_asked := PySem.W.mg_of X G a__law_asked,
        b__law_asked := B__law_asked,
        a__law_all := f__law_all,
        d__law_all := _,
        u__law_all := U__law_all,
        g__law_all := PySem.W.mg_of X G a__law_all,
        b__law_all := B__law_all,
        a__law_state := f__law_state,
        d__law_state := _,
        u__law_state := U__law_state,
        g__law_state := PySem.W.mg_of X G a__law_state,
        b__law_state := B__law_state,
        a_law := f_law,
        d_law := _,
        u_law := U_law,
        g_law := PySem.W.mg_of X G a_law,
        b_law := B_law,
        n_ValueError := PySem.W.mg_none_of X G z_ValueError,
        n_abs := PySem.W.mg_none_of X G z_abs,
        n_any := PySem.W.mg_none_of X G z_any,
        n_bool := PySem.W.mg_none_of X G z_bool,
        n_enumerate := PySem.W.mg_none_of X G z_enumerate,
        n_int := PySem.W.mg_none_of X G z_int,
        n_isinstance := PySem.W.mg_none_of X G z_isinstance,
        n_len := PySem.W.mg_none_of X G z_len,
        n_list := PySem.W.mg_none_of X G z_list,
        n_range := PySem.W.mg_none_of X G z_range,
        n_sorted := PySem.W.mg_none_of X G z_sorted,
        n_sum := PySem.W.mg_none_of X G z_sum,
        n_tuple := PySem.W.mg_none_of X G z_tuple,
        n_zip := PySem.W.mg_none_of X G z_zip,
        g_gcd := PySem.W.mg_of X G z_gcd,
        c_OutOfRange := C_OutOfRange,
        e_OutOfRange := cvK_OutOfRange,
        g_OutOfRange := PySem.W.mg_of X G y_OutOfRange,
        k_OutOfRange := ke_OutOfRange,
        x_OutOfRange := xe_OutOfRange,
        s_OutOfRange := se_OutOfRange,
        t_OutOfRange := ty_OutOfRange,
        c_Refused := C_Refused,
        e_Refused := cvK_Refused,
        g_Refused := PySem.W.mg_of X G y_Refused,
        k_Refused := ke_Refused,
        x_Refused := xe_Refused,
        s_Refused := se_Refused,
        t_Refused := ty_Refused,
        c_DocketError := C_DocketError,
        g_DocketError := PySem.W.mg_of X G y_DocketError,
        te_Refused := te,
        ec_Refused := ⟨ec_hg, ec_hk, se_Refused, ec_hd, ec_ha, ec_hn, ec_ht, ec_hm⟩,
        c_Malformed := C_Malformed,
        g_Malformed := PySem.W.mg_of X G y_Malformed,
        c_NotThere := C_NotThere,
        g_NotThere := PySem.W.mg_of X G y_NotThere,
        c_TooMuch := C_TooMuch,
        g_TooMuch := PySem.W.mg_of X G y_TooMuch,
        ki_Refused_Malformed := ki_Refused_Malformed,
        ki_Refused_NotThere := ki_Refused_NotThere,
        ki_Refused_OutOfRange := ki_Refused_OutOfRange,
        ki_Refused_Refused := ki_Refused_Refused,
        ki_Refused_TooMuch := ki_Refused_TooMuch,
        ki_Refused_ValueError := ki_Refused_ValueError,
        q_NOUGHT := q_NOUGHT,
        g_NOUGHT := PySem.W.mg_of X G w_NOUGHT,
        r_NOUGHT := rep_pair wl_NOUGHT,
        q_ONE := q_ONE,
        g_ONE := PySem.W.mg_of X G w_ONE,
        r_ONE := rep_pair wl_ONE }
    exact ok_law T
end K62
set_option Elab.async false
set_option linter.all false
set_option maxRecDepth 100000
set_option maxHeartbeats 2000000
namespace K62
open PySem PySem.Spec PyProof.Rows L2 Pd
/-! ### the names -/
def nms : List Str := ["ann", "bob", "cid", "dan", "eve", "fay", "gus", "hal", "abe", "zed"]
def nm (k : Nat) : Str := nms.getD k "zed"
theorem nm_ge {k : Nat} (h : ¬ k < 10) : nm k = "zed" := by
  unfold nm
  rw [List.getD_eq_getElem?_getD, List.getElem?_eq_none (by show nms.length ≤ k; have : nms.length = 10 := rfl; omega)]
  rfl
theorem nm_ok (k : Nat) : PyData.strOk (nm k) = true := by
  by_cases h : k < 10
  · exact (by decide +kernel : ∀ k : Fin 10, PyData.strOk (nm k.1) = true) ⟨k, h⟩
  · rw [nm_ge h]; decide +kernel
theorem nm_inj {a b : Nat} (ha : a < 10) (hb : b < 10) (h : nm a = nm b) : a = b := by
  have key : ∀ a b : Fin 10, nm a.1 = nm b.1 → a = b := by decide +kernel
  exact congrArg Fin.val (key ⟨a, ha⟩ ⟨b, hb⟩ h)
theorem nm_mem {a : Nat} {b : List Nat} (ha : a < 10) (hb : ∀ x ∈ b, x < 10) : decide (nm a ∈ b.map nm) = decide (a ∈ b) := by
  by_cases h : a ∈ b
  · simp [h, List.mem_map_of_mem]
  · rw [decide_eq_false h, decide_eq_false]
    intro z
    obtain ⟨c, hc, e⟩ := List.mem_map.mp z
    exact h (nm_inj (hb c hc) ha e ▸ hc)
theorem nm_eq {a b : Nat} (ha : a < 10) (hb : b < 10) : decide (nm a = nm b) = decide (a = b) := by
  by_cases h : a = b
  · simp [h]
  · rw [decide_eq_false h, decide_eq_false fun z => h (nm_inj ha hb z)]
/-! ### wheels, states, bars -/
abbrev dN (k : Nat) : D := .str (nm k)
abbrev dP (w : Nat → Nat) (k : Nat) : D := .tup [dN k, iN (w k)]
abbrev dW (m : Nat) (w : Nat → Nat) : D := .tup ((List.range m).map (dP w))
abbrev dS (m : Nat) (s : Nat → Nat) : D := .tup ((List.range m).map fun k => iN (s k))
abbrev lS (m : Nat) (s : Nat → Nat) : D := .lst ((List.range m).map fun k => iN (s k))
abbrev dB (b : List Nat) : D := .tup (b.map dN)
abbrev a0 (d : D) : Sl := .own (.val d)
def sm (m : Nat) (f : Nat → Nat) : Nat := ((List.range m).map f).sum
/-- the counts -/
def ct (b : List Nat) (s : Nat → Nat) (k : Nat) : Nat := if k ∈ b then 0 else s k
/-- the cards, filled if needed -/
def cs (m : Nat) (w : Nat → Nat) (b : List Nat) (s : Nat → Nat) (k : Nat) : Nat := if sm m (ct b s) = 0 then s k + w k else s k
def cc (m : Nat) (w : Nat → Nat) (b : List Nat) (s : Nat → Nat) : Nat → Nat := ct b (cs m w b s)
def wo (s : Nat → Nat) (j k : Nat) : Nat := if k = j then s k - 1 else s k
def abl (b : List Nat) (k : Nat) : Nat := if k ∈ b then 0 else 1
/-- lowest terms -/
abbrev dQ (p q : Nat) : D := .tup [iN (p / Nat.gcd p q), iN (q / Nat.gcd p q)]
theorem gcd_small {p q : Nat} (hq : 0 < q) (h : q < 2 ^ 8000) : (Nat.gcd p q).log2 < 9000 := by
  have h1 : Nat.gcd p q ≤ q := Nat.gcd_le_right p hq
  have h2 : Nat.gcd p q < 2 ^ 8000 := Nat.lt_of_le_of_lt h1 h
  exact Nat.lt_of_lt_of_le (log2_le h2 (by decide)) (by decide)
theorem lowest_ev {p q : Nat} (hq : 0 < q) (h : q < 2 ^ 8000) : Val F_lowest [a0 (iN p), a0 (iN q)] (.val (dQ p q)) := by
  have hg : 0 < Nat.gcd p q := Nat.gcd_pos_of_pos_right p hq
  refine val_run (ρ := [a0 (iN p), a0 (iN q), a0 (iN (Nat.gcd p q))]) ?_
  refine seq_ok (ρ1 := [a0 (iN p), a0 (iN q), a0 (iN (Nat.gcd p q))]) (asg_ok rfl rfl) ?_
  refine seq_ok (if_f (tru_ok (op_ok rfl rfl (ltN q 0)) (show some _ = some false by simp)) rfl) ?_
  exact ret_ok (cl_ok (cons_ok (op_ok rfl rfl (divN p _ hg (gcd_small hq h))) (cons_ok (op_ok rfl rfl (divN q _ hg (gcd_small hq h))) nil_ok)) rfl)
theorem made_ev {p q : Nat} (hq : 0 < q) (h : q < 2 ^ 8000) : Val F_made [a0 (iN p), a0 (iN q)] (.val (dQ p q)) := by
  refine val_run (ρ := [a0 (iN p), a0 (iN q)]) ?_
  refine seq_ok (if_f (tru_ok (op_ok rfl rfl (eqN false q 0)) (show some _ = some false by simp; omega)) rfl) ?_
  exact ret_ok (call_ok (ds := [iN p, iN q]) rfl rfl (lowest_ev hq h))
theorem times_ev {a b c d : Nat} (hb : 0 < b) (hd : 0 < d) (h1 : a < 2 ^ 4000) (h2 : b < 2 ^ 4000) (h3 : c < 2 ^ 4000) (h4 : d < 2 ^ 4000) : Val F_times [a0 (.tup [iN a, iN b]), a0 (.tup [iN c, iN d])] (.val (dQ (a * c) (b * d))) := by
  refine val_run (ρ := [a0 (.tup [iN a, iN b]), a0 (.tup [iN c, iN d])]) ?_
  have k : ∀ {x y : Nat}, x < 2 ^ 4000 → y < 2 ^ 4000 → x.log2 + y.log2 < 1000000 := fun hx hy => by
    have := log2_le hx (by decide)
    have := log2_le hy (by decide)
    omega
  refine ret_ok (call_ok (ds := [iN (a * c), iN (b * d)]) (cons_ok (fz_v (op_ok (op_ok rfl rfl ixT0) (op_ok rfl rfl ixT0) (mulN _ _ (k h1 h3)))) (cons_ok (fz_v (op_ok (op_ok rfl rfl ixT1) (op_ok rfl rfl ixT1) (mulN _ _ (k h2 h4)))) nil_ok)) rfl (lowest_ev (Nat.mul_pos hb hd) ?_))
  calc b * d < 2 ^ 4000 * 2 ^ 4000 := Nat.mul_lt_mul'' h2 h4
    _ = 2 ^ 8000 := by rw [← Nat.pow_add]
end K62
set_option Elab.async false
set_option linter.all false
set_option maxRecDepth 100000
set_option maxHeartbeats 2000000
namespace K62
open PySem PySem.Spec PyProof.Rows L2 Pd
variable {ρ : Rho}
theorem inN (neg : Bool) {k : Nat} {b : List Nat} (hk : k < 10) (hb : ∀ x ∈ b, x < 10) : fIn neg (.v (dN k)) (.v (dB b)) ρ = some (.v (.bl (if neg = true then !decide (k ∈ b) else decide (k ∈ b)))) := by
  have e : b.map dN = (b.map nm).map D.str := by rw [List.map_map]; rfl
  have := inS (ρ := ρ) neg (x := .v (dN k)) (y := .v (dB b)) (a := nm k) (b := b.map nm) rfl (by rw [← e]; rfl)
  rw [this, nm_mem hk hb]
theorem eqNm (neg : Bool) {a b : Nat} (ha : a < 10) (hb : b < 10) : fEqN neg (.v (dN a)) (.v (dN b)) ρ = some (.v (.bl (if neg = true then !decide (a = b) else decide (a = b)))) := by
  rw [eqS neg _ _ (nm_ok a) (nm_ok b), nm_eq ha hb]
theorem sm_congr {m : Nat} {f g : Nat → Nat} (h : ∀ k, k < m → f k = g k) : sm m f = sm m g := by unfold sm; rw [map_rng_congr h]
theorem sm_zero {m : Nat} {f : Nat → Nat} : sm m f = 0 ↔ ∀ k, k < m → f k = 0 := by
  unfold sm
  induction m with
  | zero => simp
  | succ m ih =>
    rw [List.range_succ, List.map_append, List.sum_append]
    simp only [List.map_cons, List.map_nil, List.sum_cons, List.sum_nil, Nat.add_zero, Nat.add_eq_zero_iff, ih]
    constructor
    · rintro ⟨h1, h2⟩ k hk
      rcases Nat.lt_succ_iff_lt_or_eq.mp hk with h | h
      · exact h1 k h
      · rw [h]; exact h2
    · exact fun h => ⟨fun k hk => h k (by omega), h m (by omega)⟩
theorem full_ev {m : Nat} {w : Nat → Nat} (hm : m ≤ 8) : Val F_full_state [a0 (dW m w)] (.val (dS m w)) := by
  refine val_run (ρ := [a0 (dW m w), .any, .any]) ?_
  exact ret_ok (cl_ok (cons_ok (lc_all (xs := List.range m) (dP w) (fun k => iN (w k)) (sit_ok (fz_v rfl) rfl) (by rw [List.length_range]; omega) rfl rfl rfl fun k hk => ⟨_, _, rfl, fz_v rfl, rfl⟩) nil_ok) tupOf_o)
theorem without_ev {m j : Nat} {s : Nat → Nat} (hm : m ≤ 8) (hj : j < m → 1 ≤ s j) : Val F_without [a0 (dS m s), a0 (iN j)] (.val (dS m (wo s j))) := by
  refine val_run (ρ := [a0 (dS m s), a0 (iN j), .any]) ?_
  refine ret_ok (cl_ok (cons_ok (lc_all (xs := List.range m) (fun k => iN k) (fun k => iN (wo s j k)) (ρ1 := [a0 (dS m s), a0 (iN j), .any]) (rng1_ok (n := m) ?_ (by omega)) (by rw [List.length_range]; omega) rfl rfl rfl fun k hk => ?_) nil_ok) tupOf_o)
  · refine cons_ok (cl_ok (cons_ok rfl nil_ok) (len_t.trans ?_)) nil_ok
    rw [List.length_map, List.length_range]
  · have hk := List.mem_range.mp hk
    refine ⟨_, _, rfl, fz_v (fz_v (ite_ok (tru_ok (op_ok rfl rfl (eqN false k j)) rfl) (x := .ok (.v (iN (wo s j k))) [a0 (dS m s), a0 (iN j), a0 (iN k)]) ?_)), rfl⟩
    by_cases e : k = j
    · subst e
      simp only [Bool.false_eq_true, if_false, decide_true, if_true]
      refine op_ok (op_ok rfl rfl (ixt hk)) rfl ((subN _ 1 (hj hk)).trans ?_)
      unfold wo
      rw [if_pos rfl]
    · simp only [Bool.false_eq_true, if_false, e, decide_false]
      refine fz_v (op_ok rfl rfl ((ixt hk).trans ?_))
      unfold wo
      rw [if_neg e]
theorem able_zero {m : Nat} {b : List Nat} : sm m (abl b) = 0 ↔ ∀ k, k < m → k ∈ b := by
  rw [sm_zero]
  unfold abl
  constructor
  · intro h k hk
    have := h k hk
    split at this
    · assumption
    · cases this
  · intro h k hk
    rw [if_pos (h k hk)]
/-- what bounds -/
structure Ok (m : Nat) (w s : Nat → Nat) (b : List Nat) : Prop where
  hm : m ≤ 8
  hb : ∀ x ∈ b, x < 10
  hw : ∀ k, k < m → w k < 1000
  hs : ∀ k, k < m → s k < 1000
theorem log20 {n : Nat} (h : n < 2 ^ 20) : n.log2 < 1000 := Nat.lt_of_lt_of_le (log2_le h (by decide)) (by decide)
theorem log21 {n : Nat} (h : n < 2 ^ 21) : n.log2 < 1000 := Nat.lt_of_lt_of_le (log2_le h (by decide)) (by decide)
theorem abl_mul (b : List Nat) (s : Nat → Nat) (k : Nat) : abl b k * s k = ct b s k := by
  unfold abl ct
  split <;> simp
theorem abl_le (b : List Nat) (k : Nat) : abl b k ≤ 1 := by unfold abl; split <;> omega
abbrev CF (m : Nat) (w s : Nat → Nat) (b : List Nat) : Rho := [a0 (dW m w), a0 (dS m s), a0 (dB b), o0 ((List.range m).map fun k => iN (abl b k)), .any, .any, .any, .any, .any, .any]
theorem able_ev {m : Nat} {w s : Nat → Nat} {b : List Nat} (h : Ok m w s b) : mLc (mSeqIt (mPk 0)) (mUnp 2 [(mSet 5), (mSet 6)]) (M.pure true) (mFz (mIte (mTru fBl (mOp (fIn false) (mPk 5) (mPk 2))) (M.pure (.v (.int 0))) (M.pure (.v (.int 1))))) [5, 6] [a0 (dW m w), a0 (dS m s), a0 (dB b), .any, .any, .any, .any, .any, .any, .any] = .ok (.o ((List.range m).map fun k => iN (abl b k))) [a0 (dW m w), a0 (dS m s), a0 (dB b), .any, .any, .any, .any, .any, .any, .any] := by
  refine lc_all (xs := List.range m) (dP w) (fun k => iN (abl b k)) (sit_ok (fz_v rfl) rfl) (by rw [List.length_range]; have := h.hm; omega) rfl rfl rfl fun k hk => ?_
  have hk := List.mem_range.mp hk
  refine ⟨_, _, rfl, fz_v (fz_v (ite_ok (tru_ok (op_ok rfl rfl (inN false (by have := h.hm; omega) h.hb)) rfl) (x := .ok (.v (iN (abl b k))) [a0 (dW m w), a0 (dS m s), a0 (dB b), .any, .any, a0 (dN k), a0 (iN (w k)), .any, .any, .any]) ?_)), rfl⟩
  unfold abl
  by_cases e : k ∈ b
  · simp only [Bool.false_eq_true, if_false, e, decide_true, if_true]; rfl
  · simp only [Bool.false_eq_true, if_false, e, decide_false]; rfl
theorem cards_err {m : Nat} {w s : Nat → Nat} {b : List Nat} (h : Ok m w s b) (hz : sm m (abl b) = 0) : Err F_cards_for [a0 (dW m w), a0 (dS m s), a0 (dB b)] "Refused" := by
  refine err_run (ρ := CF m w s b) ?_
  refine seq_ok (ρ1 := CF m w s b) (asg_ok (able_ev h) rfl) ?_
  refine seq_err (if_t (tru_ok (op_ok (cl_ok (cons_ok rfl nil_ok) (sum_rng (elsF_pk rfl))) rfl (eqN false _ 0)) ?_) rfl)
  show some _ = some true
  simp only [Bool.false_eq_true, if_false]
  rw [show ((List.range m).map (abl b)).sum = 0 from hz]
  rfl
/-- the product of the able and the cards -/
theorem prod_ev {m : Nat} {s : Nat → Nat} {b : List Nat} {x0 x2 x3 x4 x5 x6 x9 : Sl} (hm : m ≤ 8) (hs : ∀ k, k < m → s k < 2 ^ 21) (h3 : x3 = o0 ((List.range m).map fun k => iN (abl b k)) ∨ x3 = a0 (lS m (abl b))) :
    mLc (mZip (mCons (mVar 3) (mCons (mVar 1) mNil))) (mUnp 2 [(mSet 7), (mSet 8)]) (M.pure true) (mFz (mOp fMul (mPk 7) (mPk 8))) [7, 8] [x0, a0 (dS m s), x2, x3, x4, x5, x6, .any, .any, x9] = .ok (.o ((List.range m).map fun k => iN (ct b s k))) [x0, a0 (dS m s), x2, a0 (lS m (abl b)), x4, x5, x6, .any, .any, x9] := by
  have hv : mVar 3 [x0, a0 (dS m s), x2, x3, x4, x5, x6, .any, .any, x9] = .ok (.v (lS m (abl b))) [x0, a0 (dS m s), x2, a0 (lS m (abl b)), x4, x5, x6, .any, .any, x9] := by
    rcases h3 with h3 | h3
    · subst h3; exact var_o rfl
    · subst h3; rfl
  refine lc_all (xs := List.range m) (fun k => D.tup [iN (abl b k), iN (s k)]) (fun k => iN (ct b s k)) (ρ1 := [x0, a0 (dS m s), x2, a0 (lS m (abl b)), x4, x5, x6, .any, .any, x9]) (Eq.trans (zip_ok (d := lS m (abl b)) (e := dS m s) (cons_ok hv (cons_ok rfl nil_ok)) rfl rfl) ?_) (by rw [List.length_range]; omega) rfl rfl rfl fun k hk => ?_
  · rw [zipD_self]
  · have hk := List.mem_range.mp hk
    refine ⟨_, _, rfl, fz_v (fz_v (op_ok (t := .v (iN (ct b s k))) (ρ2 := [x0, a0 (dS m s), x2, a0 (lS m (abl b)), x4, x5, x6, a0 (iN (abl b k)), a0 (iN (s k)), x9]) rfl rfl (Eq.trans (mulN _ _ ?_) (by rw [abl_mul])))), rfl⟩
    · have h1 := log21 (hs k hk)
      have h2 := log20 (n := abl b k) (Nat.lt_of_le_of_lt (abl_le b k) (by decide))
      omega
end K62
set_option Elab.async false
set_option linter.all false
set_option maxRecDepth 100000
set_option maxHeartbeats 2000000
namespace K62
open PySem PySem.Spec PyProof.Rows L2 Pd
variable {ρ : Rho}
theorem sumS {x : Pd.Tm} {m : Nat} {f : Nat → Nat} (h : x.elsF ρ = some ((List.range m).map fun k => iN (f k))) : fSum [x] ρ = some (.v (iN (sm m f))) := sum_rng h
theorem cs_t {m : Nat} {w s : Nat → Nat} {b : List Nat} (h : sm m (ct b s) = 0) : cs m w b s = fun k => s k + w k := funext fun k => if_pos h
theorem cs_f {m : Nat} {w s : Nat → Nat} {b : List Nat} (h : ¬ sm m (ct b s) = 0) : cs m w b s = s := funext fun k => if_neg h
theorem cs_lt {m : Nat} {w s : Nat → Nat} {b : List Nat} (h : Ok m w s b) : ∀ k, k < m → cs m w b s k < 2 ^ 21 := fun k hk => by
  have h1 := h.hw k hk
  have h2 := h.hs k hk
  unfold cs
  split <;> omega
theorem cs_lt' {m : Nat} {w s : Nat → Nat} {b : List Nat} (h : Ok m w s b) : ∀ k, k < m → cs m w b s k < 2000 := fun k hk => by
  have h1 := h.hw k hk
  have h2 := h.hs k hk
  unfold cs
  split <;> omega
abbrev CA (m : Nat) (w s : Nat → Nat) (b : List Nat) (c : List D) : Rho := [a0 (dW m w), a0 (dS m s), a0 (dB b), a0 (lS m (abl b)), o0 c, .any, .any, .any, .any, .any]
theorem cards_ev {m : Nat} {w s : Nat → Nat} {b : List Nat} (h : Ok m w s b) (hz : sm m (abl b) ≠ 0) : Val F_cards_for [a0 (dW m w), a0 (dS m s), a0 (dB b)] (.val (.tup [dS m (cs m w b s), lS m (cc m w b s)])) := by
  have hm := h.hm
  refine val_run (ρ := [a0 (dW m w), a0 (dS m (cs m w b s)), a0 (dB b), a0 (lS m (abl b)), a0 (lS m (cc m w b s)), .any, .any, .any, .any, .any]) ?_
  refine seq_ok (ρ1 := CF m w s b) (asg_ok (able_ev h) rfl) ?_
  refine seq_ok (ρ1 := CF m w s b) (if_f (tru_ok (op_ok (cl_ok (cons_ok rfl nil_ok) (sumS (elsF_pk rfl))) rfl (eqN false _ 0)) ?_) rfl) ?_
  · show some _ = some false
    simp only [Bool.false_eq_true, if_false]
    rw [decide_eq_false hz]
  refine seq_ok (ρ1 := CA m w s b ((List.range m).map fun k => iN (ct b s k))) (asg_ok (prod_ev hm (fun k hk => Nat.lt_trans (h.hs k hk) (by decide)) (.inl rfl)) rfl) ?_
  refine seq_ok (ρ1 := CA m w (cs m w b s) b ((List.range m).map fun k => iN (cc m w b s k))) ?_ ?_
  · refine if_d (k := decide (sm m (ct b s) = 0)) (ρ1 := CA m w s b ((List.range m).map fun k => iN (ct b s k))) (tru_ok (op_ok (cl_ok (cons_ok rfl nil_ok) (sumS (elsF_pk rfl))) rfl (eqN false _ 0)) rfl) (fun e => ?_) fun e => ?_
    · have e := of_decide_eq_true e
      unfold cc
      rw [cs_t e]
      refine seq_ok (ρ1 := CA m w (fun k => s k + w k) b ((List.range m).map fun k => iN (ct b s k))) (asg_ok (cl_ok (cons_ok (lc_all (xs := List.range m) (fun k => .tup [iN (s k), dP w k]) (fun k => iN (s k + w k)) (ρ1 := CA m w s b ((List.range m).map fun k => iN (ct b s k))) (Eq.trans (zip_ok (d := dS m s) (e := dW m w) (cons_ok rfl (cons_ok rfl nil_ok)) rfl rfl) (by rw [zipD_self])) (by rw [List.length_range]; omega) rfl rfl rfl fun k hk => ?_) nil_ok) tupOf_o) rfl) ?_
      · exact ⟨_, _, rfl, fz_v (fz_v (op_ok rfl (op_ok rfl rfl ixT1) (addN _ _))), rfl⟩
      · refine asg_ok (prod_ev hm (fun k hk => ?_) (.inr rfl)) rfl
        have h1 := h.hw k hk
        have h2 := h.hs k hk
        show s k + w k < _
        omega
    · have e := of_decide_eq_false e
      unfold cc
      rw [cs_f e]
      rfl
  exact ret_ok (cl_ok (cons_ok rfl (cons_ok (var_o rfl) nil_ok)) rfl)
/-! ### dealing -/
def pre (c : Nat → Nat) (i : Nat) : Nat := sm i c
theorem pre_succ (c : Nat → Nat) (i : Nat) : pre c (i + 1) = pre c i + c i := by
  unfold pre sm
  rw [List.range_succ, List.map_append, List.sum_append]
  simp
theorem pre_mono (c : Nat → Nat) {i j : Nat} (h : i ≤ j) : pre c i ≤ pre c j := by
  induction h with
  | refl => exact Nat.le_refl _
  | step _ ih => rw [pre_succ]; omega
abbrev DL (m : Nat) (w s : Nat → Nat) (b : List Nat) (c : Nat → Nat) (d n k : Nat) : Rho := [a0 (dW m w), a0 (dS m s), a0 (dB b), a0 (iN d), a0 (lS m c), a0 (iN n), a0 (iN k)]
theorem while_f {c : M Bool} {b : M Fl} {n : Nat} {ρ ρ1 : Rho} (h : c ρ = .ok false ρ1) : mWhile c b [] (n + 1) ρ = .ok .nx ρ1 := by
  show ((mFgt []).bind fun _ => _) ρ = _
  rw [bind_ok (show mFgt [] ρ = .ok () ρ from rfl), bind_ok h]
  rfl
theorem while_t {c : M Bool} {b : M Fl} {n : Nat} {ρ ρ1 ρ2 : Rho} (h : c ρ = .ok true ρ1) (hb : b ρ1 = .ok .nx ρ2) : mWhile c b [] (n + 1) ρ = mWhile c b [] n ρ2 := by
  show ((mFgt []).bind fun _ => _) ρ = _
  rw [bind_ok (show mFgt [] ρ = .ok () ρ from rfl), bind_ok h, if_pos rfl, bind_ok hb]
theorem aug_ok {i : Nat} {f : Pd.Tm → Pd.Tm → Rho → Option Pd.Tm} {me : M Pd.Tm} {x y z : Pd.Tm} {ρ ρ1 ρ2 ρ3 : Rho} (h1 : mVar i ρ = .ok x ρ1) (h2 : me ρ1 = .ok y ρ2) (h3 : f x y ρ2 = some z) (h4 : mSet i z ρ2 = some ρ3) : mAug i f me ρ = .ok .nx ρ3 :=
  (bind_ok h1).trans ((bind_ok h2).trans ((bind_ok (lift_ok h3)).trans ((bind_ok (put_ok h4)).trans rfl)))
theorem deal_loop {m : Nat} {w s c : Nat → Nat} {b : List Nat} {d j r : Nat} (hj : j < m) (hr : r < c j) : ∀ (q n k f : Nat), k + q = j → n = pre c j - pre c k + r → q < f →
    mWhile (mTru fBl (mOp fGe (mPk 5) (mOp fIx (mPk 4) (mPk 6)))) (mSeq (mAug 5 fiSub (mOp fIx (mPk 4) (mPk 6))) (mAug 6 fiAdd (M.pure (.v (.int 1))))) [] f (DL m w s b c d n k) = .ok .nx (DL m w s b c d r j)
  | 0, n, k, f + 1, hk, hn, _ => by
    have e : k = j := by omega
    subst e
    rw [Nat.sub_self, Nat.zero_add] at hn
    subst hn
    refine while_f (tru_ok (op_ok rfl (op_ok rfl rfl (ixl hj)) (geN n (c k))) ?_)
    show some _ = some false
    rw [decide_eq_false (by omega)]
  | q + 1, n, k, f + 1, hk, hn, hf => by
    have hkm : k < m := by omega
    have h1 : pre c (k + 1) ≤ pre c j := pre_mono c (by omega)
    rw [pre_succ] at h1
    have h2 : c k ≤ n := by omega
    refine Eq.trans (while_t (ρ2 := DL m w s b c d (n - c k) (k + 1)) (tru_ok (op_ok rfl (op_ok rfl rfl (ixl hkm)) (geN n (c k))) ?_) ?_) (deal_loop hj hr q (n - c k) (k + 1) f (by omega) (by rw [pre_succ]; omega) (by omega))
    · show some _ = some true
      rw [decide_eq_true h2]
    · exact seq_ok (aug_ok rfl (op_ok rfl rfl (ixl hkm)) (subN n (c k) h2) rfl) (aug_ok (z := .v (iN (k + 1))) rfl rfl rfl rfl)
theorem deal_ev {m : Nat} {w s : Nat → Nat} {b : List Nat} {d j r : Nat} (h : Ok m w s b) (hz : sm m (abl b) ≠ 0) (hj : j < m) (hr : r < cc m w b s j) (hd : d % sm m (cc m w b s) = pre (cc m w b s) j + r) :
    Val F_deal [a0 (dW m w), a0 (dS m s), a0 (dB b), a0 (iN d)] (.val (.tup [dN j, dS m (wo (cs m w b s) j)])) := by
  have hm := h.hm
  have h1 : cc m w b s j ≤ cs m w b s j := by unfold cc ct; split <;> omega
  have htot : 0 < sm m (cc m w b s) := by
    rcases Nat.eq_zero_or_pos (sm m (cc m w b s)) with z | z
    · have := sm_zero.mp z j hj; omega
    · exact z
  refine val_run (ρ := DL m w (cs m w b s) b (cc m w b s) d r j) ?_
  refine seq_ok (ρ1 := [a0 (dW m w), a0 (dS m (cs m w b s)), a0 (dB b), a0 (iN d), a0 (lS m (cc m w b s)), .any, .any]) (asg_ok (call_ok (ds := [dW m w, dS m s, dB b]) rfl rfl (cards_ev h hz)) rfl) ?_
  refine seq_ok (ρ1 := [a0 (dW m w), a0 (dS m (cs m w b s)), a0 (dB b), a0 (iN d), a0 (lS m (cc m w b s)), a0 (iN (pre (cc m w b s) j + r)), .any]) (asg_ok (op_ok rfl (cl_ok (cons_ok rfl nil_ok) (sumS rfl)) (t := .v (iN (pre (cc m w b s) j + r))) (Eq.trans (modN d _ htot) (by rw [hd]))) rfl) ?_
  refine seq_ok (ρ1 := DL m w (cs m w b s) b (cc m w b s) d (pre (cc m w b s) j + r) 0) rfl ?_
  refine seq_ok (deal_loop hj hr j _ 0 100 (by omega) (by show _ = pre _ j - 0 + r; omega) (by omega)) ?_
  exact ret_ok (cl_ok (cons_ok (fz_v (op_ok (op_ok rfl rfl (ixt hj)) rfl ixT0)) (cons_ok (fz_v (call_ok (ds := [dS m (cs m w b s), iN j]) rfl rfl (without_ev hm fun _ => by omega))) nil_ok)) rfl)
end K62
set_option Elab.async false
set_option linter.all false
set_option maxRecDepth 100000
set_option maxHeartbeats 2000000
namespace K62
open PySem PySem.Spec PyProof.Rows L2 Pd
variable {ρ ρ1 : Rho}
/-! ### any over pairs -/
theorem any2_ok {α : Type} {el : D → D → Rho → Option Bool} {mm : M Pd.Tm} {xs : List α} {e f : α → D} {p : α → Bool} (h : mFz mm ρ = .ok (.v (.tup (xs.map fun x => .tup [e x, f x]))) ρ1) (hp : ∀ x ∈ xs, el (e x) (f x) ρ1 = some (p x)) : mAny2 el mm ρ = .ok (.v (.bl (xs.any p))) ρ1 := by
  refine (bind_ok h).trans (lift_ok ?_)
  have h1 : ∀ l : List α, pairsD (l.map fun x => .tup [e x, f x]) = some (l.map fun x => (e x, f x)) := fun l => by
    induction l with
    | nil => rfl
    | cons x l ih =>
      show (pairD (.tup [e x, f x])).bind (fun p => (pairsD (l.map fun x => .tup [e x, f x])).map fun ps => p :: ps) = _
      rw [ih]
      rfl
  have h2 : ∀ l : List α, (∀ x ∈ l, el (e x) (f x) ρ1 = some (p x)) → elsB el ρ1 (l.map fun x => (e x, f x)) = some (l.map p) := fun l => by
    induction l with
    | nil => intro _; rfl
    | cons x l ih =>
      intro hl
      show (el (e x) (f x) ρ1).bind (fun b => (elsB el ρ1 (l.map fun x => (e x, f x))).map fun bs => b :: bs) = _
      rw [hl x List.mem_cons_self, ih fun y hy => hl y (List.mem_cons_of_mem _ hy)]
      rfl
  show (some (xs.map fun x => D.tup [e x, f x])).bind (fun ds => (pairsD ds).bind fun ps => (elsB el ρ1 ps).map fun bs => Pd.Tm.v (.bl (bs.any id))) = _
  rw [Option.bind_some, h1, Option.bind_some, h2 xs hp]
  simp [List.any_map]
theorem can_ev {m : Nat} {w : Nat → Nat} {b : List Nat} (hm : m ≤ 8) (hb : ∀ x ∈ b, x < 10) : Val F_can_deal [a0 (dW m w), a0 (dB b)] (.val (.bl (decide (sm m (abl b) ≠ 0)))) := by
  refine val_run (ρ := [a0 (dW m w), a0 (dB b)]) ?_
  have key := any2_ok (ρ := [a0 (dW m w), a0 (dB b)]) (ρ1 := [a0 (dW m w), a0 (dB b)]) (el := fElIn true 1) (mm := mVar 0) (xs := List.range m) (e := dN) (f := fun k => iN (w k)) (p := fun k => !decide (k ∈ b)) rfl fun k hk => by
    have hk := List.mem_range.mp hk
    have e : b.map dN = (b.map nm).map D.str := by rw [List.map_map]; rfl
    show when (flD (dN k) = true ∧ (b.map dN).all flD = true) (some (if true = true then !inD (dN k) (b.map dN) else inD (dN k) (b.map dN))) = _
    rw [when_t ⟨rfl, fl_map (fun _ => rfl) b⟩, if_pos rfl, e, show inD (dN k) ((b.map nm).map D.str) = decide (nm k ∈ b.map nm) from inD_map encS (nm k) (b.map nm), nm_mem (by omega) hb]
  have e2 : (List.range m).any (fun k => !decide (k ∈ b)) = decide (sm m (abl b) ≠ 0) := by
    rw [Bool.eq_iff_iff, decide_eq_true_iff, List.any_eq_true, Ne, able_zero]
    constructor
    · rintro ⟨k, hk, z⟩ h
      simp [h k (List.mem_range.mp hk)] at z
    · intro h
      refine Classical.byContradiction fun z => h fun k hk => Classical.byContradiction fun y => z ⟨k, List.mem_range.mpr hk, by simp [y]⟩
  rw [e2] at key
  exact ret_ok key
/-! ### the steps -/
theorem sm_le {m B : Nat} {f : Nat → Nat} (h : ∀ k, k < m → f k ≤ B) : sm m f ≤ m * B := by
  unfold sm
  induction m with
  | zero => simp
  | succ m ih =>
    rw [List.range_succ, List.map_append, List.sum_append, Nat.succ_mul]
    have h1 := ih fun k hk => h k (by omega)
    have h2 := h m (by omega)
    simp only [List.map_cons, List.map_nil, List.sum_cons, List.sum_nil]
    omega
theorem sm_get {m j : Nat} {f : Nat → Nat} (hj : j < m) : f j ≤ sm m f := by
  have h1 := pre_mono f (show j + 1 ≤ m from hj)
  rw [pre_succ] at h1
  have : sm m f = pre f m := rfl
  omega
theorem cc_le {m : Nat} {w s : Nat → Nat} {b : List Nat} (k : Nat) : cc m w b s k ≤ cs m w b s k := by unfold cc ct; split <;> omega
theorem tot_lt {m : Nat} {w s : Nat → Nat} {b : List Nat} (h : Ok m w s b) : sm m (cc m w b s) < 2 ^ 25 := by
  have h1 : sm m (cc m w b s) ≤ m * 2 ^ 21 := sm_le fun k hk => by
    have := cs_lt h k hk
    have := cc_le (m := m) (w := w) (s := s) (b := b) k
    omega
  have := h.hm
  have : m * 2 ^ 21 ≤ 8 * 2 ^ 21 := Nat.mul_le_mul_right _ this
  omega
abbrev pos (m : Nat) (w s : Nat → Nat) (b : List Nat) : List Nat := (List.range m).filter fun k => decide (0 < cc m w b s k)
abbrev stp (m : Nat) (w s : Nat → Nat) (b : List Nat) (k : Nat) : D := .tup [iN k, dQ (cc m w b s k) (sm m (cc m w b s)), dS m (wo (cs m w b s) k)]
theorem big {n : Nat} (h : n < 2 ^ 25) : n < 2 ^ 8000 := Nat.lt_of_lt_of_le h (Nat.pow_le_pow_right (by decide) (by decide))
theorem steps_ev {m : Nat} {w s : Nat → Nat} {b : List Nat} (h : Ok m w s b) (hz : sm m (abl b) ≠ 0) : Val F_steps [a0 (dW m w), a0 (dS m s), a0 (dB b)] (.own (((pos m w s b).map (stp m w s b)).map Rv.val)) := by
  have hm := h.hm
  refine val_run (ρ := [a0 (dW m w), a0 (dS m (cs m w b s)), a0 (dB b), a0 (lS m (cc m w b s)), a0 (iN (sm m (cc m w b s))), .any]) ?_
  refine seq_ok (ρ1 := [a0 (dW m w), a0 (dS m (cs m w b s)), a0 (dB b), a0 (lS m (cc m w b s)), .any, .any]) (asg_ok (call_ok (ds := [dW m w, dS m s, dB b]) rfl rfl (cards_ev h hz)) rfl) ?_
  refine seq_ok (ρ1 := [a0 (dW m w), a0 (dS m (cs m w b s)), a0 (dB b), a0 (lS m (cc m w b s)), a0 (iN (sm m (cc m w b s))), .any]) (asg_ok (cl_ok (cons_ok rfl nil_ok) (sumS rfl)) rfl) ?_
  refine ret_ok (lc_fil (xs := List.range m) (fun k => iN k) (fun k => decide (0 < cc m w b s k)) (stp m w s b) (ρ1 := [a0 (dW m w), a0 (dS m (cs m w b s)), a0 (dB b), a0 (lS m (cc m w b s)), a0 (iN (sm m (cc m w b s))), .any]) (rng1_ok (n := m) ?_ (by omega)) (by rw [List.length_range]; omega) rfl rfl rfl fun k hk => ?_)
  · refine cons_ok (cl_ok (cons_ok rfl nil_ok) (Eq.trans len_l ?_)) nil_ok
    rw [List.length_map, List.length_range]
  · have hk := List.mem_range.mp hk
    refine ⟨_, [a0 (dW m w), a0 (dS m (cs m w b s)), a0 (dB b), a0 (lS m (cc m w b s)), a0 (iN (sm m (cc m w b s))), a0 (iN k)], rfl, tru_ok (op_ok (op_ok rfl rfl (ixl hk)) rfl (gtN _ 0)) rfl, rfl, fun z => ⟨_, fz_v (cl_ok (cons_ok rfl (cons_ok (fz_v (call_ok (ds := [iN (cc m w b s k), iN (sm m (cc m w b s))]) (cons_ok (fz_v (op_ok rfl rfl (ixl hk))) (cons_ok rfl nil_ok)) rfl (made_ev ?_ (big (tot_lt h))))) (cons_ok (fz_v (call_ok (ds := [dS m (cs m w b s), iN k]) rfl rfl (without_ev hm fun _ => ?_))) nil_ok))) rfl), rfl⟩⟩
    · have z := of_decide_eq_true z
      have := sm_get (f := cc m w b s) hk
      omega
    · have z := of_decide_eq_true z
      have := cc_le (m := m) (w := w) (s := s) (b := b) k
      omega
theorem steps_err {m : Nat} {w s : Nat → Nat} {b : List Nat} (h : Ok m w s b) (hz : sm m (abl b) = 0) : Err F_steps [a0 (dW m w), a0 (dS m s), a0 (dB b)] "Refused" := by
  refine err_run (ρ := [a0 (dW m w), a0 (dS m s), a0 (dB b), .any, .any, .any]) ?_
  exact seq_err (asg_err (call_er (ds := [dW m w, dS m s, dB b]) rfl rfl (cards_err h hz)))
theorem lc_err {it : M (List D)} {tg : G} {c : M Bool} {el : M Pd.Tm} {vs : List Nat} {e : Str} (h : it ρ = .err e ρ1) : mLc it tg c el vs ρ = .err e ρ1 := bind_err h
theorem chances_ev {m : Nat} {w s : Nat → Nat} {b : List Nat} (h : Ok m w s b) (hz : sm m (abl b) ≠ 0) : Val F_chances [a0 (dW m w), a0 (dS m s), a0 (dB b)] (.val (.tup ((pos m w s b).map fun k => .tup [dN k, dQ (cc m w b s k) (sm m (cc m w b s))]))) := by
  have hm := h.hm
  refine val_run (ρ := [a0 (dW m w), a0 (dS m s), a0 (dB b), .any, .any, .any]) ?_
  refine ret_ok (cl_ok (cons_ok (lc_all (xs := pos m w s b) (stp m w s b) (fun k => .tup [dN k, dQ (cc m w b s k) (sm m (cc m w b s))]) (sit_ok (fz_o (call_ok (ds := [dW m w, dS m s, dB b]) rfl rfl (steps_ev h hz))) rfl) ?_ rfl rfl rfl fun k hk => ?_) nil_ok) tupOf_o)
  · exact Nat.le_trans (List.length_filter_le _ _) (by rw [List.length_range]; omega)
  · have hk := List.mem_range.mp (List.mem_filter.mp hk).1
    exact ⟨_, _, rfl, fz_v (cl_ok (cons_ok (fz_v (op_ok (op_ok rfl rfl (ixt hk)) rfl ixT0)) (cons_ok rfl nil_ok)) rfl), rfl⟩
theorem chances_err {m : Nat} {w s : Nat → Nat} {b : List Nat} (h : Ok m w s b) (hz : sm m (abl b) = 0) : Err F_chances [a0 (dW m w), a0 (dS m s), a0 (dB b)] "Refused" := by
  refine err_run (ρ := [a0 (dW m w), a0 (dS m s), a0 (dB b), .any, .any, .any]) ?_
  refine ret_err (bind_err (bind_err (lc_err ?_)))
  exact bind_err (bind_err (call_er (ds := [dW m w, dS m s, dB b]) rfl rfl (steps_err h hz)))
end K62
set_option Elab.async false
set_option linter.all false
set_option maxRecDepth 100000
set_option maxHeartbeats 2000000
namespace K62
open PySem PySem.Spec PyProof.Rows L2 Pd
variable {ρ ρ1 : Rho}
/-! ### products in lowest terms -/
theorem dQ_mulk {a b k : Nat} (hk : 0 < k) : dQ (a * k) (b * k) = dQ a b := by
  unfold dQ
  rw [Nat.gcd_mul_right, Nat.mul_div_mul_right _ _ hk, Nat.mul_div_mul_right _ _ hk]
theorem dQ_mul {p q c t : Nat} (hq : 0 < q) (ht : 0 < t) : dQ (p / Nat.gcd p q * (c / Nat.gcd c t)) (q / Nat.gcd p q * (t / Nat.gcd c t)) = dQ (p * c) (q * t) := by
  have h1 : 0 < Nat.gcd p q := Nat.gcd_pos_of_pos_right p hq
  have h2 : 0 < Nat.gcd c t := Nat.gcd_pos_of_pos_right c ht
  rw [← dQ_mulk (k := Nat.gcd p q * Nat.gcd c t) (Nat.mul_pos h1 h2)]
  have e : ∀ x y u v : Nat, u ∣ x → v ∣ y → x / u * (y / v) * (u * v) = x * y := fun x y u v hu hv => by
    rw [Nat.mul_mul_mul_comm, Nat.div_mul_cancel hu, Nat.div_mul_cancel hv]
  rw [e _ _ _ _ (Nat.gcd_dvd_left p q) (Nat.gcd_dvd_left c t), e _ _ _ _ (Nat.gcd_dvd_right p q) (Nat.gcd_dvd_right c t)]
theorem eqT (neg : Bool) (a b c d : Nat) : fEqN neg (.v (.tup [iN a, iN b])) (.v (.tup [iN c, iN d])) ρ = some (.v (.bl (if neg = true then !decide (a = c ∧ b = d) else decide (a = c ∧ b = d)))) := by
  have := eqEnc (ρ := ρ) (encI.pair encI) neg (x := .v (.tup [iN a, iN b])) (y := .v (.tup [iN c, iN d])) (a := ((a : Int), (b : Int))) (b := ((c : Int), (d : Int))) rfl rfl (by simp [Enc.pair, encI, D.dep, D.deps]) (by simp [Enc.pair, encI, D.dep, D.deps])
  rw [this]
  have e : decide (((a : Int), (b : Int)) = ((c : Int), (d : Int))) = decide (a = c ∧ b = d) := by
    simp [Prod.ext_iff, Int.natCast_inj]
  rw [e]
theorem div_ne {p q : Nat} (hp : 0 < p) : p / Nat.gcd p q ≠ 0 := fun z => by
  have h1 : 0 < Nat.gcd p q := Nat.gcd_pos_of_pos_left q hp
  have h2 : Nat.gcd p q ≤ p := Nat.gcd_le_left q hp
  have := Nat.div_pos h2 h1
  omega
/-! ### a record's walk -/
abbrev Rec := List (List Nat × Nat)
abbrev dE (e : List Nat × Nat) : D := .tup [.str "case", dB e.1, dN e.2]
abbrev lR (r : Rec) : D := .lst (r.map dE)
def wk (m : Nat) (w : Nat → Nat) : Rec → (Nat → Nat) → Nat → Nat → Option (Nat × Nat × (Nat → Nat))
  | [], s, p, q => some (p, q, s)
  | e :: r, s, p, q => if e.2 < m ∧ 0 < cc m w e.1 s e.2 then wk m w r (wo (cs m w e.1 s) e.2) (p * cc m w e.1 s e.2) (q * sm m (cc m w e.1 s)) else none
/-- what bounds a walk of k more steps -/
structure Bd (m : Nat) (w s : Nat → Nat) (p q k i : Nat) : Prop where
  hm : m ≤ 8
  hw : ∀ k, k < m → 1 ≤ w k ∧ w k ≤ 6
  hs : ∀ k, k < m → s k ≤ 6 * i
  hp : p ≤ q
  hq : 0 < q
  hq2 : q < 2 ^ (10 * i)
  hi : i + k ≤ 16
def RecOk (r : Rec) : Prop := ∀ e ∈ r, e.2 < 10 ∧ ∀ x ∈ e.1, x < 10
theorem Bd.ok {m : Nat} {w s : Nat → Nat} {p q k i : Nat} (h : Bd m w s p q k i) {b : List Nat} (hb : ∀ x ∈ b, x < 10) : Ok m w s b :=
  ⟨h.hm, hb, fun k hk => by have := (h.hw k hk).2; omega, fun j hj => by
    have h1 := h.hs j hj
    have h2 := h.hi
    omega⟩
theorem Bd.step {m : Nat} {w s : Nat → Nat} {p q k i : Nat} (h : Bd m w s p q (k + 1) i) {b : List Nat} (hb : ∀ x ∈ b, x < 10) {n : Nat} (hn : n < m) (hc : 0 < cc m w b s n) : Bd m w (wo (cs m w b s) n) (p * cc m w b s n) (q * sm m (cc m w b s)) k (i + 1) := by
  have h1 := sm_get (f := cc m w b s) hn
  refine ⟨h.hm, h.hw, fun j hj => ?_, Nat.mul_le_mul h.hp h1, Nat.mul_pos h.hq (by omega), ?_, by have := h.hi; omega⟩
  · have h2 := h.hs j hj
    have h3 := (h.hw j hj).2
    unfold wo cs
    split <;> split <;> omega
  · have h2 : sm m (cc m w b s) < 2 ^ 10 := by
      have h4 : sm m (cc m w b s) ≤ m * 96 := sm_le fun j hj => by
        have h5 := cc_le (m := m) (w := w) (s := s) (b := b) j
        have h6 := h.hs j hj
        have h7 := (h.hw j hj).2
        have h8 := h.hi
        have h9 : cs m w b s j ≤ s j + w j := by unfold cs; split <;> omega
        omega
      have := h.hm
      omega
    have h3 := h.hq2
    calc q * sm m (cc m w b s) < 2 ^ (10 * i) * 2 ^ 10 := Nat.mul_lt_mul'' h3 h2
      _ = 2 ^ (10 * (i + 1)) := by rw [← Nat.pow_add]; rfl
theorem Bd.lt {m : Nat} {w s : Nat → Nat} {p q k i : Nat} (h : Bd m w s p q k i) : q < 2 ^ 4000 := Nat.lt_of_lt_of_le h.hq2 (Nat.pow_le_pow_right (by decide) (by have := h.hi; omega))
theorem cc_able {m : Nat} {w s : Nat → Nat} {b : List Nat} {n : Nat} (hn : n < m) (hc : 0 < cc m w b s n) : sm m (abl b) ≠ 0 := fun z => by
  have := able_zero.mp z n hn
  unfold cc ct at hc
  rw [if_pos this] at hc
  exact absurd hc (Nat.lt_irrefl 0)
abbrev S0 (m : Nat) (w : Nat → Nat) (R : D) (s : Nat → Nat) (p q : Nat) (x : Sl) : Rho := [a0 (dW m w), a0 R, a0 (dS m s), a0 (dQ p q), .any, .any, .any, .any, .any, .any, .any, x]
abbrev S1 (m : Nat) (w : Nat → Nat) (R : D) (s : Nat → Nat) (p q : Nat) (e : List Nat × Nat) (f : D) (x : Sl) : Rho := [a0 (dW m w), a0 R, a0 (dS m s), a0 (dQ p q), a0 (.str "case"), a0 (dB e.1), a0 (dN e.2), a0 f, .any, .any, .any, x]
abbrev bC1 : M Fl := (mIf (mTru fBl (mOp (fEqN false) (mOp fIx (mOp fIx (mPk 0) (mPk 8)) (M.pure (.v (.int 0)))) (mPk 6))) (mSeq (mAsg (mVar 9) (mSet 7)) (mAsg (mVar 10) (mSet 11))) mNx)
abbrev bC : M Fl := (mSeq (mIf (mNot (mTru fTru (mCall 2 F_can_deal (mCons (mVar 0) (mCons (mVar 5) mNil))))) (mRet (M.pure (.v d_NOUGHT))) mNx)
    (mSeq (mAsg (M.pure (.v d_NOUGHT)) (mSet 7))
    (mSeq (mFor (mSeqIt (mCall 3 F_steps (mCons (mVar 0) (mCons (mVar 2) (mCons (mVar 5) mNil))))) (mUnp 3 [(mSet 8), (mSet 9), (mSet 10)]) bC1 [8, 9, 10])
    (mSeq (mIf (mTru fBl (mOp (fEqN false) (mPk 7) (M.pure (.v d_NOUGHT)))) (mRet (M.pure (.v d_NOUGHT))) mNx)
    (mSeq (mAsg (mCall 2 F_times (mCons (mVar 3) (mCons (mVar 7) mNil))) (mSet 3))
    (mAsg (mVar 11) (mSet 2)))))))
theorem foldl_or {n : Nat} : ∀ (l : List Nat) (z : Bool), l.foldl (fun z k => z || decide (k = n)) z = (z || decide (n ∈ l))
  | [], z => by simp
  | k :: l, z => by
    rw [List.foldl_cons, foldl_or l]
    by_cases h : k = n
    · subst h; simp
    · have h' : ¬ n = k := fun y => h y.symm
      simp [h, h', List.mem_cons]
theorem inner_ev {m : Nat} {w s : Nat → Nat} {R : D} {p q : Nat} {e : List Nat × Nat} {x : Sl} (h : Ok m w s e.1) (hn : e.2 < 10) (hz : sm m (abl e.1) ≠ 0) (hx : x = .any ∨ ∃ d, x = a0 d) :
    ∃ f y, (mFor (mSeqIt (mCall 3 F_steps (mCons (mVar 0) (mCons (mVar 2) (mCons (mVar 5) mNil))))) (mUnp 3 [(mSet 8), (mSet 9), (mSet 10)]) bC1 [8, 9, 10]) (S1 m w R s p q e d_NOUGHT x) = .ok .nx (S1 m w R s p q e f y) ∧
      (e.2 ∈ pos m w s e.1 → f = dQ (cc m w e.1 s e.2) (sm m (cc m w e.1 s)) ∧ y = a0 (dS m (wo (cs m w e.1 s) e.2))) ∧ (e.2 ∉ pos m w s e.1 → f = d_NOUGHT) ∧ (y = .any ∨ ∃ d, y = a0 d) := by
  have hm := h.hm
  let F : Bool → D := fun z => if z = true then dQ (cc m w e.1 s e.2) (sm m (cc m w e.1 s)) else d_NOUGHT
  let Y : Bool → Sl := fun z => if z = true then a0 (dS m (wo (cs m w e.1 s) e.2)) else x
  have hY : ∀ z, Y z = .any ∨ ∃ d, Y z = a0 d := fun z => by
    cases z with
    | true => exact .inr ⟨_, rfl⟩
    | false => exact hx
  have key := mLoop_fold (tg := mUnp 3 [(mSet 8), (mSet 9), (mSet 10)]) (b := bC1) (js := [8, 9, 10]) (stp m w s e.1) (fun z => S1 m w R s p q e (F z) (Y z)) (fun z k => z || decide (k = e.2)) (pos m w s e.1) false (S1 m w R s p q e d_NOUGHT x) rfl ?_
  · refine ⟨_, _, for_ok (sit_ok (fz_o (call_ok (ds := [dW m w, dS m s, dB e.1]) rfl rfl (steps_ev h hz))) rfl) key, ?_, ?_, hY _⟩
    · intro hi
      rw [foldl_or, Bool.false_or, decide_eq_true hi]
      exact ⟨rfl, rfl⟩
    · intro hi
      rw [foldl_or, Bool.false_or, decide_eq_false hi]
      rfl
  · intro pre k post hpk
    have hkm : k < m := List.mem_range.mp (List.mem_filter.mp (show k ∈ pos m w s e.1 by rw [hpk]; simp)).1
    rw [List.foldl_append, List.foldl_cons, List.foldl_nil]
    generalize List.foldl (fun z k => z || decide (k = e.2)) false pre = z
    refine ⟨[a0 (dW m w), a0 R, a0 (dS m s), a0 (dQ p q), a0 (.str "case"), a0 (dB e.1), a0 (dN e.2), a0 (F z), a0 (iN k), a0 (dQ (cc m w e.1 s k) (sm m (cc m w e.1 s))), a0 (dS m (wo (cs m w e.1 s) k)), Y z],
      [a0 (dW m w), a0 R, a0 (dS m s), a0 (dQ p q), a0 (.str "case"), a0 (dB e.1), a0 (dN e.2), a0 (F (z || decide (k = e.2))), a0 (iN k), a0 (dQ (cc m w e.1 s k) (sm m (cc m w e.1 s))), a0 (dS m (wo (cs m w e.1 s) k)), Y (z || decide (k = e.2))], rfl, .inl ?_, rfl⟩
    refine if_d (k := decide (k = e.2)) (tru_ok (op_ok (op_ok (op_ok rfl rfl (ixt hkm)) rfl ixT0) rfl (eqNm false (by omega) hn)) rfl) (fun t => ?_) fun t => ?_
    · have t' := of_decide_eq_true t
      subst t'
      have eF : F (z || decide (e.2 = e.2)) = dQ (cc m w e.1 s e.2) (sm m (cc m w e.1 s)) := by rw [t, Bool.or_true]; rfl
      have eY : Y (z || decide (e.2 = e.2)) = a0 (dS m (wo (cs m w e.1 s) e.2)) := by rw [t, Bool.or_true]; rfl
      rw [eF, eY]
      rcases hY z with y | ⟨d, y⟩
      · rw [y]; rfl
      · rw [y]; rfl
    · rw [t, Bool.or_false]
      rfl
theorem chance_loop {m : Nat} {w : Nat → Nat} {R : D} : ∀ (r : Rec) (s : Nat → Nat) (p q i : Nat) (x : Sl) (ρ : Rho), RecOk r → Bd m w s p q r.length i → (x = .any ∨ ∃ d, x = a0 d) → fgt [4, 5, 6, 7, 8, 9, 10] ρ = some (S0 m w R s p q x) →
    ∃ ρ', match wk m w r s p q with
      | none => mLoop (mUnp 3 [(mSet 4), (mSet 5), (mSet 6)]) bC [4, 5, 6, 7, 8, 9, 10] (r.map dE) ρ = .ok (.rt (.val d_NOUGHT)) ρ'
      | some z => mLoop (mUnp 3 [(mSet 4), (mSet 5), (mSet 6)]) bC [4, 5, 6, 7, 8, 9, 10] (r.map dE) ρ = .ok .nx ρ' ∧ mVar 3 ρ' = .ok (.v (dQ z.1 z.2.1)) ρ'
  | [], s, p, q, i, x, ρ, _, _, _, hf => ⟨_, mLoop_nil hf, rfl⟩
  | e :: r, s, p, q, i, x, ρ, ho, hB, hx, hf => by
    obtain ⟨hn, hb⟩ := ho e List.mem_cons_self
    have hok := hB.ok hb
    have hm := hB.hm
    have hcan : mCall 2 F_can_deal (mCons (mVar 0) (mCons (mVar 5) mNil)) [a0 (dW m w), a0 R, a0 (dS m s), a0 (dQ p q), a0 (.str "case"), a0 (dB e.1), a0 (dN e.2), .any, .any, .any, .any, x] = .ok (.rv (.val (.bl (decide (sm m (abl e.1) ≠ 0))))) [a0 (dW m w), a0 R, a0 (dS m s), a0 (dQ p q), a0 (.str "case"), a0 (dB e.1), a0 (dN e.2), .any, .any, .any, .any, x] := call_ok (ds := [dW m w, dB e.1]) rfl rfl (can_ev hm hb)
    rw [List.map_cons, mLoop_cons (ρa := [a0 (dW m w), a0 R, a0 (dS m s), a0 (dQ p q), a0 (.str "case"), a0 (dB e.1), a0 (dN e.2), .any, .any, .any, .any, x]) hf rfl]
    by_cases hz : sm m (abl e.1) = 0
    · have hw : wk m w (e :: r) s p q = none := if_neg fun z => cc_able z.1 z.2 hz
      rw [hw]
      refine ⟨[a0 (dW m w), a0 R, a0 (dS m s), a0 (dQ p q), a0 (.str "case"), a0 (dB e.1), a0 (dN e.2), .any, .any, .any, .any, x], ?_⟩
      have hb1 : bC [a0 (dW m w), a0 R, a0 (dS m s), a0 (dQ p q), a0 (.str "case"), a0 (dB e.1), a0 (dN e.2), .any, .any, .any, .any, x] = .ok (.rt (.val d_NOUGHT)) [a0 (dW m w), a0 R, a0 (dS m s), a0 (dQ p q), a0 (.str "case"), a0 (dB e.1), a0 (dN e.2), .any, .any, .any, .any, x] :=
        seq_rt (if_t (not_ok (b := false) (tru_ok hcan (by show some _ = _; simp [hz]))) rfl)
      rw [hb1]
    · obtain ⟨f, y, h1, h2, h3, h4⟩ := inner_ev (R := R) (p := p) (q := q) (x := x) hok hn hz hx
      have hb1 : bC [a0 (dW m w), a0 R, a0 (dS m s), a0 (dQ p q), a0 (.str "case"), a0 (dB e.1), a0 (dN e.2), .any, .any, .any, .any, x] = (mSeq (mIf (mTru fBl (mOp (fEqN false) (mPk 7) (M.pure (.v d_NOUGHT)))) (mRet (M.pure (.v d_NOUGHT))) mNx)
    (mSeq (mAsg (mCall 2 F_times (mCons (mVar 3) (mCons (mVar 7) mNil))) (mSet 3))
    (mAsg (mVar 11) (mSet 2)))) (S1 m w R s p q e f y) :=
        seq_ok (if_f (not_ok (b := true) (tru_ok hcan (by show some _ = _; simp [hz]))) rfl) (seq_ok (ρ1 := S1 m w R s p q e d_NOUGHT x) rfl (seq_ok h1 rfl))
      rw [hb1]
      by_cases hi : e.2 ∈ pos m w s e.1
      · obtain ⟨hi1, hi2⟩ := List.mem_filter.mp hi
        have hi1 := List.mem_range.mp hi1
        have hi2 := of_decide_eq_true hi2
        have hw : wk m w (e :: r) s p q = wk m w r (wo (cs m w e.1 s) e.2) (p * cc m w e.1 s e.2) (q * sm m (cc m w e.1 s)) := if_pos ⟨hi1, hi2⟩
        obtain ⟨ef, ey⟩ := h2 hi
        subst ef ey
        have hB' := hB.step hb hi1 hi2
        have ht := sm_get (f := cc m w e.1 s) hi1
        have htb := tot_lt hok
        have hqb := hB.lt
        have hpq := hB.hp
        have b25 : (2 : Nat) ^ 25 ≤ 2 ^ 4000 := Nat.pow_le_pow_right (by decide) (by decide)
        have tv := times_ev (a := p / Nat.gcd p q) (b := q / Nat.gcd p q) (c := cc m w e.1 s e.2 / Nat.gcd (cc m w e.1 s e.2) (sm m (cc m w e.1 s))) (d := sm m (cc m w e.1 s) / Nat.gcd (cc m w e.1 s e.2) (sm m (cc m w e.1 s)))
          (Nat.div_pos (Nat.gcd_le_right _ hB.hq) (Nat.gcd_pos_of_pos_right _ hB.hq)) (Nat.div_pos (Nat.gcd_le_right _ (by omega)) (Nat.gcd_pos_of_pos_right _ (by omega)))
          (Nat.lt_of_le_of_lt (Nat.div_le_self _ _) (Nat.lt_of_le_of_lt hpq hqb)) (Nat.lt_of_le_of_lt (Nat.div_le_self _ _) hqb) (Nat.lt_of_le_of_lt (Nat.div_le_self _ _) (by omega)) (Nat.lt_of_le_of_lt (Nat.div_le_self _ _) (by omega))
        rw [dQ_mul hB.hq (by omega)] at tv
        have hb2 : (mSeq (mIf (mTru fBl (mOp (fEqN false) (mPk 7) (M.pure (.v d_NOUGHT)))) (mRet (M.pure (.v d_NOUGHT))) mNx)
    (mSeq (mAsg (mCall 2 F_times (mCons (mVar 3) (mCons (mVar 7) mNil))) (mSet 3))
    (mAsg (mVar 11) (mSet 2)))) (S1 m w R s p q e (dQ (cc m w e.1 s e.2) (sm m (cc m w e.1 s))) (a0 (dS m (wo (cs m w e.1 s) e.2)))) = .ok .nx (S1 m w R (wo (cs m w e.1 s) e.2) (p * cc m w e.1 s e.2) (q * sm m (cc m w e.1 s)) e (dQ (cc m w e.1 s e.2) (sm m (cc m w e.1 s))) (a0 (dS m (wo (cs m w e.1 s) e.2)))) := by
          refine seq_ok (if_f (tru_ok (op_ok rfl rfl (eqT false _ _ 0 1)) ?_) rfl) ?_
          · show some _ = some false
            have := div_ne (q := sm m (cc m w e.1 s)) hi2
            simp [this]
          · exact seq_ok (asg_ok (call_ok (ds := [dQ p q, dQ (cc m w e.1 s e.2) (sm m (cc m w e.1 s))]) rfl rfl tv) rfl) rfl
        rw [hb2, hw]
        exact chance_loop r _ _ _ (i + 1) _ _ (fun e he => ho e (List.mem_cons_of_mem _ he)) hB' (.inr ⟨_, rfl⟩) rfl
      · have hw : wk m w (e :: r) s p q = none := if_neg fun z => hi (List.mem_filter.mpr ⟨List.mem_range.mpr z.1, decide_eq_true z.2⟩)
        rw [hw, h3 hi]
        refine ⟨S1 m w R s p q e d_NOUGHT y, ?_⟩
        have hb2 : (mSeq (mIf (mTru fBl (mOp (fEqN false) (mPk 7) (M.pure (.v d_NOUGHT)))) (mRet (M.pure (.v d_NOUGHT))) mNx)
    (mSeq (mAsg (mCall 2 F_times (mCons (mVar 3) (mCons (mVar 7) mNil))) (mSet 3))
    (mAsg (mVar 11) (mSet 2)))) (S1 m w R s p q e d_NOUGHT y) = .ok (.rt (.val d_NOUGHT)) (S1 m w R s p q e d_NOUGHT y) :=
          seq_rt (if_t (tru_ok (op_ok rfl rfl (eqT false 0 1 0 1)) rfl) rfl)
        rw [hb2]
theorem chance_of_ev {m : Nat} {w : Nat → Nat} {r : Rec} {i : Nat} (ho : RecOk r) (hB : Bd m w w 1 1 r.length i) : Val F_chance_of [a0 (dW m w), a0 (lR r)] (.val (match wk m w r w 1 1 with | none => d_NOUGHT | some z => dQ z.1 z.2.1)) := by
  have e1 : d_ONE = dQ 1 1 := by simp [dQ]
  obtain ⟨ρ', h⟩ := chance_loop (R := lR r) r w 1 1 i .any [a0 (dW m w), a0 (lR r), a0 (dS m w), a0 (dQ 1 1), .any, .any, .any, .any, .any, .any, .any, .any] ho hB (.inl rfl) rfl
  refine val_run (ρ := ρ') ?_
  refine seq_ok (ρ1 := [a0 (dW m w), a0 (lR r), a0 (dS m w), .any, .any, .any, .any, .any, .any, .any, .any, .any]) (asg_ok (call_ok (ds := [dW m w]) rfl rfl (full_ev hB.hm)) rfl) ?_
  refine seq_ok (ρ1 := [a0 (dW m w), a0 (lR r), a0 (dS m w), a0 (dQ 1 1), .any, .any, .any, .any, .any, .any, .any, .any]) (by rw [← e1]; rfl) ?_
  cases hk : wk m w r w 1 1 with
  | none =>
    rw [hk] at h
    exact seq_rt (for_ok (sit_ok (fz_v rfl) rfl) h)
  | some z =>
    rw [hk] at h
    exact seq_ok (for_ok (sit_ok (fz_v rfl) rfl) h.1) (ret_ok h.2)
end K62
set_option Elab.async false
set_option linter.all false
set_option maxRecDepth 100000
set_option maxHeartbeats 2000000
namespace K62
open PySem PySem.Spec PyProof.Rows L2 Pd
variable {ρ ρ1 : Rho}
/-! ### rows of judges, card by card -/
def rowl (c : Nat → Nat) (m : Nat) : List Nat := (List.range m).flatMap fun k => List.replicate (c k) k
theorem rowl_succ (c : Nat → Nat) (m : Nat) : rowl c (m + 1) = rowl c m ++ List.replicate (c m) m := by
  unfold rowl
  rw [List.range_succ, List.flatMap_append]
  simp
theorem rowl_len (c : Nat → Nat) : ∀ m, (rowl c m).length = pre c m
  | 0 => rfl
  | m + 1 => by rw [rowl_succ, List.length_append, List.length_replicate, rowl_len c m, pre_succ]
theorem rowl_at {c : Nat → Nat} : ∀ {m d n : Nat}, (rowl c m)[d]? = some n → ∃ r, r < c n ∧ d = pre c n + r ∧ n < m
  | 0, d, n, h => by simp [rowl] at h
  | m + 1, d, n, h => by
    rw [rowl_succ] at h
    by_cases hd : d < pre c m
    · rw [List.getElem?_append_left (by rw [rowl_len]; exact hd)] at h
      obtain ⟨r, h1, h2, h3⟩ := rowl_at h
      exact ⟨r, h1, h2, by omega⟩
    · rw [List.getElem?_append_right (by rw [rowl_len]; omega), rowl_len, List.getElem?_replicate] at h
      split at h
      · rename_i y
        have e : m = n := Option.some.inj h
        subst e
        exact ⟨d - pre c m, y, by omega, by omega⟩
      · cases h
theorem rowl_lt {c : Nat → Nat} {m d : Nat} (h : d < pre c m) : ∃ n, (rowl c m)[d]? = some n := by
  rw [← rowl_len] at h
  exact ⟨_, List.getElem?_eq_getElem h⟩
theorem rowl_count (c : Nat → Nat) (n : Nat) : ∀ m, (rowl c m).count n = if n < m then c n else 0
  | 0 => by simp [rowl]
  | m + 1 => by
    rw [rowl_succ, List.count_append, rowl_count c n m, List.count_replicate]
    by_cases h1 : n < m
    · have h2 : (m == n) = false := by
        rw [beq_eq_false_iff_ne]
        omega
      have h3 : n < m + 1 := by omega
      simp [h1, h2, h3]
    · by_cases h2 : m = n
      · subst h2; simp
      · have h3 : (m == n) = false := by rw [beq_eq_false_iff_ne]; exact h2
        have h4 : ¬ n < m + 1 := by omega
        simp [h1, h3, h4]
theorem rowl_mem {c : Nat → Nat} {m n : Nat} (h : n ∈ rowl c m) : n < m ∧ 0 < c n := by
  obtain ⟨k, hk, h⟩ := List.mem_flatMap.mp h
  obtain ⟨h1, h2⟩ := List.mem_replicate.mp h
  subst h2
  exact ⟨List.mem_range.mp hk, by omega⟩
/-- the places of a name -/
def plc (l : List Nat) (n : Nat) : List Nat := (List.range l.length).filter fun k => decide (l[k]? = some n)
theorem plc_snoc (l : List Nat) (x n : Nat) : plc (l ++ [x]) n = plc l n ++ if x = n then [l.length] else [] := by
  unfold plc
  rw [List.length_append, List.length_singleton, List.range_succ, List.filter_append]
  congr 1
  · refine List.filter_congr fun k hk => ?_
    have := List.mem_range.mp hk
    rw [List.getElem?_append_left this]
  · by_cases h : x = n
    · simp [h]
    · simp [h]
theorem plc_len (l : List Nat) (n : Nat) : (plc l n).length = l.count n := by
  induction h : l.length generalizing l with
  | zero =>
    have : l = [] := List.length_eq_zero_iff.mp h
    subst this
    rfl
  | succ k ih =>
    obtain ⟨ys, y, e⟩ : ∃ ys y, l = ys ++ [y] := ⟨l.dropLast, l.getLast (by intro z; rw [z] at h; cases h), (List.dropLast_concat_getLast _).symm⟩
    subst e
    rw [plc_snoc, List.length_append, List.count_append, ih ys (by simpa using h)]
    by_cases z : y = n
    · subst z; simp
    · simp [z]
theorem plc_mem {l : List Nat} {n d : Nat} (h : d ∈ plc l n) : l[d]? = some n := of_decide_eq_true (List.mem_filter.mp h).2
/-! ### the able, one by one -/
abbrev al (m : Nat) (b : List Nat) : List Nat := (List.range m).filter fun k => !decide (k ∈ b)
theorem al_sum (b : List Nat) (s : Nat → Nat) : ∀ l : List Nat, ((l.filter fun k => !decide (k ∈ b)).map s).sum = (l.map (ct b s)).sum
  | [] => rfl
  | k :: l => by
    by_cases h : k ∈ b
    · rw [List.filter_cons_of_neg (by simp [h]), List.map_cons, List.sum_cons, al_sum b s l]
      unfold ct
      simp [h]
    · rw [List.filter_cons_of_pos (by simp [h]), List.map_cons, List.sum_cons, List.map_cons, List.sum_cons, al_sum b s l]
      unfold ct
      simp [h]
theorem al_row (b : List Nat) (s : Nat → Nat) : ∀ l : List Nat, ((l.filter fun k => !decide (k ∈ b)).flatMap fun k => List.replicate (s k) k) = l.flatMap fun k => List.replicate (ct b s k) k
  | [] => rfl
  | k :: l => by
    by_cases h : k ∈ b
    · rw [List.filter_cons_of_neg (by simp [h]), List.flatMap_cons, al_row b s l]
      unfold ct
      simp [h]
    · rw [List.filter_cons_of_pos (by simp [h]), List.flatMap_cons, List.flatMap_cons, al_row b s l]
      unfold ct
      simp [h]
theorem foldl_app (f : Nat → List Nat) : ∀ (l : List Nat) (z : List Nat), l.foldl (fun z k => z ++ f k) z = z ++ l.flatMap f
  | [], z => by simp
  | k :: l, z => by rw [List.foldl_cons, foldl_app f l, List.flatMap_cons, List.append_assoc]
theorem flat_le {f : Nat → List Nat} {B : Nat} : ∀ {l : List Nat}, (∀ k ∈ l, (f k).length ≤ B) → (l.flatMap f).length ≤ l.length * B
  | [], _ => by simp
  | k :: l, h => by
    rw [List.flatMap_cons, List.length_append, List.length_cons, Nat.succ_mul]
    have h1 := h k List.mem_cons_self
    have h2 := flat_le (l := l) fun y hy => h y (List.mem_cons_of_mem _ hy)
    omega
abbrev row (m : Nat) (w s : Nat → Nat) (b : List Nat) : List Nat := rowl (cc m w b s) m
abbrev fil (m : Nat) (s : Nat → Nat) (b : List Nat) : Nat := if sm m (ct b s) = 0 then 1 else 0
abbrev oN (l : List Nat) : Sl := o0 (l.map iN)
abbrev rN (l : List Nat) : Rv := .own ((l.map iN).map Rv.val)
abbrev rS (m : Nat) (s : Nat → Nat) : Rv := .own (((List.range m).map fun k => iN (s k)).map Rv.val)
abbrev oS (m : Nat) (s : Nat → Nat) : Sl := o0 ((List.range m).map fun k => iN (s k))
theorem step_ev {m : Nat} {w s : Nat → Nat} {b : List Nat} (h : Ok m w s b) : Val F__law_step [a0 (dW m w), a0 (dS m s), a0 (dB b)] (.tup [rS m (cs m w b s), rN (row m w s b), .val (iN (fil m s b))]) := by
  have hm := h.hm
  have hal : (al m b).length ≤ 8 := Nat.le_trans (List.length_filter_le _ _) (by rw [List.length_range]; exact hm)
  refine val_run (ρ := [a0 (dW m w), a0 (dS m s), a0 (dB b), a0 (.lst ((al m b).map iN)), .any, .any, .any, .any]) ?_
  have h1 : mLc (mRng1 (mCons (mCl fLen (mCons (mPk 0) mNil)) mNil)) (mSet 7) (mTru fBl (mOp (fIn true) (mOp fIx (mOp fIx (mPk 0) (mPk 7)) (M.pure (.v (.int 0)))) (mPk 2))) (mVar 7) [7] [a0 (dW m w), a0 (dS m s), a0 (dB b), .any, .any, .any, .any, .any] = .ok (.o ((al m b).map iN)) [a0 (dW m w), a0 (dS m s), a0 (dB b), .any, .any, .any, .any, .any] := by
    refine lc_fil (xs := List.range m) iN (fun k => !decide (k ∈ b)) iN (ρ1 := [a0 (dW m w), a0 (dS m s), a0 (dB b), .any, .any, .any, .any, .any]) (rng1_ok (n := m) ?_ (by omega)) (by rw [List.length_range]; omega) rfl rfl rfl fun k hk => ?_
    · refine cons_ok (cl_ok (cons_ok rfl nil_ok) (Eq.trans len_t ?_)) nil_ok
      rw [List.length_map, List.length_range]
    · have hk := List.mem_range.mp hk
      exact ⟨_, [a0 (dW m w), a0 (dS m s), a0 (dB b), .any, .any, .any, .any, a0 (iN k)], rfl, tru_ok (op_ok (op_ok (op_ok rfl rfl (ixt hk)) rfl ixT0) rfl (inN true (by omega) h.hb)) rfl, rfl, fun _ => ⟨_, fz_v rfl, rfl⟩⟩
  have h3 : mSet 3 (.o ((al m b).map iN)) [a0 (dW m w), a0 (dS m s), a0 (dB b), .any, .any, .any, .any, .any] = some [a0 (dW m w), a0 (dS m s), a0 (dB b), oN (al m b), .any, .any, .any, .any] := rfl
  have h4 := asg_ok h1 h3
  refine seq_ok h4 ?_
  refine seq_ok (ρ1 := [a0 (dW m w), a0 (dS m s), a0 (dB b), oN (al m b), oS m s, .any, .any, .any]) (asg_ok (cl_ok (cons_ok rfl nil_ok) listOf_t) rfl) ?_
  refine seq_ok (ρ1 := [a0 (dW m w), a0 (dS m s), a0 (dB b), oN (al m b), oS m s, a0 (iN 0), .any, .any]) rfl ?_
  refine seq_ok (ρ1 := [a0 (dW m w), a0 (dS m s), a0 (dB b), a0 (.lst ((al m b).map iN)), oS m (cs m w b s), a0 (iN (fil m s b)), .any, .any]) ?_ ?_
  · refine if_d (k := decide (sm m (ct b s) = 0)) (ρ1 := [a0 (dW m w), a0 (dS m s), a0 (dB b), a0 (.lst ((al m b).map iN)), oS m s, a0 (iN 0), .any, .any]) (tru_ok (op_ok (cl_ok (cons_ok (lc_all (xs := al m b) iN (fun k => iN (s k)) (ρ1 := [a0 (dW m w), a0 (dS m s), a0 (dB b), a0 (.lst ((al m b).map iN)), oS m s, a0 (iN 0), .any, .any]) (sit_ok (fz_pk rfl (var_o rfl)) rfl) (by omega) rfl rfl rfl fun k hk => ?_) nil_ok) (t := .v (iN (sm m (ct b s)))) ?_) rfl (eqN false _ 0)) rfl) (fun e => ?_) fun e => ?_
    · have hk := List.mem_range.mp (List.mem_filter.mp hk).1
      exact ⟨_, _, rfl, fz_v (fz_v (op_ok rfl rfl (ixo (f := fun k => iN (s k)) (m := m) rfl hk))), rfl⟩
    · refine Eq.trans (sum_ok (ns := (al m b).map s) (by rw [elsF_o, List.map_map]; rfl)) ?_
      rw [show ((al m b).map s).sum = sm m (ct b s) from al_sum b s (List.range m)]
    · have e := of_decide_eq_true e
      rw [cs_t e, show fil m s b = 1 from if_pos e]
      refine seq_ok (ρ1 := [a0 (dW m w), a0 (dS m s), a0 (dB b), a0 (.lst ((al m b).map iN)), oS m (fun k => s k + w k), a0 (iN 0), .any, .any]) (asg_ok (lc_all (xs := List.range m) iN (fun k => iN (s k + w k)) (ρ1 := [a0 (dW m w), a0 (dS m s), a0 (dB b), a0 (.lst ((al m b).map iN)), oS m s, a0 (iN 0), .any, .any]) (rng1_ok (n := m) ?_ (by omega)) (by rw [List.length_range]; omega) rfl rfl rfl fun k hk => ?_) rfl) rfl
      · refine cons_ok (cl_ok (cons_ok rfl nil_ok) (Eq.trans len_t ?_)) nil_ok
        rw [List.length_map, List.length_range]
      · have hk := List.mem_range.mp hk
        exact ⟨_, _, rfl, fz_v (fz_v (op_ok (op_ok rfl rfl (ixo (f := fun k => iN (s k)) (m := m) rfl hk)) (op_ok (op_ok rfl rfl (ixt hk)) rfl ixT1) (addN _ _))), rfl⟩
    · have e := of_decide_eq_false e
      rw [cs_f e, show fil m s b = 0 from if_neg e]
      rfl
  refine seq_ok (ρ1 := [a0 (dW m w), a0 (dS m s), a0 (dB b), a0 (.lst ((al m b).map iN)), oS m (cs m w b s), a0 (iN (fil m s b)), oN [], .any]) rfl ?_
  have hrow : (al m b).foldl (fun z k => z ++ List.replicate (cs m w b s k) k) [] = row m w s b := by
    rw [foldl_app, List.nil_append, al_row b (cs m w b s) (List.range m)]
    rfl
  refine seq_ok (ρ1 := [a0 (dW m w), a0 (dS m s), a0 (dB b), a0 (.lst ((al m b).map iN)), oS m (cs m w b s), a0 (iN (fil m s b)), oN (row m w s b), .any]) (for_ok (sit_ok (fz_v rfl) rfl) ?_) (ret_ok (cl_ok (cons_ok rfl (cons_ok rfl (cons_ok rfl nil_ok))) rfl))
  rw [← hrow]
  refine mLoop_fold iN (fun z => [a0 (dW m w), a0 (dS m s), a0 (dB b), a0 (.lst ((al m b).map iN)), oS m (cs m w b s), a0 (iN (fil m s b)), oN z, .any]) (fun z k => z ++ List.replicate (cs m w b s k) k) (al m b) [] _ rfl fun pr k post hpk => ?_
  have hk : k < m := List.mem_range.mp (List.mem_filter.mp (show k ∈ al m b by rw [hpk]; simp)).1
  have hmem : ∀ x ∈ pr, x < m := fun x hx => List.mem_range.mp (List.mem_filter.mp (show x ∈ al m b by rw [hpk]; simp [hx])).1
  have hlen : (pr.flatMap fun k => List.replicate (cs m w b s k) k).length ≤ pr.length * 2000 := flat_le fun x hx => by
    rw [List.length_replicate]
    have := cs_lt' h x (hmem x hx)
    omega
  have hprl : pr.length < 8 := by
    have : (al m b).length = (pr ++ k :: post).length := by rw [hpk]
    rw [List.length_append, List.length_cons] at this
    omega
  have hc := cs_lt' h k hk
  rw [List.foldl_append, foldl_app, List.nil_append, List.foldl_cons, List.foldl_nil]
  refine ⟨[a0 (dW m w), a0 (dS m s), a0 (dB b), a0 (.lst ((al m b).map iN)), oS m (cs m w b s), a0 (iN (fil m s b)), oN (pr.flatMap fun k => List.replicate (cs m w b s k) k), a0 (iN k)], [a0 (dW m w), a0 (dS m s), a0 (dB b), a0 (.lst ((al m b).map iN)), oS m (cs m w b s), a0 (iN (fil m s b)), oN ((pr.flatMap fun k => List.replicate (cs m w b s k) k) ++ List.replicate (cs m w b s k) k), a0 (iN k)], rfl, .inl ?_, rfl⟩
  refine asg_ok (op_ok rfl (op_ok (cl_ok (cons_ok rfl nil_ok) rfl) (op_ok rfl rfl (ixo (f := fun k => iN (cs m w b s k)) (m := m) rfl hk)) (rep1 (d := iN k) (by omega))) (catL_o rfl ?_)) ?_
  · rw [List.length_map, List.length_replicate]
    omega
  · have e : oN ((pr.flatMap fun k => List.replicate (cs m w b s k) k) ++ List.replicate (cs m w b s k) k) = o0 ((pr.flatMap fun k => List.replicate (cs m w b s k) k).map iN ++ List.replicate (cs m w b s k) (iN k)) := by
      show o0 (((pr.flatMap fun k => List.replicate (cs m w b s k) k) ++ List.replicate (cs m w b s k) k).map iN) = _
      rw [List.map_append, List.map_replicate]
    rw [e]
    rfl
end K62
set_option Elab.async false
set_option linter.all false
set_option maxRecDepth 100000
set_option maxHeartbeats 2000000
namespace K62
open PySem PySem.Spec PyProof.Rows L2 Pd
variable {ρ ρ1 : Rho}
/-! ### the law's own deal -/
theorem ldeal_ev {m : Nat} {w s : Nat → Nat} {b : List Nat} {d j : Nat} (h : Ok m w s b) (hz : 0 < sm m (cc m w b s)) (hd : (row m w s b)[d % sm m (cc m w b s)]? = some j) :
    Val F__law_deal [a0 (dW m w), a0 (dS m s), a0 (dB b), a0 (iN d)] (.val (.tup [iN j, dS m (wo (cs m w b s) j), iN (fil m s b)])) := by
  have hm := h.hm
  obtain ⟨r, hr, _, hj⟩ := rowl_at hd
  have hlen : (row m w s b).length = sm m (cc m w b s) := rowl_len _ _
  have hdl : d % sm m (cc m w b s) < (row m w s b).length := by rw [hlen]; exact Nat.mod_lt _ hz
  have hget : (row m w s b)[d % sm m (cc m w b s)] = j := by
    rw [List.getElem?_eq_getElem hdl] at hd
    exact Option.some.inj hd
  have h1 := cc_le (m := m) (w := w) (s := s) (b := b) j
  refine val_run (ρ := [a0 (dW m w), a0 (dS m s), a0 (dB b), a0 (iN d), oS m (wo (cs m w b s) j), oN (row m w s b), a0 (iN (fil m s b)), a0 (iN j)]) ?_
  refine seq_ok (ρ1 := [a0 (dW m w), a0 (dS m s), a0 (dB b), a0 (iN d), oS m (cs m w b s), oN (row m w s b), a0 (iN (fil m s b)), .any]) (asg_ok (call_ok (ds := [dW m w, dS m s, dB b]) rfl rfl (step_ev h)) rfl) ?_
  refine seq_ok (ρ1 := [a0 (dW m w), a0 (dS m s), a0 (dB b), a0 (iN d), oS m (cs m w b s), oN (row m w s b), a0 (iN (fil m s b)), a0 (iN j)]) (asg_ok (t := .v (iN j)) (op_ok rfl (op_ok rfl (cl_ok (cons_ok rfl nil_ok) (len_o rfl)) (t := .v (iN (d % sm m (cc m w b s)))) (Eq.trans (modN d _ (by rw [List.length_map, hlen]; exact hz)) (by rw [List.length_map, hlen]))) (Eq.trans (ixL_at (e := iN) (elsF_pk rfl) hdl) (by rw [hget]))) rfl) ?_
  refine seq_ok (setIx_ok (i := 4) (f := fun k => iN (cs m w b s k)) (g := fun k => iN (wo (cs m w b s) j k)) (m := m) (j := j) (ρ1 := [a0 (dW m w), a0 (dS m s), a0 (dB b), a0 (iN d), oS m (cs m w b s), oN (row m w s b), a0 (iN (fil m s b)), a0 (iN j)]) (op_ok (op_ok rfl rfl (ixo (f := fun k => iN (cs m w b s k)) (m := m) rfl hj)) rfl ?_) rfl rfl hj fun k hk hkj => ?_) ?_
  · refine Eq.trans (subN _ 1 (by omega)) ?_
    show some (Pd.Tm.v (iN (cs m w b s j - 1))) = some (Pd.Tm.v (iN (wo (cs m w b s) j j)))
    unfold wo
    rw [if_pos rfl]
  · show iN (wo (cs m w b s) j k) = iN (cs m w b s k)
    unfold wo
    rw [if_neg hkj]
  · exact ret_ok (cl_ok (cons_ok rfl (cons_ok (cl_ok (cons_ok rfl nil_ok) (tupOf_pk (i := 4) (ds := (List.range m).map fun k => iN (wo (cs m w b s) j k)) rfl)) (cons_ok rfl nil_ok))) rfl)
/-! ### lowest terms by Euclid -/
abbrev bE : M Fl := (mSeq (mIf (mTru fBl (mOp (fEqN false) (mPk 3) (M.pure (.v (.int 0))))) mBk mNx)
    (mSeq (mAsg (mOp fMod (mPk 2) (mPk 3)) (mSet 5))
    (mSeq (mAsg (mVar 3) (mSet 2))
    (mAsg (mVar 5) (mSet 3)))))
abbrev SE (p q a b : Nat) : Rho := [a0 (iN p), a0 (iN q), a0 (iN a), a0 (iN b), .any, .any]
theorem bE_brk {p q a : Nat} {d : D} : bE [a0 (iN p), a0 (iN q), a0 (iN a), a0 (iN 0), a0 d, .any] = .ok .bk [a0 (iN p), a0 (iN q), a0 (iN a), a0 (iN 0), a0 d, .any] := by
  have h : mIf (mTru fBl (mOp (fEqN false) (mPk 3) (M.pure (.v (.int 0))))) mBk mNx [a0 (iN p), a0 (iN q), a0 (iN a), a0 (iN 0), a0 d, .any] = .ok .bk [a0 (iN p), a0 (iN q), a0 (iN a), a0 (iN 0), a0 d, .any] := if_t (tru_ok (op_ok rfl rfl (eqN false 0 0)) rfl) rfl
  exact (bind_ok h).trans rfl
theorem bE_step {p q a b : Nat} {d : D} (hb : b ≠ 0) : bE [a0 (iN p), a0 (iN q), a0 (iN a), a0 (iN b), a0 d, .any] = .ok .nx [a0 (iN p), a0 (iN q), a0 (iN b), a0 (iN (a % b)), a0 d, a0 (iN (a % b))] := by
  refine seq_ok (if_f (tru_ok (op_ok rfl rfl (eqN false b 0)) (show some _ = some false by simp [hb])) rfl) ?_
  refine seq_ok (ρ1 := [a0 (iN p), a0 (iN q), a0 (iN a), a0 (iN b), a0 d, a0 (iN (a % b))]) (asg_ok (op_ok rfl rfl (modN a b (by omega))) rfl) ?_
  exact seq_ok (asg_ok rfl rfl) (asg_ok rfl rfl)
theorem mod_half {a b : Nat} (hb : 0 < b) (h : a % b ≠ 0) : 2 * (b % (a % b)) < b := by
  have h1 : a % b < b := Nat.mod_lt _ hb
  have h2 : b % (a % b) < a % b := Nat.mod_lt _ (by omega)
  have h3 : b % (a % b) ≤ b - a % b := by
    have := Nat.mod_le (b - a % b) (a % b)
    rw [← Nat.mod_eq_sub_mod (by omega)] at this
    exact this
  omega
theorem eu_loop {p q : Nat} : ∀ (n a b : Nat) (ds : List D) (ρ : Rho), b < 2 ^ n → 2 * n + 1 ≤ ds.length → fgt [4, 5] ρ = some (SE p q a b) →
    ∃ y, mLoop (mSet 4) bE [4, 5] ds ρ = .ok .nx [a0 (iN p), a0 (iN q), a0 (iN (Nat.gcd a b)), y, .any, .any]
  | n, a, 0, d :: ds, ρ, _, _, hf => by
    refine ⟨a0 (iN 0), ?_⟩
    rw [mLoop_cons (ρa := [a0 (iN p), a0 (iN q), a0 (iN a), a0 (iN 0), a0 d, .any]) hf rfl, bE_brk, Nat.gcd_zero_right]
    rfl
  | n, a, b, [], ρ, _, hl, _ => by simp at hl
  | 0, a, b + 1, d :: ds, ρ, h, _, _ => by simp at h
  | n + 1, a, b + 1, d :: ds, ρ, h, hl, hf => by
    rw [mLoop_cons (ρa := [a0 (iN p), a0 (iN q), a0 (iN a), a0 (iN (b + 1)), a0 d, .any]) hf rfl, bE_step (by omega)]
    have eg : Nat.gcd a (b + 1) = Nat.gcd (b + 1) (a % (b + 1)) := by
      rw [Nat.gcd_comm, Nat.gcd_rec, Nat.gcd_comm]
    rw [eg]
    by_cases hr : a % (b + 1) = 0
    · rw [hr]
      match ds, hl with
      | d2 :: ds, _ =>
        refine ⟨a0 (iN 0), ?_⟩
        show mLoop _ _ _ _ _ = _
        rw [mLoop_cons (ρ0 := SE p q (b + 1) 0) (ρa := [a0 (iN p), a0 (iN q), a0 (iN (b + 1)), a0 (iN 0), a0 d2, .any]) rfl rfl, bE_brk, Nat.gcd_zero_right]
        rfl
      | [], hl => simp at hl
    · match ds, hl with
      | [], hl => simp at hl
      | d2 :: ds, hl =>
        show ∃ y, mLoop _ _ _ _ _ = _
        rw [mLoop_cons (ρ0 := SE p q (b + 1) (a % (b + 1))) (ρa := [a0 (iN p), a0 (iN q), a0 (iN (b + 1)), a0 (iN (a % (b + 1))), a0 d2, .any]) rfl rfl, bE_step hr]
        have eg2 : Nat.gcd (b + 1) (a % (b + 1)) = Nat.gcd (a % (b + 1)) ((b + 1) % (a % (b + 1))) := by
          rw [Nat.gcd_comm, Nat.gcd_rec, Nat.gcd_comm]
        rw [eg2]
        have hh := mod_half (a := a) (b := b + 1) (by omega) hr
        exact eu_loop n _ _ ds _ (by rw [Nat.pow_succ] at h; omega) (by simp at hl; omega) rfl
theorem llowest_ev {p q : Nat} (hq : 0 < q) (h : q < 2 ^ 8000) (hp : p < 2 ^ 199) : Val F__law_lowest [a0 (iN p), a0 (iN q)] (.val (dQ p q)) := by
  have hg : 0 < Nat.gcd p q := Nat.gcd_pos_of_pos_right p hq
  obtain ⟨y, hy⟩ := eu_loop (p := p) (q := q) 199 q p ((List.range 400).map fun (i : Nat) => D.int (i : Int)) [a0 (iN p), a0 (iN q), a0 (iN q), a0 (iN p), .any, .any] hp (by rw [List.length_map, List.length_range]; decide) rfl
  rw [Nat.gcd_comm] at hy
  refine val_run (ρ := [a0 (iN p), a0 (iN q), a0 (iN (Nat.gcd p q)), y, .any, .any]) ?_
  refine seq_ok (ρ1 := [a0 (iN p), a0 (iN q), a0 (iN q), .any, .any, .any]) rfl ?_
  refine seq_ok (ρ1 := [a0 (iN p), a0 (iN q), a0 (iN q), a0 (iN p), .any, .any]) rfl ?_
  have hit : mRng1 (mCons (M.pure (.v (.int 400))) mNil) [a0 (iN p), a0 (iN q), a0 (iN q), a0 (iN p), .any, .any] = .ok ((List.range 400).map fun (i : Nat) => D.int (i : Int)) [a0 (iN p), a0 (iN q), a0 (iN q), a0 (iN p), .any, .any] := rng1_ok (n := 400) (cons_ok rfl nil_ok) (by decide)
  refine seq_ok (for_ok hit hy) ?_
  exact ret_ok (cl_ok (cons_ok (op_ok rfl rfl (divN p _ hg (gcd_small hq h))) (cons_ok (op_ok rfl rfl (divN q _ hg (gcd_small hq h))) nil_ok)) rfl)
/-! ### is it so -/
theorem isi_ii : isTy "int" "int" = some true := by decide +kernel
theorem isi_ib : isTy "int" "bool" = some false := by decide +kernel
theorem isi_tt : isTy "tuple" "tuple" = some true := by decide +kernel
theorem int_ev {n : Nat} : Val F__law_int [a0 (iN n)] (.val (.bl true)) := by
  refine val_run (ρ := [a0 (iN n)]) ?_
  refine ret_ok (andV_t (tru_ok (un_ok (t := .v (.bl true)) rfl ?_) rfl) (Eq.trans (notV_ok (b := false) (ρ1 := [a0 (iN n)]) (tru_ok (un_ok (t := .v (.bl false)) rfl ?_) rfl)) rfl))
  · show (isTy "int" "int").map (fun b => Pd.Tm.v (.bl b)) = _
    rw [isi_ii]
    rfl
  · show (isTy "int" "bool").map (fun b => Pd.Tm.v (.bl b)) = _
    rw [isi_ib]
    rfl
theorem isi_tup {ds : List D} : fIsi "tuple" (.v (.tup ds)) ρ = some (.v (.bl true)) := by
  show (isTy "tuple" "tuple").map (fun b => Pd.Tm.v (.bl b)) = _
  rw [isi_tt]
  rfl
theorem is_ev {a b c d : Nat} : Val F__law_is [a0 (.tup [iN a, iN b]), a0 (.tup [iN c, iN d])] (.val (.bl (decide (a = c) && decide (b = d)))) := by
  refine val_run (ρ := [a0 (.tup [iN a, iN b]), a0 (.tup [iN c, iN d]), .any]) ?_
  refine seq_ok (ρ1 := [a0 (.tup [iN a, iN b]), a0 (.tup [iN c, iN d]), .any]) (if_f (or_f (not_ok (b := true) (tru_ok (un_ok rfl isi_tup) rfl)) (or_f (tru_ok (op_ok (cl_ok (cons_ok rfl nil_ok) len_t) rfl (eqN true 2 2)) rfl) (tru_ok (op_ok rfl (lc_all (xs := [a, b]) iN (fun _ => D.bl true) (sit_ok (fz_v rfl) rfl) (by simp) rfl rfl rfl fun k hk => ?_) (t := .v (.bl false)) ?_) rfl))) rfl) ?_
  · exact ⟨_, _, rfl, fz_v (fz_v (call_ok (ds := [iN k]) rfl rfl int_ev)), rfl⟩
  · show fIn false (.v (.bl false)) (.o [.bl true, .bl true]) _ = some (.v (.bl false))
    simp [fIn, Pd.orF, fInT, fInL, Tm.dat, Tm.r, Tm.tels, Tm.elsF, Rv.tels, Rv.elsF, Rv.els, flat, Rv.toD, Pd.when, D.dep, D.deps, inD, D.py, PyData.eqv]
  · by_cases h : a = c
    · refine ret_ok (andV_t (tru_ok (op_ok (op_ok rfl rfl ixT0) (op_ok rfl rfl ixT0) (eqN false a c)) (show some _ = some true by simp [h])) (Eq.trans (op_ok (op_ok rfl rfl ixT1) (op_ok rfl rfl ixT1) (eqN false b d)) ?_))
      simp [h]
    · refine ret_ok (Eq.trans (andV_f (tru_ok (op_ok (op_ok rfl rfl ixT0) (op_ok rfl rfl ixT0) (eqN false a c)) (show some _ = some false by simp [h]))) ?_)
      simp [h]
end K62
set_option Elab.async false
set_option linter.all false
set_option maxRecDepth 100000
set_option maxHeartbeats 2000000
namespace K62
open PySem PySem.Spec PyProof.Rows L2 Pd
variable {ρ ρ1 : Rho}
theorem dat_o {ds : List D} : Tm.dat ρ (.o ds) = some (.lst ds) := by
  show some (Rv.own (ds.map Rv.val)).toD = _
  rw [toD_o]
theorem eqLS (neg : Bool) {x y : Pd.Tm} {a b : List Nat} (hx : x.dat ρ = some (.lst (a.map dN))) (hy : y.dat ρ = some (.lst (b.map dN))) (ha : ∀ x ∈ a, x < 10) (hb : ∀ x ∈ b, x < 10) : fEqN neg x y ρ = some (.v (.bl (if neg = true then !decide (a = b) else decide (a = b)))) := by
  have e : ∀ l : List Nat, D.lst (l.map dN) = encS.lst.e (l.map nm) := fun l => by
    show _ = D.lst ((l.map nm).map D.str)
    rw [List.map_map]
    rfl
  have hd : ∀ l : List Nat, (encS.lst.e (l.map nm)).dep ≤ 60 := fun l => by
    rw [← e]
    have := deps_map dN 0 l fun x _ => by simp [D.dep, nm_ok]
    simp only [D.dep]
    omega
  rw [eqEnc encS.lst neg (a := a.map nm) (b := b.map nm) (by rw [hx, e]) (by rw [hy, e]) (hd _) (hd _)]
  have : decide (a.map nm = b.map nm) = decide (a = b) := by
    by_cases h : a = b
    · simp [h]
    · rw [decide_eq_false h, decide_eq_false]
      intro z
      apply h
      clear h hx hy
      induction a generalizing b with
      | nil =>
        cases b with
        | nil => rfl
        | cons y b => cases z
      | cons x a ih =>
        cases b with
        | nil => cases z
        | cons y b =>
          rw [List.map_cons, List.map_cons] at z
          injection z with z1 z2
          rw [nm_inj (ha x List.mem_cons_self) (hb y List.mem_cons_self) z1, ih (fun x hx => ha x (List.mem_cons_of_mem _ hx)) (fun x hx => hb x (List.mem_cons_of_mem _ hx)) z2]
  rw [this]
theorem eqLN (neg : Bool) {x y : Pd.Tm} {a b : List Nat} (hx : x.dat ρ = some (.lst (a.map iN))) (hy : y.dat ρ = some (.lst (b.map iN))) : fEqN neg x y ρ = some (.v (.bl (if neg = true then !decide (a = b) else decide (a = b)))) := by
  have e : ∀ l : List Nat, D.lst (l.map iN) = encI.lst.e (l.map fun (n : Nat) => (n : Int)) := fun l => by
    show _ = D.lst ((l.map fun (n : Nat) => (n : Int)).map D.int)
    rw [List.map_map]
    rfl
  have hd : ∀ l : List Nat, (encI.lst.e (l.map fun (n : Nat) => (n : Int))).dep ≤ 60 := fun l => by
    rw [← e]
    have := deps_map iN 0 l fun x _ => by simp [D.dep]
    simp only [D.dep]
    omega
  rw [eqEnc encI.lst neg (a := a.map fun (n : Nat) => (n : Int)) (b := b.map fun (n : Nat) => (n : Int)) (by rw [hx, e]) (by rw [hy, e]) (hd _) (hd _)]
  have : decide ((a.map fun (n : Nat) => (n : Int)) = b.map fun (n : Nat) => (n : Int)) = decide (a = b) := by
    by_cases h : a = b
    · simp [h]
    · rw [decide_eq_false h, decide_eq_false]
      intro z
      apply h
      clear h hx hy
      induction a generalizing b with
      | nil =>
        cases b with
        | nil => rfl
        | cons y b => cases z
      | cons x a ih =>
        cases b with
        | nil => cases z
        | cons y b =>
          rw [List.map_cons, List.map_cons] at z
          injection z with z1 z2
          rw [Int.ofNat.inj z1, ih z2]
  rw [this]
theorem al_nil {m : Nat} {b : List Nat} : al m b = [] ↔ sm m (abl b) = 0 := by
  rw [able_zero, List.filter_eq_nil_iff]
  constructor
  · intro h k hk
    have := h k (List.mem_range.mpr hk)
    simpa using this
  · intro h k hk
    simpa using h k (List.mem_range.mp hk)
theorem lable_m {m : Nat} {w : Nat → Nat} {b : List Nat} (hm : m ≤ 8) (hb : ∀ x ∈ b, x < 10) : m__law_able [a0 (dW m w), a0 (dB b), .any] = .ok (.rt (.val (.bl (decide (sm m (abl b) ≠ 0))))) [a0 (dW m w), a0 (dB b), .any] := by
  have h1 : mLc (mSeqIt (mPk 0)) (mSet 2) (mTru fBl (mOp (fIn true) (mOp fIx (mPk 2) (M.pure (.v (.int 0)))) (mPk 1))) (mFz (mOp fIx (mPk 2) (M.pure (.v (.int 0))))) [2] [a0 (dW m w), a0 (dB b), .any] = .ok (.o ((al m b).map dN)) [a0 (dW m w), a0 (dB b), .any] := by
    refine lc_fil (xs := List.range m) (dP w) (fun k => !decide (k ∈ b)) dN (sit_ok (fz_v rfl) rfl) (by rw [List.length_range]; omega) rfl rfl rfl fun k hk => ?_
    have hk := List.mem_range.mp hk
    exact ⟨_, [a0 (dW m w), a0 (dB b), a0 (dP w k)], rfl, tru_ok (op_ok (op_ok rfl rfl ixT0) rfl (inN true (by omega) hb)) rfl, rfl, fun _ => ⟨_, fz_v (fz_v (op_ok rfl rfl ixT0)), rfl⟩⟩
  have h2 : fEqN true (.o ((al m b).map dN)) (.o []) [a0 (dW m w), a0 (dB b), .any] = some (.v (.bl (decide (sm m (abl b) ≠ 0)))) := by
    refine Eq.trans (eqLS true (a := al m b) (b := []) dat_o dat_o (fun x hx => ?_) (fun x hx => by cases hx)) ?_
    · have := List.mem_range.mp (List.mem_filter.mp hx).1
      omega
    · by_cases h : sm m (abl b) = 0
      · simp only [if_true, decide_eq_true (al_nil.mpr h)]
        simp [h]
      · have : ¬ al m b = [] := fun z => h (al_nil.mp z)
        simp only [if_true, decide_eq_false this]
        simp [h]
  exact ret_ok (op_ok h1 (ρ2 := [a0 (dW m w), a0 (dB b), .any]) (y := .o []) rfl h2)
theorem lable_ev {m : Nat} {w : Nat → Nat} {b : List Nat} (hm : m ≤ 8) (hb : ∀ x ∈ b, x < 10) : Val F__law_able [a0 (dW m w), a0 (dB b)] (.val (.bl (decide (sm m (abl b) ≠ 0)))) := val_run (ρ := [a0 (dW m w), a0 (dB b), .any]) (lable_m hm hb)
theorem lableG_ev {m : Nat} {w : Nat → Nat} {b : List Nat} (a : Addr) (hm : m ≤ 8) (hb : ∀ x ∈ b, x < 10) : Val (G__law_able a "Refused") [a0 (dW m w), a0 (dB b)] (.val (.bl (decide (sm m (abl b) ≠ 0)))) := by
  refine val_run (ρ := [a0 (dW m w), a0 (dB b), .any]) ?_
  have e : mx__law_able a "Refused" = m__law_able := if_pos rfl
  rw [e]
  exact lable_m hm hb
/-! ### the law's walk -/
def lastp (l : List Nat) (n : Nat) : Nat := ((plc l n).getLast?).getD 0
theorem lastp_ok {l : List Nat} {n : Nat} (h : plc l n ≠ []) : L2.atI ((plc l n).map iN) (-1) = some (iN (lastp l n)) ∧ l[lastp l n]? = some n := by
  have hl : 0 < (plc l n).length := List.length_pos_iff.mpr h
  have e : (plc l n).getLast? = some (plc l n)[(plc l n).length - 1] := by
    rw [List.getLast?_eq_getElem?, List.getElem?_eq_getElem (by omega)]
  have e2 : lastp l n = (plc l n)[(plc l n).length - 1] := by unfold lastp; rw [e]; rfl
  constructor
  · rw [atI_map]
    have h1 : ixN (plc l n).length (-1) = some ((plc l n).length - 1) := by
      unfold ixN
      rw [if_neg (by omega), if_pos (by omega)]
      congr 1
      omega
    unfold L2.atI
    rw [h1, Option.bind_some, List.getElem?_eq_getElem (by omega), e2]
    rfl
  · rw [e2]
    exact plc_mem (List.getElem_mem _)
def lgs (m : Nat) (w : Nat → Nat) : Rec → (Nat → Nat) → List D
  | [], _ => []
  | e :: r, s => .tup [.str "case", dB e.1, iN (lastp (row m w s e.1) e.2), dN e.2] :: lgs m w r (wo (cs m w e.1 s) e.2)
abbrev SC (m : Nat) (w : Nat → Nat) (R : D) (s : Nat → Nat) (p q : Nat) (L : List D) : Rho := [a0 (dW m w), a0 R, a0 (dS m s), a0 (iN p), a0 (iN q), o0 L, .any, .any, .any, .any, .any, .any, .any, .any, .any]
abbrev bLC : M Fl := (mSeq (mIf (mNot (mTru fTru (mCall 2 F__law_able (mCons (mVar 0) (mCons (mVar 7) mNil))))) (mRet (mTup (mCons (mTup (mCons (M.pure (.v (.int 0))) (mCons (M.pure (.v (.int 1))) mNil))) (mCons (M.pure (.v .non)) mNil)))) mNx)
    (mSeq (mAsg (mCall 3 F__law_step (mCons (mVar 0) (mCons (mVar 2) (mCons (mVar 7) mNil)))) (mUnp 3 [(mSet 9), (mSet 10), (mSet 11)]))
    (mSeq (mAsg (id (mLc (mRng1 (mCons (mCl fLen (mCons (mPk 10) mNil)) mNil)) (mSet 14) (mTru fBl (mOp (fEqN false) (mOp fIx (mOp fIx (mPk 0) (mOp fIx (mPk 10) (mPk 14))) (M.pure (.v (.int 0)))) (mPk 8))) (mVar 14) [14])) (mSet 12))
    (mSeq (mIf (mTru fBl (mOp (fEqN false) (mPk 12) (mLst mNil))) (mRet (mTup (mCons (mTup (mCons (M.pure (.v (.int 0))) (mCons (M.pure (.v (.int 1))) mNil))) (mCons (M.pure (.v .non)) mNil)))) mNx)
    (mSeq (mAsg (mOp fMul (mPk 3) (mCl fLen (mCons (mPk 12) mNil))) (mSet 3))
    (mSeq (mAsg (mOp fMul (mPk 4) (mCl fLen (mCons (mPk 10) mNil))) (mSet 4))
    (mSeq (mApp 5 (mTup (mCons (mVar 6) (mCons (mVar 7) (mCons (mFz (mOp fIx (mPk 12) (mUn fNeg (M.pure (.v (.int 1)))))) (mCons (mVar 8) mNil))))))
    (mAsg (mOp fIx (mCall 4 F__law_deal (mCons (mVar 0) (mCons (mVar 2) (mCons (mVar 7) (mCons (mFz (mOp fIx (mPk 12) (mUn fNeg (M.pure (.v (.int 1)))))) mNil))))) (M.pure (.v (.int 1)))) (mSet 2)))))))))
abbrev d_none : D := .tup [.tup [.int 0, .int 1], .non]
theorem app_ok {i : Nat} {me : M Pd.Tm} {ds : List D} {d : D} (h : me ρ = .ok (.v d) ρ1) (h0 : ρ[i]? = some (o0 ds)) (h1 : ρ1[i]? = some (o0 ds)) (hl : ds.length < 100000) : mApp i me ρ = .ok .nx (ρ1.set i (o0 (ds ++ [d]))) := by
  refine (bind_ok (lift_ok (a := ()) ?_)).trans ((bind_ok h).trans ((bind_ok (put_ok ?_)).trans rfl))
  · unfold isL
    rw [h0]
    rfl
  · unfold fApp
    rw [h1]
    show when ((ds.map Rv.val).length < 100000) (some (setR i (.own (ds.map Rv.val ++ [.val d])) ρ1)) = _
    rw [when_t (by rw [List.length_map]; exact hl)]
    unfold setR
    rw [h1]
    show some (ρ1.set i (.own (.own (ds.map Rv.val ++ [.val d])))) = some (ρ1.set i (.own (.own ((ds ++ [d]).map Rv.val))))
    rw [List.map_append]
    rfl
end K62
set_option Elab.async false
set_option linter.all false
set_option maxRecDepth 100000
set_option maxHeartbeats 2000000
namespace K62
open PySem PySem.Spec PyProof.Rows L2 Pd
variable {ρ ρ1 : Rho}
theorem plc_count {m : Nat} {w s : Nat → Nat} {b : List Nat} {n : Nat} : (plc (row m w s b) n).length = if n < m then cc m w b s n else 0 := by
  rw [plc_len, rowl_count]
theorem row_len {m : Nat} {w s : Nat → Nat} {b : List Nat} : (row m w s b).length = sm m (cc m w b s) := rowl_len _ _
theorem tot_small {m : Nat} {w s : Nat → Nat} {b : List Nat} (h : Ok m w s b) : sm m (cc m w b s) ≤ 16000 := by
  have h1 : sm m (cc m w b s) ≤ m * 2000 := sm_le fun k hk => by
    have := cs_lt' h k hk
    have := cc_le (m := m) (w := w) (s := s) (b := b) k
    omega
  have := h.hm
  omega
/-- a state of the body -/
abbrev SB (m : Nat) (w : Nat → Nat) (R : D) (s : Nat → Nat) (p q : Nat) (L : Sl) (e : List Nat × Nat) (x9 x10 x11 x12 : Sl) : Rho := [a0 (dW m w), a0 R, a0 (dS m s), a0 (iN p), a0 (iN q), L, a0 (.str "case"), a0 (dB e.1), a0 (dN e.2), x9, x10, x11, x12, .any, .any]
theorem places_ev {m : Nat} {w : Nat → Nat} {R : D} {s : Nat → Nat} {p q : Nat} {L x9 x11 : Sl} {e : List Nat × Nat} (h : Ok m w s e.1) (hn : e.2 < 10) :
    mLc (mRng1 (mCons (mCl fLen (mCons (mPk 10) mNil)) mNil)) (mSet 14) (mTru fBl (mOp (fEqN false) (mOp fIx (mOp fIx (mPk 0) (mOp fIx (mPk 10) (mPk 14))) (M.pure (.v (.int 0)))) (mPk 8))) (mVar 14) [14] (SB m w R s p q L e x9 (oN (row m w s e.1)) x11 .any) =
      .ok (.o ((plc (row m w s e.1) e.2).map iN)) (SB m w R s p q L e x9 (oN (row m w s e.1)) x11 .any) := by
  have hm := h.hm
  have ht := tot_small h
  have hlen := row_len (m := m) (w := w) (s := s) (b := e.1)
  have hit : mRng1 (mCons (mCl fLen (mCons (mPk 10) mNil)) mNil) (SB m w R s p q L e x9 (oN (row m w s e.1)) x11 .any) = .ok ((List.range (row m w s e.1).length).map fun (i : Nat) => D.int (i : Int)) (SB m w R s p q L e x9 (oN (row m w s e.1)) x11 .any) := by
    refine rng1_ok (cons_ok (cl_ok (cons_ok rfl nil_ok) (Eq.trans (len_o rfl) ?_)) nil_ok) (by omega)
    rw [List.length_map]
  refine lc_fil (xs := List.range (row m w s e.1).length) iN (fun k => decide ((row m w s e.1)[k]? = some e.2)) iN hit (by rw [List.length_range]; omega) rfl rfl rfl fun k hk => ?_
  have hk := List.mem_range.mp hk
  have hg : (row m w s e.1)[k]? = some (row m w s e.1)[k] := List.getElem?_eq_getElem hk
  obtain ⟨_, _, _, hj⟩ := rowl_at hg
  refine ⟨_, [a0 (dW m w), a0 R, a0 (dS m s), a0 (iN p), a0 (iN q), L, a0 (.str "case"), a0 (dB e.1), a0 (dN e.2), x9, oN (row m w s e.1), x11, .any, .any, a0 (iN k)], rfl, tru_ok (op_ok (op_ok (op_ok rfl (op_ok rfl rfl (ixL_at (e := iN) (elsF_pk rfl) hk)) (ixt hj)) rfl ixT0) rfl (eqNm false (by omega) hn)) ?_, rfl, fun _ => ⟨_, fz_v rfl, rfl⟩⟩
  show some _ = some _
  simp only [Bool.false_eq_true, if_false]
  rw [hg]
  simp
theorem lchance_loop {m : Nat} {w : Nat → Nat} {R : D} : ∀ (r : Rec) (s : Nat → Nat) (p q i : Nat) (L : List D) (ρ : Rho), RecOk r → Bd m w s p q r.length i → L.length + r.length ≤ 1000 → fgt [6, 7, 8, 9, 10, 11, 12] ρ = some (SC m w R s p q L) →
    ∃ ρ', match wk m w r s p q with
      | none => mLoop (mUnp 3 [(mSet 6), (mSet 7), (mSet 8)]) bLC [6, 7, 8, 9, 10, 11, 12] (r.map dE) ρ = .ok (.rt (.val d_none)) ρ'
      | some z => mLoop (mUnp 3 [(mSet 6), (mSet 7), (mSet 8)]) bLC [6, 7, 8, 9, 10, 11, 12] (r.map dE) ρ = .ok .nx (SC m w R z.2.2 z.1 z.2.1 (L ++ lgs m w r s))
  | [], s, p, q, i, L, ρ, _, _, _, hf => ⟨[], by
    show mLoop _ _ _ [] _ = _
    rw [show L ++ lgs m w [] s = L from List.append_nil L]
    exact mLoop_nil hf⟩
  | e :: r, s, p, q, i, L, ρ, ho, hB, hL, hf => by
    obtain ⟨hn, hb⟩ := ho e List.mem_cons_self
    have hok := hB.ok hb
    have hm := hB.hm
    have hcan : mCall 2 F__law_able (mCons (mVar 0) (mCons (mVar 7) mNil)) (SB m w R s p q (o0 L) e .any .any .any .any) = .ok (.rv (.val (.bl (decide (sm m (abl e.1) ≠ 0))))) (SB m w R s p q (o0 L) e .any .any .any .any) := call_ok (ds := [dW m w, dB e.1]) rfl rfl (lable_ev hm hb)
    rw [List.map_cons, mLoop_cons (ρa := SB m w R s p q (o0 L) e .any .any .any .any) hf rfl]
    by_cases hz : sm m (abl e.1) = 0
    · have hw : wk m w (e :: r) s p q = none := if_neg fun z => cc_able z.1 z.2 hz
      rw [hw]
      refine ⟨SB m w R s p q (o0 L) e .any .any .any .any, ?_⟩
      have hb1 : bLC (SB m w R s p q (o0 L) e .any .any .any .any) = .ok (.rt (.val d_none)) (SB m w R s p q (o0 L) e .any .any .any .any) :=
        seq_rt (if_t (not_ok (b := false) (tru_ok hcan (by show some _ = _; simp [hz]))) rfl)
      rw [hb1]
    · have hst : mAsg (mCall 3 F__law_step (mCons (mVar 0) (mCons (mVar 2) (mCons (mVar 7) mNil)))) (mUnp 3 [(mSet 9), (mSet 10), (mSet 11)]) (SB m w R s p q (o0 L) e .any .any .any .any) = .ok .nx (SB m w R s p q (o0 L) e (oS m (cs m w e.1 s)) (oN (row m w s e.1)) (a0 (iN (fil m s e.1))) .any) :=
        asg_ok (call_ok (ds := [dW m w, dS m s, dB e.1]) rfl rfl (step_ev hok)) rfl
      have hset : mSet 12 (.o ((plc (row m w s e.1) e.2).map iN)) (SB m w R s p q (o0 L) e (oS m (cs m w e.1 s)) (oN (row m w s e.1)) (a0 (iN (fil m s e.1))) .any) = some (SB m w R s p q (o0 L) e (oS m (cs m w e.1 s)) (oN (row m w s e.1)) (a0 (iN (fil m s e.1))) (oN (plc (row m w s e.1) e.2))) := rfl
      have hpl := asg_ok (places_ev (R := R) (p := p) (q := q) (L := o0 L) (x9 := oS m (cs m w e.1 s)) (x11 := a0 (iN (fil m s e.1))) hok hn) hset
      have hcnt := plc_count (m := m) (w := w) (s := s) (b := e.1) (n := e.2)
      have heq : ∀ ρ : Rho, ρ[12]? = some (oN (plc (row m w s e.1) e.2)) → fEqN false (.pk 12) (.o []) ρ = some (.v (.bl (decide (plc (row m w s e.1) e.2 = [])))) := fun ρ h12 => by
        refine Eq.trans (eqLN false (a := plc (row m w s e.1) e.2) (b := []) (dat_pk h12) dat_o) ?_
        simp only [Bool.false_eq_true, if_false]
      by_cases hp0 : plc (row m w s e.1) e.2 = []
      · have hw : wk m w (e :: r) s p q = none := if_neg fun z => by
          rw [hp0, if_pos z.1] at hcnt
          have := z.2
          simp at hcnt
          omega
        rw [hw]
        refine ⟨SB m w R s p q (o0 L) e (oS m (cs m w e.1 s)) (oN (row m w s e.1)) (a0 (iN (fil m s e.1))) (oN (plc (row m w s e.1) e.2)), ?_⟩
        have hb1 : bLC (SB m w R s p q (o0 L) e .any .any .any .any) = .ok (.rt (.val d_none)) (SB m w R s p q (o0 L) e (oS m (cs m w e.1 s)) (oN (row m w s e.1)) (a0 (iN (fil m s e.1))) (oN (plc (row m w s e.1) e.2))) :=
          seq_ok (if_f (not_ok (b := true) (tru_ok hcan (by show some _ = _; simp [hz]))) rfl) (seq_ok hst (seq_ok hpl (seq_rt (if_t (tru_ok (op_ok rfl rfl (heq _ rfl)) (by show some _ = _; simp [hp0])) rfl))))
        rw [hb1]
      · have hlp := lastp_ok hp0
        obtain ⟨rr, hr1, hr2, hr3⟩ := rowl_at hlp.2
        have hcc : 0 < cc m w e.1 s e.2 := by omega
        have hw : wk m w (e :: r) s p q = wk m w r (wo (cs m w e.1 s) e.2) (p * cc m w e.1 s e.2) (q * sm m (cc m w e.1 s)) := if_pos ⟨hr3, hcc⟩
        rw [if_pos hr3] at hcnt
        have hB' := hB.step hb hr3 hcc
        have hrl := row_len (m := m) (w := w) (s := s) (b := e.1)
        have htot : 0 < sm m (cc m w e.1 s) := Nat.lt_of_lt_of_le hcc (sm_get hr3)
        have hlt : lastp (row m w s e.1) e.2 < sm m (cc m w e.1 s) := by
          rw [← hrl]
          rcases Nat.lt_or_ge (lastp (row m w s e.1) e.2) (row m w s e.1).length with z | z
          · exact z
          · rw [List.getElem?_eq_none z] at hlp; exact absurd hlp.2 (by simp)
        have hmul1 : p.log2 + (cc m w e.1 s e.2).log2 < 1000000 := by
          have h1 : p < 2 ^ 4000 := Nat.lt_of_le_of_lt hB.hp hB.lt
          have h2 := log2_le h1 (by decide)
          have h3 := log21 (n := cc m w e.1 s e.2) (Nat.lt_of_le_of_lt (cc_le _) (cs_lt hok _ hr3))
          omega
        have hmul2 : q.log2 + (sm m (cc m w e.1 s)).log2 < 1000000 := by
          have h2 := log2_le hB.lt (by decide)
          have h3 := log21 (n := sm m (cc m w e.1 s)) (by have := tot_small hok; omega)
          omega
        have hlast : ∀ {L' : Sl} {a c : Nat}, mOp fIx (mPk 12) (mUn fNeg (M.pure (.v (.int 1)))) (SB m w R s a c L' e (oS m (cs m w e.1 s)) (oN (row m w s e.1)) (a0 (iN (fil m s e.1))) (oN (plc (row m w s e.1) e.2))) = .ok (.v (iN (lastp (row m w s e.1) e.2))) (SB m w R s a c L' e (oS m (cs m w e.1 s)) (oN (row m w s e.1)) (a0 (iN (fil m s e.1))) (oN (plc (row m w s e.1) e.2))) := fun {L' a c} => by
          refine op_ok rfl rfl ?_
          show fIx (.pk 12) (.v (.int (-1))) _ = _
          unfold fIx Pd.orF fIxL
          rw [elsF_pk (i := 12) (ds := (plc (row m w s e.1) e.2).map iN) rfl]
          simp only [hlp.1, Option.map_some]
        have hdl := ldeal_ev (d := lastp (row m w s e.1) e.2) (j := e.2) hok htot (by rw [Nat.mod_eq_of_lt hlt]; exact hlp.2)
        have hb1 : bLC (SB m w R s p q (o0 L) e .any .any .any .any) = .ok .nx (SB m w R (wo (cs m w e.1 s) e.2) (p * cc m w e.1 s e.2) (q * sm m (cc m w e.1 s)) (o0 (L ++ [.tup [.str "case", dB e.1, iN (lastp (row m w s e.1) e.2), dN e.2]])) e (oS m (cs m w e.1 s)) (oN (row m w s e.1)) (a0 (iN (fil m s e.1))) (oN (plc (row m w s e.1) e.2))) := by
          refine seq_ok (if_f (not_ok (b := true) (tru_ok hcan (by show some _ = _; simp [hz]))) rfl) (seq_ok hst (seq_ok hpl (seq_ok (if_f (tru_ok (op_ok rfl rfl (heq _ rfl)) (by show some _ = _; simp [hp0])) rfl) ?_)))
          refine seq_ok (ρ1 := SB m w R s (p * cc m w e.1 s e.2) q (o0 L) e (oS m (cs m w e.1 s)) (oN (row m w s e.1)) (a0 (iN (fil m s e.1))) (oN (plc (row m w s e.1) e.2))) (asg_ok (op_ok rfl (cl_ok (cons_ok rfl nil_ok) (t := .v (iN (cc m w e.1 s e.2))) (Eq.trans (len_o rfl) (by rw [List.length_map, hcnt]))) (mulN _ _ hmul1)) rfl) ?_
          refine seq_ok (ρ1 := SB m w R s (p * cc m w e.1 s e.2) (q * sm m (cc m w e.1 s)) (o0 L) e (oS m (cs m w e.1 s)) (oN (row m w s e.1)) (a0 (iN (fil m s e.1))) (oN (plc (row m w s e.1) e.2))) (asg_ok (op_ok rfl (cl_ok (cons_ok rfl nil_ok) (t := .v (iN (sm m (cc m w e.1 s)))) (Eq.trans (len_o rfl) (by rw [List.length_map, hrl]))) (mulN _ _ hmul2)) rfl) ?_
          refine seq_ok (app_ok (ds := L) (cl_ok (cons_ok rfl (cons_ok rfl (cons_ok (fz_v hlast) (cons_ok rfl nil_ok)))) rfl) rfl rfl (by omega)) ?_
          exact asg_ok (op_ok (call_ok (ds := [dW m w, dS m s, dB e.1, iN (lastp (row m w s e.1) e.2)]) (cons_ok rfl (cons_ok rfl (cons_ok rfl (cons_ok (fz_v hlast) nil_ok)))) rfl hdl) rfl ixT1) rfl
        rw [hb1, hw]
        have hrec := lchance_loop (R := R) r (wo (cs m w e.1 s) e.2) (p * cc m w e.1 s e.2) (q * sm m (cc m w e.1 s)) (i + 1) (L ++ [.tup [.str "case", dB e.1, iN (lastp (row m w s e.1) e.2), dN e.2]]) (SB m w R (wo (cs m w e.1 s) e.2) (p * cc m w e.1 s e.2) (q * sm m (cc m w e.1 s)) (o0 (L ++ [.tup [.str "case", dB e.1, iN (lastp (row m w s e.1) e.2), dN e.2]])) e (oS m (cs m w e.1 s)) (oN (row m w s e.1)) (a0 (iN (fil m s e.1))) (oN (plc (row m w s e.1) e.2))) (fun e he => ho e (List.mem_cons_of_mem _ he)) hB' (by simp at hL ⊢; omega) rfl
        rw [List.append_assoc] at hrec
        exact hrec
theorem lchance_ev {m : Nat} {w : Nat → Nat} {r : Rec} {i : Nat} (ho : RecOk r) (hB : Bd m w w 1 1 r.length i) (hz : ∀ z, wk m w r w 1 1 = some z → z.1 < 2 ^ 199 ∧ 0 < z.2.1 ∧ z.2.1 < 2 ^ 8000) :
    Val F__law_chance [a0 (dW m w), a0 (lR r)] (.val (match wk m w r w 1 1 with | none => d_none | some z => .tup [dQ z.1 z.2.1, .lst (lgs m w r w)])) := by
  have hm := hB.hm
  have hrl : r.length ≤ 16 := by have := hB.hi; omega
  obtain ⟨ρ', h⟩ := lchance_loop (R := lR r) r w 1 1 i [] (SC m w (lR r) w 1 1 []) ho hB (by simp; omega) rfl
  have h1 : mLc (mSeqIt (mPk 0)) (mUnp 2 [(mSet 8), (mSet 13)]) (M.pure true) (mVar 13) [8, 13] [a0 (dW m w), a0 (lR r), .any, .any, .any, .any, .any, .any, .any, .any, .any, .any, .any, .any, .any] = .ok (.o ((List.range m).map fun k => iN (w k))) [a0 (dW m w), a0 (lR r), .any, .any, .any, .any, .any, .any, .any, .any, .any, .any, .any, .any, .any] :=
    lc_all (xs := List.range m) (dP w) (fun k => iN (w k)) (sit_ok (fz_v rfl) rfl) (by rw [List.length_range]; omega) rfl rfl rfl fun k hk => ⟨_, _, rfl, fz_v rfl, rfl⟩
  have key : ∀ {x : Res Fl}, (mSeq (mFor (mSeqIt (mPk 1)) (mUnp 3 [(mSet 6), (mSet 7), (mSet 8)]) bLC [6, 7, 8, 9, 10, 11, 12])
    (mRet (mTup (mCons (mFz (mCall 2 F__law_lowest (mCons (mVar 3) (mCons (mVar 4) mNil)))) (mCons (mVar 5) mNil))))) (SC m w (lR r) w 1 1 []) = x → m__law_chance [a0 (dW m w), a0 (lR r), .any, .any, .any, .any, .any, .any, .any, .any, .any, .any, .any, .any, .any] = x := fun {x} hx =>
    seq_ok (ρ1 := [a0 (dW m w), a0 (lR r), a0 (dS m w), .any, .any, .any, .any, .any, .any, .any, .any, .any, .any, .any, .any]) (asg_ok (cl_ok (cons_ok h1 nil_ok) tupOf_o) rfl) (seq_ok (ρ1 := [a0 (dW m w), a0 (lR r), a0 (dS m w), a0 (iN 1), .any, .any, .any, .any, .any, .any, .any, .any, .any, .any, .any]) rfl (seq_ok (ρ1 := [a0 (dW m w), a0 (lR r), a0 (dS m w), a0 (iN 1), a0 (iN 1), .any, .any, .any, .any, .any, .any, .any, .any, .any, .any]) rfl (seq_ok (ρ1 := SC m w (lR r) w 1 1 []) rfl hx)))
  cases hk : wk m w r w 1 1 with
  | none =>
    rw [hk] at h
    refine val_run (ρ := ρ') ?_
    exact key (seq_rt (for_ok (sit_ok (fz_v rfl) rfl) h))
  | some z =>
    rw [hk] at h
    obtain ⟨z1, z2, z3⟩ := hz z hk
    refine val_run (ρ := (SC m w (lR r) z.2.2 z.1 z.2.1 ([] ++ lgs m w r w)).set 5 (a0 (.lst ([] ++ lgs m w r w)))) ?_
    refine key (seq_ok (for_ok (sit_ok (fz_v rfl) rfl) h) ?_)
    exact ret_ok (cl_ok (cons_ok (fz_v (call_ok (ds := [iN z.1, iN z.2.1]) rfl rfl (llowest_ev z2 z3 z1))) (cons_ok (var_o rfl) nil_ok)) rfl)
end K62
set_option Elab.async false
set_option linter.all false
set_option maxRecDepth 100000
set_option maxHeartbeats 2000000
namespace K62
open PySem PySem.Spec PyProof.Rows L2 Pd
variable {ρ ρ1 : Rho}
theorem wk_bd {m : Nat} {w : Nat → Nat} : ∀ {r : Rec} {s : Nat → Nat} {p q i : Nat} {z : Nat × Nat × (Nat → Nat)}, RecOk r → Bd m w s p q r.length i → 0 < p → wk m w r s p q = some z → 0 < z.1 ∧ ∃ j, Bd m w z.2.2 z.1 z.2.1 0 j
  | [], s, p, q, i, z, _, hB, hp, h => by
    cases h
    exact ⟨hp, i, hB⟩
  | e :: r, s, p, q, i, z, ho, hB, hp, h => by
    unfold wk at h
    split at h
    · rename_i c
      obtain ⟨hn, hb⟩ := ho e List.mem_cons_self
      exact wk_bd (fun e he => ho e (List.mem_cons_of_mem _ he)) (hB.step hb c.1 c.2) (Nat.mul_pos hp c.2) h
    · cases h
theorem Bd.q160 {m : Nat} {w s : Nat → Nat} {p q k i : Nat} (h : Bd m w s p q k i) : q < 2 ^ 160 := Nat.lt_of_lt_of_le h.hq2 (Nat.pow_le_pow_right (by decide) (by have := h.hi; omega))
/-! ### the log is right -/
abbrev SF (m : Nat) (w : Nat → Nat) (R : D) (s : Nat → Nat) : Rho := [a0 (dW m w), a0 R, a0 (dS m s), .any, .any, .any, .any, .any, .any]
abbrev bFF : M Fl := (mSeq (mIf (mNot (mTru fTru (mCall 2 F_can_deal (mCons (mVar 0) (mCons (mVar 5) mNil))))) (mRet (mVar 3)) mNx)
    (mSeq (mAsg (mCall 4 F_deal (mCons (mVar 0) (mCons (mVar 2) (mCons (mVar 5) (mCons (mVar 6) mNil))))) (mUnp 2 [(mSet 8), (mSet 2)]))
    (mIf (mTru fBl (mOp (fEqN true) (mPk 8) (mPk 7))) (mRet (mVar 3)) mNx)))
theorem ff_loop {m : Nat} {w : Nat → Nat} {R : D} : ∀ (r : Rec) (s : Nat → Nat) (p q i j : Nat) (z : Nat × Nat × (Nat → Nat)) (ρ : Rho), RecOk r → Bd m w s p q r.length i → wk m w r s p q = some z → fgt [3, 4, 5, 6, 7, 8] ρ = some (SF m w R s) →
    mLoop (mUnp 2 [(mSet 3), (mUnp 4 [(mSet 4), (mSet 5), (mSet 6), (mSet 7)])]) bFF [3, 4, 5, 6, 7, 8] (enumD j (lgs m w r s)) ρ = .ok .nx (SF m w R z.2.2)
  | [], s, p, q, i, j, z, ρ, _, _, h, hf => by
    cases h
    exact mLoop_nil hf
  | e :: r, s, p, q, i, j, z, ρ, ho, hB, h, hf => by
    obtain ⟨hn, hb⟩ := ho e List.mem_cons_self
    have hok := hB.ok hb
    have hm := hB.hm
    unfold wk at h
    split at h
    · rename_i c
      have hz := cc_able c.1 c.2
      have hrl := row_len (m := m) (w := w) (s := s) (b := e.1)
      have hcnt := plc_count (m := m) (w := w) (s := s) (b := e.1) (n := e.2)
      rw [if_pos c.1] at hcnt
      have hp0 : plc (row m w s e.1) e.2 ≠ [] := fun y => by
        rw [y] at hcnt
        have := c.2
        simp at hcnt
        omega
      have hlp := lastp_ok hp0
      obtain ⟨rr, hr1, hr2, hr3⟩ := rowl_at hlp.2
      have hlt : lastp (row m w s e.1) e.2 < sm m (cc m w e.1 s) := by
        rw [← hrl]
        rcases Nat.lt_or_ge (lastp (row m w s e.1) e.2) (row m w s e.1).length with z | z
        · exact z
        · rw [List.getElem?_eq_none z] at hlp; exact absurd hlp.2 (by simp)
      have hdl := deal_ev (d := lastp (row m w s e.1) e.2) (j := e.2) (r := rr) hok hz hr3 hr1 (by rw [Nat.mod_eq_of_lt hlt]; exact hr2)
      show mLoop _ _ _ (.tup [.int (j : Nat), .tup [.str "case", dB e.1, iN (lastp (row m w s e.1) e.2), dN e.2]] :: enumD (j + 1) (lgs m w r (wo (cs m w e.1 s) e.2))) ρ = _
      have hcan : mCall 2 F_can_deal (mCons (mVar 0) (mCons (mVar 5) mNil)) [a0 (dW m w), a0 R, a0 (dS m s), a0 (iN j), a0 (.str "case"), a0 (dB e.1), a0 (iN (lastp (row m w s e.1) e.2)), a0 (dN e.2), .any] = .ok (.rv (.val (.bl (decide (sm m (abl e.1) ≠ 0))))) [a0 (dW m w), a0 R, a0 (dS m s), a0 (iN j), a0 (.str "case"), a0 (dB e.1), a0 (iN (lastp (row m w s e.1) e.2)), a0 (dN e.2), .any] := call_ok (ds := [dW m w, dB e.1]) rfl rfl (can_ev hm hb)
      have hb1 : bFF [a0 (dW m w), a0 R, a0 (dS m s), a0 (iN j), a0 (.str "case"), a0 (dB e.1), a0 (iN (lastp (row m w s e.1) e.2)), a0 (dN e.2), .any] = .ok .nx [a0 (dW m w), a0 R, a0 (dS m (wo (cs m w e.1 s) e.2)), a0 (iN j), a0 (.str "case"), a0 (dB e.1), a0 (iN (lastp (row m w s e.1) e.2)), a0 (dN e.2), a0 (dN e.2)] := by
        refine seq_ok (if_f (not_ok (b := true) (tru_ok hcan (by show some _ = _; simp [hz]))) rfl) ?_
        refine seq_ok (asg_ok (call_ok (ds := [dW m w, dS m s, dB e.1, iN (lastp (row m w s e.1) e.2)]) rfl rfl hdl) rfl) ?_
        exact if_f (tru_ok (op_ok rfl rfl (eqNm true hn hn)) (by show some _ = _; simp)) rfl
      rw [mLoop_cons (ρa := [a0 (dW m w), a0 R, a0 (dS m s), a0 (iN j), a0 (.str "case"), a0 (dB e.1), a0 (iN (lastp (row m w s e.1) e.2)), a0 (dN e.2), .any]) hf rfl, hb1]
      exact ff_loop r _ _ _ (i + 1) (j + 1) z _ (fun e he => ho e (List.mem_cons_of_mem _ he)) (hB.step hb c.1 c.2) h rfl
    · cases h
theorem ff_ev {m : Nat} {w : Nat → Nat} {r : Rec} {i : Nat} {z : Nat × Nat × (Nat → Nat)} (ho : RecOk r) (hB : Bd m w w 1 1 r.length i) (h : wk m w r w 1 1 = some z) : Val F_first_fault [a0 (dW m w), a0 (.lst (lgs m w r w))] (.val .non) := by
  refine val_run (ρ := SF m w (.lst (lgs m w r w)) z.2.2) ?_
  refine seq_ok (ρ1 := SF m w (.lst (lgs m w r w)) w) (asg_ok (call_ok (ds := [dW m w]) rfl rfl (full_ev hB.hm)) rfl) ?_
  refine seq_ok (for_ok (it := mEnum (mCons (mVar 1) mNil)) (ds := enumD 0 (lgs m w r w)) (ρ1 := SF m w (.lst (lgs m w r w)) w) rfl (ff_loop r w 1 1 i 0 z _ ho hB h rfl)) ?_
  rfl
/-! ### asked -/
def encR : Enc (List (Str × List Str × Str)) := (Enc.tri encS encS.tup encS).lst
theorem lR_enc (r : Rec) : lR r = encR.e (r.map fun e => ("case", e.1.map nm, nm e.2)) := by
  show D.lst (r.map dE) = D.lst ((r.map fun e => (("case" : Str), e.1.map nm, nm e.2)).map _)
  rw [List.map_map]
  congr 1
  refine List.map_congr_left fun e _ => ?_
  show D.tup [_, D.tup (e.1.map dN), _] = D.tup [_, D.tup ((e.1.map nm).map D.str), _]
  rw [List.map_map]
  rfl
theorem strOk_case : PyData.strOk ("case" : Str) = true := by decide +kernel
theorem lR_dep (r : Rec) : (lR r).dep ≤ 60 := by
  have h1 : ∀ b : List Nat, D.deps (b.map dN) ≤ 0 := fun b => deps_map dN 0 b fun x _ => by simp [D.dep, nm_ok]
  have := deps_map dE 2 r fun e _ => by
    have := h1 e.1
    simp only [D.dep, D.deps, nm_ok, strOk_case, if_true]
    omega
  simp only [D.dep]
  omega
theorem eqR {x y : Pd.Tm} {r : Rec} (hx : x.dat ρ = some (lR r)) (hy : y.dat ρ = some (lR r)) : fEqN true x y ρ = some (.v (.bl false)) := by
  refine Eq.trans (eqEnc encR true (by rw [hx, lR_enc]) (by rw [hy, lR_enc]) (by rw [← lR_enc]; exact lR_dep r) (by rw [← lR_enc]; exact lR_dep r)) ?_
  simp
theorem asked_ev {m : Nat} {w : Nat → Nat} {r : Rec} {i : Nat} (ho : RecOk r) (hB : Bd m w w 1 1 r.length i) : Val F__law_asked [a0 (dW m w), a0 (lR r)] (.val (.bl true)) := by
  have hz : ∀ z, wk m w r w 1 1 = some z → z.1 < 2 ^ 199 ∧ 0 < z.2.1 ∧ z.2.1 < 2 ^ 8000 := fun z hz => by
    obtain ⟨h1, j, h2⟩ := wk_bd ho hB Nat.one_pos hz
    have h3 := h2.q160
    have h4 := h2.hp
    have h5 : (2 : Nat) ^ 160 ≤ 2 ^ 8000 := Nat.pow_le_pow_right (by decide) (by decide)
    have h6 : (2 : Nat) ^ 160 ≤ 2 ^ 199 := Nat.pow_le_pow_right (by decide) (by decide)
    exact ⟨by omega, h2.hq, by omega⟩
  have hc := chance_of_ev ho hB
  have hl := lchance_ev ho hB hz
  have e1 : ∀ {x : Res Fl} {x3 x4 x5 : D}, (mSeq (mIf (mOr (mTru fBl (mOp (fEqN true) (mPk 2) (mPk 1))) (mNot (mTru fTru (mCall 2 F__law_is (mCons (mVar 5) (mCons (mVar 3) mNil)))))) (mRet (M.pure (.v (.bl false)))) mNx)
    (mSeq (mIf (mTru fBl (mOp (fIsN false) (mPk 4) (M.pure (.v .non)))) (mRet (mOp (fEqN false) (mPk 5) (mTup (mCons (M.pure (.v (.int 0))) (mCons (M.pure (.v (.int 1))) mNil))))) mNx)
    (mRet (mAndV (mOp (fEqN true) (mPk 5) (mTup (mCons (M.pure (.v (.int 0))) (mCons (M.pure (.v (.int 1))) mNil)))) (mOp (fIsN false) (mCall 2 F_first_fault (mCons (mVar 0) (mCons (mVar 4) mNil))) (M.pure (.v .non))))))) [a0 (dW m w), a0 (lR r), a0 (lR r), a0 x3, a0 x4, a0 x5] = x →
      Val F__law_chance [a0 (dW m w), a0 (lR r)] (.val (.tup [x3, x4])) → Val F_chance_of [a0 (dW m w), a0 (lR r)] (.val x5) → m__law_asked [a0 (dW m w), a0 (lR r), .any, .any, .any, .any] = x := fun {x x3 x4 x5} hx h1 h2 => by
    refine seq_ok (ρ1 := [a0 (dW m w), a0 (lR r), o0 (r.map dE), .any, .any, .any]) rfl ?_
    refine seq_ok (ρ1 := [a0 (dW m w), a0 (lR r), o0 (r.map dE), a0 x3, a0 x4, .any]) (asg_ok (call_ok (ds := [dW m w, lR r]) rfl rfl h1) rfl) ?_
    refine seq_ok (ρ1 := [a0 (dW m w), a0 (lR r), a0 (lR r), a0 x3, a0 x4, a0 x5]) (asg_ok (call_ok (ds := [dW m w, lR r]) (cons_ok rfl (cons_ok (var_o rfl) nil_ok)) rfl h2) rfl) hx
  cases hk : wk m w r w 1 1 with
  | none =>
    rw [hk] at hc hl
    refine val_run (ρ := [a0 (dW m w), a0 (lR r), a0 (lR r), a0 d_NOUGHT, a0 .non, a0 d_NOUGHT]) ?_
    refine e1 ?_ hl hc
    refine seq_ok (if_f (or_f (tru_ok (op_ok rfl rfl (eqR rfl rfl)) rfl) (not_ok (b := true) (tru_ok (call_ok (ds := [d_NOUGHT, d_NOUGHT]) rfl rfl (is_ev (a := 0) (b := 1) (c := 0) (d := 1))) rfl))) rfl) ?_
    refine seq_rt (if_t (tru_ok (op_ok (t := .v (.bl true)) rfl rfl rfl) rfl) (ret_ok (op_ok rfl rfl (Eq.trans (eqT false 0 1 0 1) ?_))))
    simp
  | some z =>
    rw [hk] at hc hl
    obtain ⟨h1, j, h2⟩ := wk_bd ho hB Nat.one_pos hk
    refine val_run (ρ := [a0 (dW m w), a0 (lR r), a0 (lR r), a0 (dQ z.1 z.2.1), a0 (.lst (lgs m w r w)), a0 (dQ z.1 z.2.1)]) ?_
    refine e1 ?_ hl hc
    refine seq_ok (if_f (or_f (tru_ok (op_ok rfl rfl (eqR rfl rfl)) rfl) (not_ok (b := true) (tru_ok (call_ok (ds := [dQ z.1 z.2.1, dQ z.1 z.2.1]) rfl rfl is_ev) (by show some _ = _; simp)))) rfl) ?_
    refine seq_ok (if_f (tru_ok (op_ok (t := .v (.bl false)) rfl rfl rfl) rfl) rfl) ?_
    refine ret_ok (andV_t (tru_ok (op_ok rfl rfl (eqT true _ _ 0 1)) ?_) (op_ok (call_ok (ds := [dW m w, .lst (lgs m w r w)]) rfl rfl (ff_ev ho hB hk)) rfl rfl))
    have := div_ne (q := z.2.1) h1
    show some _ = _
    simp [this]
end K62
set_option Elab.async false
set_option linter.all false
set_option maxRecDepth 100000
set_option maxHeartbeats 2000000
namespace K62
open PySem PySem.Spec PyProof.Rows L2 Pd
variable {ρ ρ1 : Rho}
/-! ### sums of chances, down the tree of records -/
abbrev fr (a b : Nat) : Nat × Nat := (a / Nat.gcd a b, b / Nat.gcd a b)
theorem fr_mulk {a b k : Nat} (hk : 0 < k) : fr (a * k) (b * k) = fr a b := by
  unfold fr
  rw [Nat.gcd_mul_right, Nat.mul_div_mul_right _ _ hk, Nat.mul_div_mul_right _ _ hk]
def vl (m : Nat) (w : Nat → Nat) (r : Rec) : Nat × Nat := match wk m w r w 1 1 with
  | none => (0, 1)
  | some z => fr z.1 z.2.1
def sp (m : Nat) (w : Nat → Nat) (z : Option (Nat × Nat)) (r : Rec) : Option (Nat × Nat) := z.bind fun z => if z.1 < 2 ^ 60 ∧ 0 < z.2 ∧ z.2 < 2 ^ 60 then some (fr (z.1 * (vl m w r).2 + (vl m w r).1 * z.2) (z.2 * (vl m w r).2)) else none
def lv (m : Nat) : List (List Nat) → Rec → List Rec
  | [], pr => [pr]
  | b :: rs, pr => (List.range m ++ [9]).flatMap fun n => lv m rs (pr ++ [(b, n)])
theorem wk_append {m : Nat} {w : Nat → Nat} : ∀ (r r' : Rec) (s : Nat → Nat) (p q : Nat), wk m w (r ++ r') s p q = (wk m w r s p q).bind fun z => wk m w r' z.2.2 z.1 z.2.1
  | [], r', s, p, q => rfl
  | e :: r, r', s, p, q => by
    rw [List.cons_append]
    by_cases c : e.2 < m ∧ 0 < cc m w e.1 s e.2
    · have h1 : ∀ x : Rec, wk m w (e :: x) s p q = wk m w x (wo (cs m w e.1 s) e.2) (p * cc m w e.1 s e.2) (q * sm m (cc m w e.1 s)) := fun x => if_pos c
      rw [h1, h1]
      exact wk_append r r' _ _ _
    · have h1 : ∀ x : Rec, wk m w (e :: x) s p q = none := fun x => if_neg c
      rw [h1, h1]
      rfl
theorem foldl_flat {α β γ : Type} (f : γ → β → γ) (g : α → List β) : ∀ (l : List α) (z : γ), (l.flatMap g).foldl f z = l.foldl (fun z n => (g n).foldl f z) z
  | [], z => rfl
  | a :: l, z => by rw [List.flatMap_cons, List.foldl_append, foldl_flat f g l, List.foldl_cons]
theorem tot_pos {m : Nat} {w s : Nat → Nat} {b : List Nat} (hw : ∀ k, k < m → 1 ≤ w k) (hz : sm m (abl b) ≠ 0) : 0 < sm m (cc m w b s) := by
  by_cases h : sm m (ct b s) = 0
  · obtain ⟨k, hk, hb⟩ : ∃ k, k < m ∧ k ∉ b := Classical.byContradiction fun z => hz (able_zero.mpr fun k hk => Classical.byContradiction fun y => z ⟨k, hk, y⟩)
    have h1 := sm_get (f := cc m w b s) hk
    have h2 : cc m w b s k = s k + w k := by
      unfold cc
      rw [cs_t h]
      unfold ct
      rw [if_neg hb]
    have := hw k hk
    omega
  · unfold cc
    rw [cs_f h]
    exact Nat.pos_of_ne_zero h
theorem fr_le {A q : Nat} (hq : 0 < q) (h : A ≤ q) (hb : q < 2 ^ 60) : (fr A q).1 < 2 ^ 60 ∧ 0 < (fr A q).2 ∧ (fr A q).2 < 2 ^ 60 := by
  refine ⟨Nat.lt_of_le_of_lt (Nat.div_le_self _ _) (by omega), Nat.div_pos (Nat.gcd_le_right _ hq) (Nat.gcd_pos_of_pos_right _ hq), Nat.lt_of_le_of_lt (Nat.div_le_self _ _) hb⟩
theorem sp_none {m : Nat} {w : Nat → Nat} {r : Rec} {A q : Nat} (hr : wk m w r w 1 1 = none) (hq : 0 < q) (h : A ≤ q) (hb : q < 2 ^ 60) : sp m w (some (fr A q)) r = some (fr A q) := by
  have hv : vl m w r = (0, 1) := by unfold vl; rw [hr]
  unfold sp
  rw [Option.bind_some, if_pos (fr_le hq h hb), hv]
  have e1 : (fr A q).1 * (0, 1).2 + (0, 1).1 * (fr A q).2 = (fr A q).1 := by simp
  have e2 : (fr A q).2 * (0, 1).2 = (fr A q).2 := by simp
  rw [e1, e2]
  have hg : 0 < Nat.gcd A q := Nat.gcd_pos_of_pos_right _ hq
  rw [← fr_mulk hg, Nat.div_mul_cancel (Nat.gcd_dvd_left A q), Nat.div_mul_cancel (Nat.gcd_dvd_right A q)]
theorem sp_some {m : Nat} {w : Nat → Nat} {r : Rec} {A p q : Nat} {s : Nat → Nat} (hr : wk m w r w 1 1 = some (p, q, s)) (hq : 0 < q) (h : A ≤ q) (hb : q < 2 ^ 60) : sp m w (some (fr A q)) r = some (fr (A + p) q) := by
  have hv : vl m w r = fr p q := by unfold vl; rw [hr]
  unfold sp
  rw [Option.bind_some, if_pos (fr_le hq h hb), hv]
  congr 1
  have hg : 0 < Nat.gcd A q := Nat.gcd_pos_of_pos_right _ hq
  have hg' : 0 < Nat.gcd p q := Nat.gcd_pos_of_pos_right _ hq
  rw [← fr_mulk (k := Nat.gcd A q * Nat.gcd p q) (Nat.mul_pos hg hg'), ← fr_mulk (a := A + p) (b := q) hq]
  have c1 := Nat.div_mul_cancel (Nat.gcd_dvd_left A q)
  have c2 := Nat.div_mul_cancel (Nat.gcd_dvd_right A q)
  have c3 := Nat.div_mul_cancel (Nat.gcd_dvd_left p q)
  have c4 := Nat.div_mul_cancel (Nat.gcd_dvd_right p q)
  have e1 : (A / Nat.gcd A q * (q / Nat.gcd p q) + p / Nat.gcd p q * (q / Nat.gcd A q)) * (Nat.gcd A q * Nat.gcd p q) = (A + p) * q := by
    rw [Nat.add_mul, Nat.mul_mul_mul_comm, c1, c4, Nat.mul_comm (Nat.gcd A q), Nat.mul_mul_mul_comm, c3, c2, Nat.add_mul]
  have e2 : (q / Nat.gcd A q * (q / Nat.gcd p q)) * (Nat.gcd A q * Nat.gcd p q) = q * q := by
    rw [Nat.mul_mul_mul_comm, c2, c4]
  show fr ((A / Nat.gcd A q * (q / Nat.gcd p q) + p / Nat.gcd p q * (q / Nat.gcd A q)) * (Nat.gcd A q * Nat.gcd p q)) ((q / Nat.gcd A q * (q / Nat.gcd p q)) * (Nat.gcd A q * Nat.gcd p q)) = _
  rw [e1, e2]
theorem tree_none {m : Nat} {w : Nat → Nat} {A q : Nat} (hq : 0 < q) (h : A ≤ q) (hb : q < 2 ^ 60) : ∀ (rs : List (List Nat)) (pr : Rec), wk m w pr w 1 1 = none → (lv m rs pr).foldl (sp m w) (some (fr A q)) = some (fr A q)
  | [], pr, hr => sp_none hr hq h hb
  | b :: rs, pr, hr => by
    unfold lv
    rw [foldl_flat]
    have key : ∀ l : List Nat, l.foldl (fun z n => (lv m rs (pr ++ [(b, n)])).foldl (sp m w) z) (some (fr A q)) = some (fr A q) := fun l => by
      induction l with
      | nil => rfl
      | cons n l ih => rw [List.foldl_cons, tree_none hq h hb rs (pr ++ [(b, n)]) (by rw [wk_append, hr]; rfl), ih]
    exact key _
theorem tree_some {m : Nat} {w : Nat → Nat} : ∀ (rs : List (List Nat)) (pr : Rec) (p q i A : Nat) (s : Nat → Nat), wk m w pr w 1 1 = some (p, q, s) → Bd m w s p q rs.length i → i + rs.length ≤ 6 → 0 < p → (∀ b ∈ rs, (∀ x ∈ b, x < 10) ∧ sm m (abl b) ≠ 0) → A + p ≤ q →
    (lv m rs pr).foldl (sp m w) (some (fr A q)) = some (fr (A + p) q)
  | [], pr, p, q, i, A, s, hr, hB, hi, hp, hb, hA => sp_some hr hB.hq (by omega) (Nat.lt_of_lt_of_le hB.hq2 (Nat.pow_le_pow_right (by decide) (by have : i + 0 ≤ 6 := hi; omega)))
  | b :: rs, pr, p, q, i, A, s, hr, hB, hi, hp, hb, hA => by
    obtain ⟨hb1, hb2⟩ := hb b List.mem_cons_self
    have hT := tot_pos (s := s) (fun k hk => (hB.hw k hk).1) hb2
    have hm := hB.hm
    have hqb : q * sm m (cc m w b s) < 2 ^ 60 := by
      have h2 : sm m (cc m w b s) ≤ 1000 := by
        have h4 : sm m (cc m w b s) ≤ m * 96 := sm_le fun j hj => by
          have h5 := cc_le (m := m) (w := w) (s := s) (b := b) j
          have h6 := hB.hs j hj
          have h7 := (hB.hw j hj).2
          have h8 : i + (rs.length + 1) ≤ 6 := hi
          have h9 : cs m w b s j ≤ s j + w j := by unfold cs; split <;> omega
          omega
        omega
      have h3 : q < 2 ^ 50 := Nat.lt_of_lt_of_le hB.hq2 (Nat.pow_le_pow_right (by decide) (by have : i + (rs.length + 1) ≤ 6 := hi; omega))
      calc q * sm m (cc m w b s) ≤ q * 1000 := Nat.mul_le_mul_left _ h2
        _ < 2 ^ 60 := by omega
    unfold lv
    rw [foldl_flat, List.foldl_append]
    have key : ∀ k, k ≤ m → (List.range k).foldl (fun z n => (lv m rs (pr ++ [(b, n)])).foldl (sp m w) z) (some (fr (A * sm m (cc m w b s)) (q * sm m (cc m w b s)))) = some (fr (A * sm m (cc m w b s) + p * pre (cc m w b s) k) (q * sm m (cc m w b s))) := fun k => by
      induction k with
      | zero =>
        intro _
        show some _ = some (fr (A * sm m (cc m w b s) + p * 0) _)
        rw [Nat.mul_zero, Nat.add_zero]
      | succ k ih =>
        intro hk
        have hk1 : pre (cc m w b s) (k + 1) ≤ sm m (cc m w b s) := pre_mono _ hk
        have hle : A * sm m (cc m w b s) + p * pre (cc m w b s) (k + 1) ≤ q * sm m (cc m w b s) :=
          calc A * sm m (cc m w b s) + p * pre (cc m w b s) (k + 1) ≤ A * sm m (cc m w b s) + p * sm m (cc m w b s) := Nat.add_le_add_left (Nat.mul_le_mul_left _ hk1) _
            _ = (A + p) * sm m (cc m w b s) := (Nat.add_mul _ _ _).symm
            _ ≤ q * sm m (cc m w b s) := Nat.mul_le_mul_right _ hA
        rw [List.range_succ, List.foldl_append, ih (by omega), List.foldl_cons, List.foldl_nil]
        rw [pre_succ, Nat.mul_add] at hle ⊢
        by_cases hc : 0 < cc m w b s k
        · have hch : wk m w (pr ++ [(b, k)]) w 1 1 = some (p * cc m w b s k, q * sm m (cc m w b s), wo (cs m w b s) k) := by
            rw [wk_append, hr]
            exact if_pos ⟨by omega, hc⟩
          rw [tree_some rs (pr ++ [(b, k)]) (p * cc m w b s k) (q * sm m (cc m w b s)) (i + 1) _ _ hch (hB.step hb1 (by omega) hc) (by have : i + (rs.length + 1) ≤ 6 := hi; omega) (Nat.mul_pos hp hc) (fun b' hb' => hb b' (List.mem_cons_of_mem _ hb')) (by omega), Nat.add_assoc]
        · have hc0 : cc m w b s k = 0 := by omega
          have hch : wk m w (pr ++ [(b, k)]) w 1 1 = none := by
            rw [wk_append, hr]
            exact if_neg fun z => hc z.2
          rw [hc0, Nat.mul_zero, Nat.add_zero] at hle ⊢
          rw [tree_none (Nat.mul_pos hB.hq hT) hle hqb rs _ hch]
    have k1 := key m (Nat.le_refl m)
    rw [show pre (cc m w b s) m = sm m (cc m w b s) from rfl, ← Nat.add_mul, fr_mulk hT, fr_mulk hT] at k1
    rw [k1, List.foldl_cons, List.foldl_nil]
    have hch : wk m w (pr ++ [(b, 9)]) w 1 1 = none := by
      rw [wk_append, hr]
      exact if_neg fun z => by have := z.1; simp at this; omega
    exact tree_none hB.hq hA (Nat.lt_of_le_of_lt (Nat.le_mul_of_pos_right q hT) hqb) rs _ hch
/-- the records, row by row -/
def ex (m : Nat) (L : List Rec) (b : List Nat) : List Rec := L.flatMap fun r => (List.range m ++ [9]).map fun n => r ++ [(b, n)]
theorem ex_lv (m : Nat) : ∀ (rows : List (List Nat)) (L : List Rec), rows.foldl (ex m) L = L.flatMap (lv m rows)
  | [], L => by
    show L = L.flatMap fun r => [r]
    induction L with
    | nil => rfl
    | cons r L ih => rw [List.flatMap_cons, ← ih]; rfl
  | b :: rows, L => by
    rw [List.foldl_cons, ex_lv m rows]
    unfold ex
    rw [List.flatMap_assoc]
    congr 1
    funext r
    rw [List.flatMap_map]
    rfl
theorem all_sum {m : Nat} {w : Nat → Nat} {rows : List (List Nat)} (hB : Bd m w w 1 1 rows.length 1) (hr : rows.length ≤ 5) (hb : ∀ b ∈ rows, (∀ x ∈ b, x < 10) ∧ sm m (abl b) ≠ 0) : (rows.foldl (ex m) [[]]).foldl (sp m w) (some (0, 1)) = some (1, 1) := by
  rw [ex_lv]
  have h := tree_some rows [] 1 1 1 0 w rfl hB (by omega) (by decide) hb (by decide)
  have e0 : fr 0 1 = (0, 1) := by simp [fr]
  have e1 : fr (0 + 1) 1 = (1, 1) := by simp [fr]
  rw [e0, e1] at h
  rw [List.flatMap_cons, List.flatMap_nil, List.append_nil]
  exact h
theorem ex_len (m : Nat) : ∀ (rows : List (List Nat)) (L : List Rec), (rows.foldl (ex m) L).length = L.length * (m + 1) ^ rows.length
  | [], L => by simp
  | b :: rows, L => by
    rw [List.foldl_cons, ex_len m rows]
    have : (ex m L b).length = L.length * (m + 1) := by
      unfold ex
      induction L with
      | nil => simp
      | cons r L ih => rw [List.flatMap_cons, List.length_append, ih, List.length_cons]; simp [Nat.add_mul]; omega
    rw [this, List.length_cons, Nat.pow_succ, Nat.mul_assoc, Nat.mul_comm (m + 1)]
end K62
set_option Elab.async false
set_option linter.all false
set_option maxRecDepth 100000
set_option maxHeartbeats 2000000
namespace K62
open PySem PySem.Spec PyProof.Rows L2 Pd
variable {ρ ρ1 : Rho}
/-- a list, owned or frozen -/
def Lf (x : Sl) (ds : List D) : Prop := x = o0 ds ∨ x = a0 (.lst ds)
theorem Lf.o {ds : List D} : Lf (o0 ds) ds := .inl rfl
theorem Lf.f {ds : List D} : Lf (a0 (.lst ds)) ds := .inr rfl
theorem Lf.bor {x : Sl} {ds : List D} (h : Lf x ds) : ∀ r, x ≠ .bor r := fun r z => by
  rcases h with h | h <;> rw [h] at z <;> cases z
abbrev nl (m : Nat) : List Nat := List.range m ++ [9]
abbrev RL (L : List Rec) : List D := L.map lR
abbrev T1 (m : Nat) (w : Nat → Nat) (R : D) (x2 x3 : Sl) (b : List Nat) (acc : List Rec) : Rho := [a0 (dW m w), a0 R, x2, x3, a0 (dB b), o0 (RL acc), .any, .any, .any, .any, .any, .any]
abbrev bA1 : M Fl := mApp 5 (mFz (mOp fAdd (mPk 6) (mLst (mCons (mTup (mCons (M.pure (.v (.str "case"))) (mCons (mVar 4) (mCons (mVar 7) mNil)))) mNil))))
theorem names_loop {m : Nat} {w : Nat → Nat} {R : D} {x2 x3 : Sl} {b : List Nat} {r : Rec} (hr : r.length ≤ 1000) : ∀ (ns : List Nat) (acc : List Rec) (ρ : Rho), acc.length + ns.length < 100000 → fgt [7] ρ = some [a0 (dW m w), a0 R, x2, x3, a0 (dB b), o0 (RL acc), a0 (lR r), .any, .any, .any, .any, .any] →
    mLoop (mSet 7) bA1 [7] (ns.map dN) ρ = .ok .nx [a0 (dW m w), a0 R, x2, x3, a0 (dB b), o0 (RL (acc ++ ns.map fun n => r ++ [(b, n)])), a0 (lR r), .any, .any, .any, .any, .any]
  | [], acc, ρ, _, hf => by
    rw [show acc ++ List.map (fun n => r ++ [(b, n)]) [] = acc from List.append_nil acc]
    exact mLoop_nil hf
  | n :: ns, acc, ρ, hl, hf => by
    have hb1 : bA1 [a0 (dW m w), a0 R, x2, x3, a0 (dB b), o0 (RL acc), a0 (lR r), a0 (dN n), .any, .any, .any, .any] = .ok .nx [a0 (dW m w), a0 R, x2, x3, a0 (dB b), o0 (RL (acc ++ [r ++ [(b, n)]])), a0 (lR r), a0 (dN n), .any, .any, .any, .any] := by
      have e : lR (r ++ [(b, n)]) = .lst (r.map dE ++ [dE (b, n)]) := by
        show D.lst ((r ++ [(b, n)]).map dE) = _
        rw [List.map_append]
        rfl
      have h1 : mFz (mOp fAdd (mPk 6) (mLst (mCons (mTup (mCons (M.pure (.v (.str "case"))) (mCons (mVar 4) (mCons (mVar 7) mNil)))) mNil))) [a0 (dW m w), a0 R, x2, x3, a0 (dB b), o0 (RL acc), a0 (lR r), a0 (dN n), .any, .any, .any, .any] = .ok (.v (lR (r ++ [(b, n)]))) [a0 (dW m w), a0 R, x2, x3, a0 (dB b), o0 (RL acc), a0 (lR r), a0 (dN n), .any, .any, .any, .any] := by
        rw [e]
        exact fz_o (op_ok (y := .o [dE (b, n)]) rfl rfl (catL_lo (by simp; omega)))
      have h2 := app_ok (i := 5) (ds := RL acc) h1 rfl rfl (by simp at hl ⊢; omega)
      have e2 : RL (acc ++ [r ++ [(b, n)]]) = RL acc ++ [lR (r ++ [(b, n)])] := by
        show (acc ++ [r ++ [(b, n)]]).map lR = _
        rw [List.map_append]
        rfl
      rw [e2]
      exact h2
    rw [List.map_cons, mLoop_cons hf (show mSet 7 (.v (dN n)) _ = some [a0 (dW m w), a0 R, x2, x3, a0 (dB b), o0 (RL acc), a0 (lR r), a0 (dN n), .any, .any, .any, .any] from rfl), hb1]
    have := names_loop (m := m) (w := w) (R := R) (x2 := x2) (x3 := x3) (b := b) hr ns (acc ++ [r ++ [(b, n)]]) [a0 (dW m w), a0 R, x2, x3, a0 (dB b), o0 (RL (acc ++ [r ++ [(b, n)]])), a0 (lR r), a0 (dN n), .any, .any, .any, .any] (by simp at hl ⊢; omega) rfl
    rw [List.append_assoc] at this
    exact this
theorem rec_loop {m : Nat} {w : Nat → Nat} {R : D} {x2 : Sl} {b : List Nat} (hx2 : ∀ r, x2 ≠ .bor r) : ∀ (L : List Rec) (acc : List Rec) (x3 : Sl) (ρ : Rho), Lf x3 ((nl m).map dN) → (∀ r ∈ L, r.length ≤ 1000) → acc.length + L.length * (m + 1) < 100000 → fgt [6, 7] ρ = some (T1 m w R x2 x3 b acc) →
    ∃ x3', Lf x3' ((nl m).map dN) ∧ mLoop (mSet 6) (mFor (mSeqIt (mPk 3)) (mSet 7) bA1 [7]) [6, 7] (RL L) ρ = .ok .nx (T1 m w R x2 x3' b (acc ++ ex m L b))
  | [], acc, x3, ρ, h3, _, _, hf => ⟨x3, h3, by
    show mLoop _ _ _ [] _ = _
    rw [show acc ++ ex m [] b = acc from List.append_nil acc]
    exact mLoop_nil hf⟩
  | r :: L, acc, x3, ρ, h3, hr, hl, hf => by
    rw [List.length_cons, Nat.succ_mul] at hl
    have hit : mSeqIt (mPk 3) [a0 (dW m w), a0 R, x2, x3, a0 (dB b), o0 (RL acc), a0 (lR r), .any, .any, .any, .any, .any] = .ok ((nl m).map dN) [a0 (dW m w), a0 R, x2, a0 (.lst ((nl m).map dN)), a0 (dB b), o0 (RL acc), a0 (lR r), .any, .any, .any, .any, .any] := by
      rcases h3 with h | h
      · subst h
        exact sit_ok (fz_pk rfl (var_o rfl)) rfl
      · subst h
        rfl
    have hb1 : mFor (mSeqIt (mPk 3)) (mSet 7) bA1 [7] [a0 (dW m w), a0 R, x2, x3, a0 (dB b), o0 (RL acc), a0 (lR r), .any, .any, .any, .any, .any] = .ok .nx [a0 (dW m w), a0 R, x2, a0 (.lst ((nl m).map dN)), a0 (dB b), o0 (RL (acc ++ (nl m).map fun n => r ++ [(b, n)])), a0 (lR r), .any, .any, .any, .any, .any] :=
      for_ok hit (names_loop (hr r List.mem_cons_self) (nl m) acc _ (by simp; omega) rfl)
    show ∃ x3', _ ∧ mLoop _ _ _ (lR r :: RL L) _ = _
    rw [mLoop_cons hf (show mSet 6 (.v (lR r)) _ = some [a0 (dW m w), a0 R, x2, x3, a0 (dB b), o0 (RL acc), a0 (lR r), .any, .any, .any, .any, .any] from rfl), hb1]
    obtain ⟨x3', k1, k2⟩ := rec_loop (m := m) (w := w) (R := R) (b := b) hx2 L (acc ++ (nl m).map fun n => r ++ [(b, n)]) (a0 (.lst ((nl m).map dN))) [a0 (dW m w), a0 R, x2, a0 (.lst ((nl m).map dN)), a0 (dB b), o0 (RL (acc ++ (nl m).map fun n => r ++ [(b, n)])), a0 (lR r), .any, .any, .any, .any, .any] Lf.f (fun r' h' => hr r' (List.mem_cons_of_mem _ h')) (by simp; omega) rfl
    refine ⟨x3', k1, ?_⟩
    have e : acc ++ ex m (r :: L) b = (acc ++ (nl m).map fun n => r ++ [(b, n)]) ++ ex m L b := by
      unfold ex
      rw [List.flatMap_cons, List.append_assoc]
    rw [e]
    exact k2
abbrev T2 (m : Nat) (w : Nat → Nat) (R : D) (x2 x3 : Sl) : Rho := [a0 (dW m w), a0 R, x2, x3, .any, .any, .any, .any, .any, .any, .any, .any]
abbrev bA2 : M Fl := (mSeq (mAsg (mLst mNil) (mSet 5))
    (mSeq (mFor (mSeqIt (mPk 2)) (mSet 6) (mFor (mSeqIt (mPk 3)) (mSet 7) bA1 [7]) [6, 7])
    (mAsg (mVar 5) (mSet 2))))
theorem row_loop {m : Nat} {w : Nat → Nat} {R : D} : ∀ (rows : List (List Nat)) (L : List Rec) (x2 x3 : Sl) (ρ : Rho), Lf x2 (RL L) → Lf x3 ((nl m).map dN) → (∀ r ∈ L, r.length + rows.length ≤ 1000) → L.length * (m + 1) ^ rows.length < 100000 → fgt [4, 5, 6, 7] ρ = some (T2 m w R x2 x3) →
    ∃ x2' x3', Lf x2' (RL (rows.foldl (ex m) L)) ∧ Lf x3' ((nl m).map dN) ∧ mLoop (mSet 4) bA2 [4, 5, 6, 7] (rows.map dB) ρ = .ok .nx (T2 m w R x2' x3')
  | [], L, x2, x3, ρ, h2, h3, _, _, hf => ⟨x2, x3, h2, h3, mLoop_nil hf⟩
  | b :: rows, L, x2, x3, ρ, h2, h3, hr, hl, hf => by
    rw [List.length_cons, Nat.pow_succ, Nat.mul_comm ((m + 1) ^ rows.length), ← Nat.mul_assoc] at hl
    have hpow : 0 < (m + 1) ^ rows.length := Nat.pow_pos (Nat.succ_pos m)
    have hl1 : L.length * (m + 1) ≤ L.length * (m + 1) * (m + 1) ^ rows.length := Nat.le_mul_of_pos_right _ hpow
    have hx2 : ∃ y2, Lf y2 (RL L) ∧ mSeqIt (mPk 2) (T1 m w R x2 x3 b []) = .ok (RL L) (T1 m w R y2 x3 b []) := by
      rcases h2 with h | h
      · subst h
        exact ⟨_, Lf.f, sit_ok (fz_pk rfl (var_o rfl)) rfl⟩
      · subst h
        exact ⟨_, Lf.f, rfl⟩
    obtain ⟨y2, k1, k2⟩ := hx2
    obtain ⟨y3, k3, k4⟩ := rec_loop (m := m) (w := w) (R := R) (x2 := y2) (b := b) k1.bor L [] x3 (T1 m w R y2 x3 b []) h3 (fun r h' => by have := hr r h'; omega) (by simp; omega) rfl
    rw [List.nil_append] at k4
    have hset : mSet 2 (.v (.lst (RL (ex m L b)))) (T1 m w R y2 y3 b (ex m L b) |>.set 5 (a0 (.lst (RL (ex m L b))))) = some [a0 (dW m w), a0 R, a0 (.lst (RL (ex m L b))), y3, a0 (dB b), a0 (.lst (RL (ex m L b))), .any, .any, .any, .any, .any, .any] := by
      rcases k1 with h | h <;> subst h <;> rfl
    have hb1 : bA2 [a0 (dW m w), a0 R, x2, x3, a0 (dB b), .any, .any, .any, .any, .any, .any, .any] = .ok .nx [a0 (dW m w), a0 R, a0 (.lst (RL (ex m L b))), y3, a0 (dB b), a0 (.lst (RL (ex m L b))), .any, .any, .any, .any, .any, .any] :=
      seq_ok (ρ1 := T1 m w R x2 x3 b []) rfl (seq_ok (for_ok k2 k4) (asg_ok (var_o rfl) hset))
    rw [List.map_cons, mLoop_cons hf (show mSet 4 (.v (dB b)) _ = some [a0 (dW m w), a0 R, x2, x3, a0 (dB b), .any, .any, .any, .any, .any, .any, .any] from rfl), hb1]
    have hexl : (ex m L b).length = L.length * (m + 1) := by
      have := ex_len m [b] L
      simpa using this
    have hfg : fgt [4, 5, 6, 7] [a0 (dW m w), a0 R, a0 (.lst (RL (ex m L b))), y3, a0 (dB b), a0 (.lst (RL (ex m L b))), .any, .any, .any, .any, .any, .any] = some (T2 m w R (a0 (.lst (RL (ex m L b)))) y3) := rfl
    exact row_loop rows (ex m L b) (a0 (.lst (RL (ex m L b)))) y3 _ Lf.f k3 (fun r h' => by
      obtain ⟨r0, h0, h1⟩ := List.mem_flatMap.mp h'
      obtain ⟨n, _, h2⟩ := List.mem_map.mp h1
      subst h2
      have := hr r0 h0
      simp at this ⊢
      omega) (by rw [hexl]; exact hl) hfg
end K62
set_option Elab.async false
set_option linter.all false
set_option maxRecDepth 100000
set_option maxHeartbeats 2000000
namespace K62
open PySem PySem.Spec PyProof.Rows L2 Pd
variable {ρ ρ1 : Rho}
theorem wk_bd2 {m : Nat} {w : Nat → Nat} : ∀ {r : Rec} {s : Nat → Nat} {p q i : Nat} {z : Nat × Nat × (Nat → Nat)}, RecOk r → Bd m w s p q r.length i → wk m w r s p q = some z → Bd m w z.2.2 z.1 z.2.1 0 (i + r.length)
  | [], s, p, q, i, z, _, hB, h => by
    cases h
    exact hB
  | e :: r, s, p, q, i, z, ho, hB, h => by
    unfold wk at h
    split at h
    · rename_i c
      obtain ⟨hn, hb⟩ := ho e List.mem_cons_self
      have := wk_bd2 (fun e he => ho e (List.mem_cons_of_mem _ he)) (hB.step hb c.1 c.2) h
      rw [List.length_cons, show i + (r.length + 1) = i + 1 + r.length from by omega]
      exact this
    · cases h
theorem vl_d {m : Nat} {w : Nat → Nat} {r : Rec} : (match wk m w r w 1 1 with | none => d_NOUGHT | some z => dQ z.1 z.2.1) = D.tup [iN (vl m w r).1, iN (vl m w r).2] := by
  unfold vl
  cases wk m w r w 1 1 with
  | none => rfl
  | some z => rfl
theorem vl_lt {m : Nat} {w : Nat → Nat} {r : Rec} (ho : RecOk r) (hB : Bd m w w 1 1 r.length 1) (hr : r.length ≤ 5) : (vl m w r).1 < 2 ^ 60 ∧ 0 < (vl m w r).2 ∧ (vl m w r).2 < 2 ^ 60 := by
  unfold vl
  cases h : wk m w r w 1 1 with
  | none => exact ⟨by decide, by decide, by decide⟩
  | some z =>
    have h1 := wk_bd2 ho hB h
    exact fr_le h1.hq h1.hp (Nat.lt_of_lt_of_le h1.hq2 (Nat.pow_le_pow_right (by decide) (by omega)))
abbrev bA3 : M Fl := (mSeq (mIf (mNot (mTru fTru (mCall 2 F__law_asked (mCons (mVar 0) (mCons (mVar 6) mNil))))) (mRet (M.pure (.v (.bl false)))) mNx)
    (mSeq (mAsg (mCall 2 F_chance_of (mCons (mVar 0) (mCons (mVar 6) mNil))) (mSet 10))
    (mAsg (mCall 2 F__law_lowest (mCons (mFz (mOp fAdd (mOp fMul (mPk 8) (mOp fIx (mPk 10) (M.pure (.v (.int 1))))) (mOp fMul (mOp fIx (mPk 10) (M.pure (.v (.int 0)))) (mPk 9)))) (mCons (mFz (mOp fMul (mPk 9) (mOp fIx (mPk 10) (M.pure (.v (.int 1)))))) mNil))) (mUnp 2 [(mSet 8), (mSet 9)]))))
abbrev T3 (m : Nat) (w : Nat → Nat) (R : D) (x2 x3 : Sl) (P Q : Nat) : Rho := [a0 (dW m w), a0 R, x2, x3, .any, .any, .any, .any, a0 (iN P), a0 (iN Q), .any, .any]
theorem foldl_sp_none {m : Nat} {w : Nat → Nat} : ∀ L : List Rec, L.foldl (sp m w) none = none
  | [] => rfl
  | r :: L => by rw [List.foldl_cons]; exact foldl_sp_none L
theorem log60 {n : Nat} (h : n < 2 ^ 60) : n.log2 < 60 := log2_le h (by decide)
theorem sum_loop {m : Nat} {w : Nat → Nat} {R : D} {x2 x3 : Sl} : ∀ (L : List Rec) (P Q P' Q' : Nat) (ρ : Rho), (∀ r ∈ L, RecOk r ∧ r.length ≤ 5 ∧ Bd m w w 1 1 r.length 1) → L.foldl (sp m w) (some (P, Q)) = some (P', Q') → fgt [6, 10] ρ = some (T3 m w R x2 x3 P Q) →
    mLoop (mSet 6) bA3 [6, 10] (RL L) ρ = .ok .nx (T3 m w R x2 x3 P' Q')
  | [], P, Q, P', Q', ρ, _, h, hf => by
    cases h
    exact mLoop_nil hf
  | r :: L, P, Q, P', Q', ρ, ho, h, hf => by
    rw [List.foldl_cons] at h
    obtain ⟨h1, h2, h3⟩ := ho r List.mem_cons_self
    obtain ⟨v1, v2, v3⟩ := vl_lt h1 h3 h2
    by_cases c : P < 2 ^ 60 ∧ 0 < Q ∧ Q < 2 ^ 60
    · have e : sp m w (some (P, Q)) r = some (fr (P * (vl m w r).2 + (vl m w r).1 * Q) (Q * (vl m w r).2)) := if_pos c
      rw [e] at h
      obtain ⟨c1, c2, c3⟩ := c
      have hch := chance_of_ev h1 h3
      have ev := vl_d (m := m) (w := w) (r := r)
      have hch : Val F_chance_of [a0 (dW m w), a0 (lR r)] (.val (.tup [iN (vl m w r).1, iN (vl m w r).2])) := by rw [← ev]; exact hch
      have m1 : P * (vl m w r).2 < 2 ^ 60 * 2 ^ 60 := Nat.mul_lt_mul'' c1 v3
      have m2 : (vl m w r).1 * Q < 2 ^ 60 * 2 ^ 60 := Nat.mul_lt_mul'' v1 c3
      have m3 : Q * (vl m w r).2 < 2 ^ 60 * 2 ^ 60 := Nat.mul_lt_mul'' c3 v3
      have m4 : 0 < Q * (vl m w r).2 := Nat.mul_pos c2 v2
      have l1 := log60 c1
      have l2 := log60 c3
      have l3 := log60 v1
      have l4 := log60 v3
      have hlow := llowest_ev (p := P * (vl m w r).2 + (vl m w r).1 * Q) (q := Q * (vl m w r).2) m4 (Nat.lt_of_lt_of_le m3 (by rw [← Nat.pow_add]; exact Nat.pow_le_pow_right (by decide) (by decide))) (by omega)
      have hb1 : bA3 [a0 (dW m w), a0 R, x2, x3, .any, .any, a0 (lR r), .any, a0 (iN P), a0 (iN Q), .any, .any] = .ok .nx [a0 (dW m w), a0 R, x2, x3, .any, .any, a0 (lR r), .any, a0 (iN (fr (P * (vl m w r).2 + (vl m w r).1 * Q) (Q * (vl m w r).2)).1), a0 (iN (fr (P * (vl m w r).2 + (vl m w r).1 * Q) (Q * (vl m w r).2)).2), a0 (.tup [iN (vl m w r).1, iN (vl m w r).2]), .any] := by
        refine seq_ok (if_f (not_ok (b := true) (tru_ok (call_ok (ds := [dW m w, lR r]) rfl rfl (asked_ev h1 h3)) rfl)) rfl) ?_
        refine seq_ok (ρ1 := [a0 (dW m w), a0 R, x2, x3, .any, .any, a0 (lR r), .any, a0 (iN P), a0 (iN Q), a0 (.tup [iN (vl m w r).1, iN (vl m w r).2]), .any]) (asg_ok (call_ok (ds := [dW m w, lR r]) rfl rfl hch) rfl) ?_
        refine asg_ok (call_ok (ds := [iN (P * (vl m w r).2 + (vl m w r).1 * Q), iN (Q * (vl m w r).2)]) (cons_ok (fz_v (op_ok (op_ok rfl (op_ok rfl rfl ixT1) (mulN _ _ (by omega))) (op_ok (op_ok rfl rfl ixT0) rfl (mulN _ _ (by omega))) (addN _ _))) (cons_ok (fz_v (op_ok rfl (op_ok rfl rfl ixT1) (mulN _ _ (by omega)))) nil_ok)) rfl hlow) rfl
      show mLoop _ _ _ (lR r :: RL L) _ = _
      rw [mLoop_cons hf (show mSet 6 (.v (lR r)) _ = some [a0 (dW m w), a0 R, x2, x3, .any, .any, a0 (lR r), .any, a0 (iN P), a0 (iN Q), .any, .any] from rfl), hb1]
      exact sum_loop L _ _ P' Q' _ (fun r' h' => ho r' (List.mem_cons_of_mem _ h')) h rfl
    · have e : sp m w (some (P, Q)) r = none := if_neg c
      rw [e, foldl_sp_none] at h
      cases h
theorem ex_ok {m : Nat} (hm : m ≤ 8) : ∀ (rows : List (List Nat)) (L : List Rec) (k : Nat), (∀ b ∈ rows, ∀ x ∈ b, x < 10) → (∀ r ∈ L, RecOk r ∧ r.length = k) → ∀ r ∈ rows.foldl (ex m) L, RecOk r ∧ r.length = k + rows.length
  | [], L, k, _, h => h
  | b :: rows, L, k, hb, h => by
    rw [List.foldl_cons, List.length_cons, show k + (rows.length + 1) = k + 1 + rows.length from by omega]
    refine ex_ok hm rows (ex m L b) (k + 1) (fun b' h' => hb b' (List.mem_cons_of_mem _ h')) fun r' h' => ?_
    obtain ⟨r0, h0, h1⟩ := List.mem_flatMap.mp h'
    obtain ⟨n, hn, h2⟩ := List.mem_map.mp h1
    subst h2
    obtain ⟨k1, k2⟩ := h r0 h0
    refine ⟨fun e he => ?_, by rw [List.length_append, k2]; rfl⟩
    rcases List.mem_append.mp he with z | z
    · exact k1 e z
    · have : e = (b, n) := by simpa using z
      subst this
      refine ⟨?_, hb b List.mem_cons_self⟩
      rcases List.mem_append.mp hn with z | z
      · have := List.mem_range.mp z
        show n < 10
        omega
      · have : n = 9 := by simpa using z
        show n < 10
        omega
theorem Bd.le {m : Nat} {w s : Nat → Nat} {p q k k' i : Nat} (h : Bd m w s p q k i) (hk : k' ≤ k) : Bd m w s p q k' i := ⟨h.hm, h.hw, h.hs, h.hp, h.hq, h.hq2, by have := h.hi; omega⟩
theorem all_ev {m : Nat} {w : Nat → Nat} {rows : List (List Nat)} (hB : Bd m w w 1 1 rows.length 1) (hr : rows.length ≤ 5) (hc : (m + 1) ^ rows.length < 100000) (hb : ∀ b ∈ rows, (∀ x ∈ b, x < 10) ∧ sm m (abl b) ≠ 0) : Val F__law_all [a0 (dW m w), a0 (.lst (rows.map dB))] (.val (.bl true)) := by
  have hm := hB.hm
  have h1 : mLc (mSeqIt (mPk 0)) (mSet 11) (M.pure true) (mFz (mOp fIx (mPk 11) (M.pure (.v (.int 0))))) [11] [a0 (dW m w), a0 (.lst (rows.map dB)), o0 (RL [[]]), .any, .any, .any, .any, .any, .any, .any, .any, .any] = .ok (.o ((List.range m).map dN)) [a0 (dW m w), a0 (.lst (rows.map dB)), o0 (RL [[]]), .any, .any, .any, .any, .any, .any, .any, .any, .any] :=
    lc_all (xs := List.range m) (dP w) dN (sit_ok (fz_v rfl) rfl) (by rw [List.length_range]; omega) rfl rfl rfl fun k hk => ⟨_, _, rfl, fz_v (fz_v (op_ok rfl rfl ixT0)), rfl⟩
  have h2 : mOp fAdd (mLc (mSeqIt (mPk 0)) (mSet 11) (M.pure true) (mFz (mOp fIx (mPk 11) (M.pure (.v (.int 0))))) [11]) (mLst (mCons (M.pure (.v (.str "zed"))) mNil)) [a0 (dW m w), a0 (.lst (rows.map dB)), o0 (RL [[]]), .any, .any, .any, .any, .any, .any, .any, .any, .any] = .ok (.o ((nl m).map dN)) [a0 (dW m w), a0 (.lst (rows.map dB)), o0 (RL [[]]), .any, .any, .any, .any, .any, .any, .any, .any, .any] := by
    have e : (nl m).map dN = (List.range m).map dN ++ [dN 9] := by
      show (List.range m ++ [9]).map dN = _
      rw [List.map_append]
      rfl
    rw [e]
    exact op_ok (y := .o [dN 9]) h1 rfl (catL_oo (by simp; omega))
  have h3 : mSet 3 (.o ((nl m).map dN)) [a0 (dW m w), a0 (.lst (rows.map dB)), o0 (RL [[]]), .any, .any, .any, .any, .any, .any, .any, .any, .any] = some (T2 m w (.lst (rows.map dB)) (o0 (RL [[]])) (o0 ((nl m).map dN))) := rfl
  have h4 := asg_ok h2 h3
  have h00 : ∀ r ∈ ([[]] : List Rec), r.length + rows.length ≤ 1000 := fun r h' => by
    have e : r = [] := by simpa using h'
    subst e
    simp
    omega
  obtain ⟨x2, x3, k1, k2, k3⟩ := row_loop (m := m) (w := w) (R := .lst (rows.map dB)) rows [[]] (o0 (RL [[]])) (o0 ((nl m).map dN)) (T2 m w (.lst (rows.map dB)) (o0 (RL [[]])) (o0 ((nl m).map dN))) Lf.o Lf.o h00 (by simpa using hc) rfl
  have hsum := all_sum hB hr hb
  have hx2 : ∃ y2, mSeqIt (mPk 2) (T3 m w (.lst (rows.map dB)) x2 x3 0 1) = .ok (RL (rows.foldl (ex m) [[]])) (T3 m w (.lst (rows.map dB)) y2 x3 0 1) ∧ Lf y2 (RL (rows.foldl (ex m) [[]])) := by
    rcases k1 with h | h
    · subst h
      exact ⟨_, sit_ok (fz_pk rfl (var_o rfl)) rfl, Lf.f⟩
    · subst h
      exact ⟨_, rfl, Lf.f⟩
  obtain ⟨y2, k4, k4'⟩ := hx2
  have hrec := ex_ok hm rows [[]] 0 (fun b hb' => (hb b hb').1) (fun r hr => by
    have : r = [] := by simpa using hr
    subst this
    exact ⟨(fun e he => absurd he List.not_mem_nil), rfl⟩)
  have k5 := sum_loop (m := m) (w := w) (R := .lst (rows.map dB)) (x2 := y2) (x3 := x3) (rows.foldl (ex m) [[]]) 0 1 1 1 (T3 m w (.lst (rows.map dB)) y2 x3 0 1) (fun r h' => by
    obtain ⟨q1, q2⟩ := hrec r h'
    exact ⟨q1, by omega, hB.le (by omega)⟩) hsum (by rcases k4' with h | h <;> subst h <;> rcases k2 with h' | h' <;> subst h' <;> rfl)
  have a1 : mAsg (M.pure (.v (.int 0))) (mSet 8) (T2 m w (.lst (rows.map dB)) x2 x3) = .ok .nx [a0 (dW m w), a0 (.lst (rows.map dB)), x2, x3, .any, .any, .any, .any, a0 (iN 0), .any, .any, .any] := rfl
  have a2 : mAsg (M.pure (.v (.int 1))) (mSet 9) [a0 (dW m w), a0 (.lst (rows.map dB)), x2, x3, .any, .any, .any, .any, a0 (iN 0), .any, .any, .any] = .ok .nx (T3 m w (.lst (rows.map dB)) x2 x3 0 1) := rfl
  refine val_run (ρ := T3 m w (.lst (rows.map dB)) y2 x3 1 1) ?_
  refine seq_ok (ρ1 := [a0 (dW m w), a0 (.lst (rows.map dB)), o0 (RL [[]]), .any, .any, .any, .any, .any, .any, .any, .any, .any]) rfl ?_
  refine seq_ok h4 (seq_ok (for_ok (sit_ok (fz_v rfl) rfl) k3) (seq_ok a1 (seq_ok a2 (seq_ok (for_ok k4 k5) ?_))))
  refine ret_ok (andV_t (tru_ok (op_ok rfl rfl (eqN false 1 1)) rfl) (op_ok rfl rfl (Eq.trans (eqN false 1 1) ?_)))
  rfl
end K62
set_option Elab.async false
set_option linter.all false
set_option maxRecDepth 100000
set_option maxHeartbeats 2000000
namespace K62
open PySem PySem.Spec PyProof.Rows L2 Pd
variable {ρ ρ1 : Rho}
theorem count_cast (l : List Nat) (k : Nat) : (l.map fun (n : Nat) => (n : Int)).count (k : Int) = l.count k := by
  induction l with
  | nil => rfl
  | cons x l ih =>
    rw [List.map_cons, List.count_cons, List.count_cons, ih]
    congr 1
    by_cases h : x = k
    · subst h; simp
    · have h' : ¬ ((x : Int) = (k : Int)) := fun z => h (Int.ofNat.inj z)
      simp [h, h']
theorem count_ok {l : List Nat} {k i : Nat} (h : ρ[i]? = some (oN l)) : fCount (.pk i) [.v (iN k)] ρ = some (.v (iN (l.count k))) := by
  show ((Pd.Tm.pk i).elsF ρ).bind (fun ds => (ints? ds).map fun ns => Pd.Tm.v (.int ((ns.count (k : Int) : Nat) : Int))) = _
  rw [elsF_pk h, Option.bind_some, intsN, Option.map_some, count_cast]
theorem mt_ok {f : Pd.Tm → List Pd.Tm → Rho → Option Pd.Tm} {mo : M Pd.Tm} {ms : M (List Pd.Tm)} {x t : Pd.Tm} {ts : List Pd.Tm} {ρ ρ1 ρ2 : Rho} (h : mo ρ = .ok x ρ1) (hl : isLst x ρ1 = some ()) (hs : ms ρ1 = .ok ts ρ2) (k : f x ts ρ2 = some t) : mMt f mo ms ρ = .ok t ρ2 :=
  (bind_ok h).trans ((bind_ok (lift_ok hl)).trans ((bind_ok hs).trans (lift_ok k)))
theorem isLst_pk {i : Nat} {ds : List D} (h : ρ[i]? = some (o0 ds)) : isLst (.pk i) ρ = some () := by
  unfold isLst
  rw [elsF_pk h]
  rfl
theorem inF {α : Type} (neg : Bool) (xs : List α) : fIn neg (.v (.bl false)) (.o (xs.map fun _ => D.bl true)) ρ = some (.v (.bl neg)) := by
  have e : ∀ xs : List α, inD (.bl false) (xs.map fun _ => D.bl true) = false := fun xs => by
    unfold inD
    induction xs with
    | nil => rfl
    | cons x xs ih => rw [List.map_cons, List.any_cons, ih]; simp [D.py, PyData.eqv]
  unfold fIn Pd.orF
  have e1 : fInT neg (.v (.bl false)) (.o (xs.map fun _ => D.bl true)) ρ = none := rfl
  rw [e1]
  unfold fInL
  rw [elsF_o]
  show when _ _ = _
  rw [when_t ⟨by simp [D.dep, Rv.toD], deps_map (fun _ => D.bl true) 59 xs fun _ _ => by simp [D.dep]⟩]
  show some (Pd.Tm.v (.bl (if neg = true then !inD (.bl false) (xs.map fun _ => D.bl true) else inD (.bl false) (xs.map fun _ => D.bl true)))) = _
  rw [e]
  cases neg <;> rfl
theorem foldl_fil {β : Type} (p : Nat → Bool) (f : Nat → β) : ∀ (l : List Nat) (z : List β), l.foldl (fun z k => if p k = true then z ++ [f k] else z) z = z ++ (l.filter p).map f
  | [], z => by simp
  | k :: l, z => by
    rw [List.foldl_cons, foldl_fil p f l]
    cases h : p k with
    | true => rw [List.filter_cons_of_pos h]; simp
    | false => rw [List.filter_cons_of_neg (by rw [h]; exact Bool.false_ne_true)]; simp
abbrev due (m : Nat) (w s : Nat → Nat) (b : List Nat) (k : Nat) : D := .tup [dN k, dQ (cc m w b s k) (sm m (cc m w b s))]
abbrev ST (m : Nat) (w s : Nat → Nat) (b : List Nat) (x3 x4 x5 x6 x7 x8 x9 x10 : Sl) : Rho := [a0 (dW m w), a0 (dS m s), a0 (dB b), x3, x4, x5, x6, x7, x8, x9, x10]
theorem try_ok {i : Nat} {c : Str → Option Bool} {mb : M Fl} {ms : Addr → Str → M Fl} {f : Fl} {ρ ρ1 : Rho} (h : mb ρ = .ok f ρ1) : mTry i c mb ms ρ = .ok f ρ1 := by
  unfold mTry
  rw [h]
theorem state_err {m : Nat} {w s : Nat → Nat} {b : List Nat} (h : Ok m w s b) (hz : sm m (abl b) = 0) : Val F__law_state [a0 (dW m w), a0 (dS m s), a0 (dB b)] (.val (.bl true)) := by
  have hm := h.hm
  refine val_run (ρ := ST m w s b .any .any .any .any .any .any .any .any) ?_
  refine seq_rt ?_
  have h1 : mAsg (mCall 3 F_chances (mCons (mVar 0) (mCons (mVar 1) (mCons (mVar 2) mNil)))) (mSet 3) (ST m w s b .any .any .any .any .any .any .any .any) = .err "Refused" (ST m w s b .any .any .any .any .any .any .any .any) := asg_err (call_er (ds := [dW m w, dS m s, dB b]) rfl rfl (chances_err h hz))
  have told : Val (G__law_told 0 "Refused") [a0 (.exc 0)] (.val (.str "Refused")) := ⟨_, told_ev 0⟩
  have h2 : (mRet (mAndV (mNotV (mCall 2 (G__law_able 0 "Refused") (mCons (mVar 0) (mCons (mVar 2) mNil)))) (mOp (fEqN false) (mCall 1 (G__law_told 0 "Refused") (mCons (mVar 4) mNil)) (M.pure (.v (.str "Refused")))))) (ST m w s b .any (a0 (.exc 0)) .any .any .any .any .any .any) = .ok (.rt (.val (.bl true))) (ST m w s b .any (a0 (.exc 0)) .any .any .any .any .any .any) := by
    refine ret_ok (andV_t (tru_ok (notV_ok (b := false) (tru_ok (call_ok (ds := [dW m w, dB b]) rfl rfl (lableG_ev 0 hm h.hb)) (by show some _ = _; simp [hz]))) rfl) (op_ok (call_ok (ds := [.exc 0]) rfl rfl told) rfl (Eq.trans (eqS false _ _ sR sR) ?_)))
    simp
  unfold mTry
  rw [show mAsg (mCall 3 F_chances (mCons (mVar 0) (mCons (mVar 1) (mCons (mVar 2) mNil)))) (mSet 3) ([a0 (dW m w), a0 (dS m s), a0 (dB b)] ++ List.replicate (11 - 3) .any) = _ from h1]
  have hc : ct__law_state "Refused" = some true := if_pos rfl
  simp only [hc]
  show unexc 4 ((mRet (mAndV (mNotV (mCall 2 (G__law_able 0 "Refused") (mCons (mVar 0) (mCons (mVar 2) mNil)))) (mOp (fEqN false) (mCall 1 (G__law_told 0 "Refused") (mCons (mVar 4) mNil)) (M.pure (.v (.str "Refused")))))) (ST m w s b .any (a0 (.exc 0)) .any .any .any .any .any .any)) = _
  rw [h2]
  rfl
end K62
set_option Elab.async false
set_option linter.all false
set_option maxRecDepth 100000
set_option maxHeartbeats 2000000
namespace K62
open PySem PySem.Spec PyProof.Rows L2 Pd
variable {ρ ρ1 : Rho}
abbrev bST : M Fl := (mIf (mTru fBl (mOp fGt (mMt fCount (mPk 6) (mCons (mPk 9) mNil)) (M.pure (.v (.int 0))))) (mApp 8 (mTup (mCons (mFz (mOp fIx (mOp fIx (mPk 0) (mPk 9)) (M.pure (.v (.int 0))))) (mCons (mFz (mCall 2 F__law_lowest (mCons (mFz (mMt fCount (mPk 6) (mCons (mPk 9) mNil))) (mCons (mCl fLen (mCons (mPk 6) mNil)) mNil)))) mNil)))) mNx)
theorem state_body {m : Nat} {w s : Nat → Nat} {b : List Nat} {x3 x5 x7 : Sl} {k : Nat} {L : List D} (h : Ok m w s b) (hk : k < m) (hL : L.length ≤ 100) :
    bST (ST m w s b x3 .any x5 (oN (row m w s b)) x7 (o0 L) (a0 (iN k)) .any) = .ok .nx (ST m w s b x3 .any x5 (oN (row m w s b)) x7 (o0 (if decide (0 < cc m w b s k) = true then L ++ [due m w s b k] else L)) (a0 (iN k)) .any) := by
  have hrl := row_len (m := m) (w := w) (s := s) (b := b)
  have ht := tot_lt h
  have hct : (row m w s b).count k = cc m w b s k := by rw [rowl_count, if_pos hk]
  have hcnt : ∀ {x8 : Sl}, mMt fCount (mPk 6) (mCons (mPk 9) mNil) (ST m w s b x3 .any x5 (oN (row m w s b)) x7 x8 (a0 (iN k)) .any) = .ok (.v (iN (cc m w b s k))) (ST m w s b x3 .any x5 (oN (row m w s b)) x7 x8 (a0 (iN k)) .any) := fun {x8} =>
    mt_ok rfl (isLst_pk rfl) (cons_ok rfl nil_ok) (Eq.trans (count_ok rfl) (by rw [hct]))
  refine if_d (tru_ok (op_ok hcnt rfl (gtN _ 0)) rfl) (fun e => ?_) fun e => ?_
  · rw [if_pos e]
    have e' := of_decide_eq_true e
    have htp : 0 < sm m (cc m w b s) := Nat.lt_of_lt_of_le e' (sm_get hk)
    have hcl : cc m w b s k < 2 ^ 199 := Nat.lt_of_le_of_lt (sm_get hk) (Nat.lt_of_lt_of_le ht (Nat.pow_le_pow_right (by decide) (by decide)))
    have p1 : mFz (mOp fIx (mOp fIx (mPk 0) (mPk 9)) (M.pure (.v (.int 0)))) (ST m w s b x3 .any x5 (oN (row m w s b)) x7 (o0 L) (a0 (iN k)) .any) = .ok (.v (dN k)) (ST m w s b x3 .any x5 (oN (row m w s b)) x7 (o0 L) (a0 (iN k)) .any) := fz_v (op_ok (op_ok rfl rfl (ixt hk)) rfl ixT0)
    have p2 : mCl fLen (mCons (mPk 6) mNil) (ST m w s b x3 .any x5 (oN (row m w s b)) x7 (o0 L) (a0 (iN k)) .any) = .ok (.v (iN (sm m (cc m w b s)))) (ST m w s b x3 .any x5 (oN (row m w s b)) x7 (o0 L) (a0 (iN k)) .any) := cl_ok (cons_ok rfl nil_ok) (Eq.trans (len_o rfl) (by rw [List.length_map, hrl]))
    have p3 := cons_ok (fz_v (hcnt (x8 := o0 L))) (cons_ok p2 nil_ok)
    have p4 := fz_v (call_ok (n := 2) (ds := [iN (cc m w b s k), iN (sm m (cc m w b s))]) p3 rfl (llowest_ev htp (big ht) hcl))
    have p5 := cons_ok p1 (cons_ok p4 nil_ok)
    have p6 := cl_ok (f := fTup) (t := .v (due m w s b k)) p5 rfl
    have p7 := app_ok (i := 8) (ds := L) p6 rfl rfl (by omega)
    exact p7
  · rw [if_neg (by rw [e]; exact Bool.false_ne_true)]
    rfl
theorem state_loop {m : Nat} {w s : Nat → Nat} {b : List Nat} {x3 x5 x7 : Sl} (h : Ok m w s b) : mFor (mRng1 (mCons (mCl fLen (mCons (mPk 0) mNil)) mNil)) (mSet 9) bST [9] (ST m w s b x3 .any x5 (oN (row m w s b)) x7 (o0 []) .any .any) =
    .ok .nx (ST m w s b x3 .any x5 (oN (row m w s b)) x7 (o0 ((pos m w s b).map (due m w s b))) .any .any) := by
  have hm := h.hm
  have hit : mRng1 (mCons (mCl fLen (mCons (mPk 0) mNil)) mNil) (ST m w s b x3 .any x5 (oN (row m w s b)) x7 (o0 []) .any .any) = .ok ((List.range m).map fun (i : Nat) => D.int (i : Int)) (ST m w s b x3 .any x5 (oN (row m w s b)) x7 (o0 []) .any .any) := by
    refine rng1_ok (n := m) (cons_ok (cl_ok (cons_ok rfl nil_ok) (Eq.trans len_t ?_)) nil_ok) (by omega)
    rw [List.length_map, List.length_range]
  refine for_ok hit ?_
  have key := mLoop_fold (tg := mSet 9) (b := bST) (js := [9]) (ρ := ST m w s b x3 .any x5 (oN (row m w s b)) x7 (o0 []) .any .any) iN (fun L => ST m w s b x3 .any x5 (oN (row m w s b)) x7 (o0 L) .any .any) (fun z k => if decide (0 < cc m w b s k) = true then z ++ [due m w s b k] else z) (List.range m) [] rfl ?_
  · rw [foldl_fil (fun k => decide (0 < cc m w b s k)) (due m w s b), List.nil_append] at key
    exact key
  · intro pr k post hpk
    have hk : k < m := List.mem_range.mp (by rw [hpk]; simp)
    have hpl : pr.length ≤ m := by
      have : (List.range m).length = (pr ++ k :: post).length := by rw [hpk]
      rw [List.length_range, List.length_append, List.length_cons] at this
      omega
    rw [List.foldl_append, foldl_fil (fun k => decide (0 < cc m w b s k)) (due m w s b), List.nil_append, List.foldl_cons, List.foldl_nil]
    refine ⟨ST m w s b x3 .any x5 (oN (row m w s b)) x7 (o0 ((pr.filter fun k => decide (0 < cc m w b s k)).map (due m w s b))) (a0 (iN k)) .any, _, rfl, .inl (state_body h hk ?_), rfl⟩
    rw [List.length_map]
    exact Nat.le_trans (List.length_filter_le _ _) (by omega)
theorem state_ok {m : Nat} {w s : Nat → Nat} {b : List Nat} (h : Ok m w s b) (hz : sm m (abl b) ≠ 0) : Val F__law_state [a0 (dW m w), a0 (dS m s), a0 (dB b)] (.val (.bl true)) := by
  have hm := h.hm
  have ht := tot_lt h
  have hpl : (pos m w s b).length ≤ 8 := Nat.le_trans (List.length_filter_le _ _) (by rw [List.length_range]; exact hm)
  have hpm : ∀ k ∈ pos m w s b, k < m := fun k hk => List.mem_range.mp (List.mem_filter.mp hk).1
  have hpc : ∀ k ∈ pos m w s b, 0 < cc m w b s k := fun k hk => of_decide_eq_true (List.mem_filter.mp hk).2
  let X3 : Sl := a0 (.tup ((pos m w s b).map (due m w s b)))
  let U : Sl → Rho := fun x8 => ST m w s b X3 .any (oS m (cs m w b s)) (oN (row m w s b)) (a0 (iN (fil m s b))) x8 .any .any
  have hdl : ∀ k, (due m w s b k).dep ≤ 2 := fun k => by simp [due, D.dep, D.deps, nm_ok]
  have c1 : mLc (mSeqIt (mPk 3)) (mSet 10) (M.pure true) (mAndV (mUn (fIsi "tuple") (mPk 10)) (mOp (fEqN false) (mCl fLen (mCons (mPk 10) mNil)) (M.pure (.v (.int 2))))) [10] (U (o0 ((pos m w s b).map (due m w s b)))) = .ok (.o ((pos m w s b).map fun _ => D.bl true)) (U (o0 ((pos m w s b).map (due m w s b)))) :=
    lc_all (xs := pos m w s b) (due m w s b) (fun _ => D.bl true) (sit_ok (fz_v rfl) rfl) (by omega) rfl rfl rfl fun k hk => ⟨_, _, rfl, fz_v (andV_t (tru_ok (un_ok rfl isi_tup) rfl) (op_ok (cl_ok (cons_ok rfl nil_ok) len_t) rfl (eqN false 2 2))), rfl⟩
  have c2 : mLc (mSeqIt (mPk 3)) (mSet 10) (M.pure true) (mFz (mOp fIx (mPk 10) (M.pure (.v (.int 0))))) [10] (U (o0 ((pos m w s b).map (due m w s b)))) = .ok (.o ((pos m w s b).map dN)) (U (o0 ((pos m w s b).map (due m w s b)))) :=
    lc_all (xs := pos m w s b) (due m w s b) dN (sit_ok (fz_v rfl) rfl) (by omega) rfl rfl rfl fun k hk => ⟨_, _, rfl, fz_v (fz_v (op_ok rfl rfl ixT0)), rfl⟩
  have c3 : mLc (mSeqIt (mPk 8)) (mSet 10) (M.pure true) (mFz (mOp fIx (mPk 10) (M.pure (.v (.int 0))))) [10] (U (o0 ((pos m w s b).map (due m w s b)))) = .ok (.o ((pos m w s b).map dN)) (U (a0 (.lst ((pos m w s b).map (due m w s b))))) :=
    lc_all (xs := pos m w s b) (due m w s b) dN (ρ1 := U (a0 (.lst ((pos m w s b).map (due m w s b))))) (sit_ok (fz_pk rfl (var_o rfl)) rfl) (by omega) rfl rfl rfl fun k hk => ⟨_, _, rfl, fz_v (fz_v (op_ok rfl rfl ixT0)), rfl⟩
  have hb10 : ∀ x ∈ pos m w s b, x < 10 := fun x hx => by have := hpm x hx; omega
  have c4 : mRng1 (mCons (mCl fLen (mCons (mPk 8) mNil)) mNil) (U (a0 (.lst ((pos m w s b).map (due m w s b))))) = .ok ((List.range (pos m w s b).length).map fun (i : Nat) => D.int (i : Int)) (U (a0 (.lst ((pos m w s b).map (due m w s b))))) := by
    refine rng1_ok (cons_ok (cl_ok (cons_ok rfl nil_ok) (Eq.trans len_l ?_)) nil_ok) (Nat.lt_of_le_of_lt hpl (by decide))
    rw [List.length_map]
  have c5 : mLc (mRng1 (mCons (mCl fLen (mCons (mPk 8) mNil)) mNil)) (mSet 9) (M.pure true) (mFz (mCall 2 F__law_is (mCons (mFz (mOp fIx (mOp fIx (mPk 3) (mPk 9)) (M.pure (.v (.int 1))))) (mCons (mFz (mOp fIx (mOp fIx (mPk 8) (mPk 9)) (M.pure (.v (.int 1))))) mNil)))) [9] (U (a0 (.lst ((pos m w s b).map (due m w s b))))) = .ok (.o ((List.range (pos m w s b).length).map fun _ => D.bl true)) (U (a0 (.lst ((pos m w s b).map (due m w s b))))) := by
    refine lc_all (xs := List.range (pos m w s b).length) iN (fun _ => D.bl true) c4 (by rw [List.length_range]; omega) rfl rfl rfl fun k hk => ?_
    have hk := List.mem_range.mp hk
    have his := is_ev (a := cc m w b s (pos m w s b)[k] / Nat.gcd (cc m w b s (pos m w s b)[k]) (sm m (cc m w b s))) (b := sm m (cc m w b s) / Nat.gcd (cc m w b s (pos m w s b)[k]) (sm m (cc m w b s))) (c := cc m w b s (pos m w s b)[k] / Nat.gcd (cc m w b s (pos m w s b)[k]) (sm m (cc m w b s))) (d := sm m (cc m w b s) / Nat.gcd (cc m w b s (pos m w s b)[k]) (sm m (cc m w b s)))
    rw [decide_eq_true rfl, decide_eq_true rfl, Bool.and_true] at his
    exact ⟨_, _, rfl, fz_v (fz_v (call_ok (ds := [dQ (cc m w b s (pos m w s b)[k]) (sm m (cc m w b s)), dQ (cc m w b s (pos m w s b)[k]) (sm m (cc m w b s))]) (cons_ok (fz_v (op_ok (op_ok rfl rfl (ixT_at (e := due m w s b) rfl rfl hk)) rfl ixT1)) (cons_ok (fz_v (op_ok (op_ok rfl rfl (ixL_at (e := due m w s b) rfl hk)) rfl ixT1)) nil_ok)) rfl his)), rfl⟩
  refine val_run (ρ := U (a0 (.lst ((pos m w s b).map (due m w s b))))) ?_
  have d1 : mAsg (mCall 3 F_chances (mCons (mVar 0) (mCons (mVar 1) (mCons (mVar 2) mNil)))) (mSet 3) (ST m w s b .any .any .any .any .any .any .any .any) = .ok .nx (ST m w s b X3 .any .any .any .any .any .any .any) := asg_ok (call_ok (ds := [dW m w, dS m s, dB b]) rfl rfl (chances_ev h hz)) rfl
  refine seq_ok (try_ok d1) ?_
  refine seq_ok (ρ1 := ST m w s b X3 .any .any .any .any .any .any .any) (if_f (or_f (not_ok (b := true) (tru_ok (call_ok (ds := [dW m w, dB b]) rfl rfl (lable_ev hm h.hb)) (by show some _ = _; simp [hz]))) (not_ok (b := true) (tru_ok (un_ok rfl isi_tup) rfl))) rfl) ?_
  have d2 : mAsg (mCall 3 F__law_step (mCons (mVar 0) (mCons (mVar 1) (mCons (mVar 2) mNil)))) (mUnp 3 [(mSet 5), (mSet 6), (mSet 7)]) (ST m w s b X3 .any .any .any .any .any .any .any) = .ok .nx (U .any) := asg_ok (call_ok (ds := [dW m w, dS m s, dB b]) rfl rfl (step_ev h)) rfl
  refine seq_ok d2 ?_
  refine seq_ok (ρ1 := U (o0 [])) rfl ?_
  refine seq_ok (state_loop h) ?_
  have e1 : mIf (mOr (mTru fBl (mOp (fIn false) (M.pure (.v (.bl false))) (mLc (mSeqIt (mPk 3)) (mSet 10) (M.pure true) (mAndV (mUn (fIsi "tuple") (mPk 10)) (mOp (fEqN false) (mCl fLen (mCons (mPk 10) mNil)) (M.pure (.v (.int 2))))) [10]))) (mTru fBl (mOp (fEqN true) (mLc (mSeqIt (mPk 3)) (mSet 10) (M.pure true) (mFz (mOp fIx (mPk 10) (M.pure (.v (.int 0))))) [10]) (mLc (mSeqIt (mPk 8)) (mSet 10) (M.pure true) (mFz (mOp fIx (mPk 10) (M.pure (.v (.int 0))))) [10])))) (mRet (M.pure (.v (.bl false)))) mNx (U (o0 ((pos m w s b).map (due m w s b)))) = .ok .nx (U (a0 (.lst ((pos m w s b).map (due m w s b))))) := by
    refine if_f (or_f (tru_ok (op_ok rfl c1 (inF false (pos m w s b))) rfl) (tru_ok (op_ok c2 c3 (eqLS true (a := pos m w s b) (b := pos m w s b) dat_o dat_o hb10 hb10)) (by show some _ = _; simp))) rfl
  refine seq_ok e1 ?_
  exact ret_ok (op_ok rfl c5 (inF true (List.range (pos m w s b).length)))
theorem state_ev {m : Nat} {w s : Nat → Nat} {b : List Nat} (h : Ok m w s b) : Val F__law_state [a0 (dW m w), a0 (dS m s), a0 (dB b)] (.val (.bl true)) := by
  by_cases hz : sm m (abl b) = 0
  · exact state_err h hz
  · exact state_ok h hz
end K62
set_option Elab.async false
set_option linter.all false
set_option maxRecDepth 100000
set_option maxHeartbeats 2000000
namespace K62
open PySem PySem.Spec PyProof.Rows L2 Pd
variable {ρ ρ1 : Rho}
/-! ### mixing -/
theorem xorN (a b : Nat) : fXor (.v (iN a)) (.v (iN b)) ρ = some (.v (iN (a ^^^ b))) := by
  show some (Pd.Tm.v (.int (Builtin.bitXor (a : Int) (b : Int)))) = _
  rw [Bits.bitXor_pp (by omega) (by omega)]
  rfl
theorem shrN (a k : Nat) : fShr (.v (iN a)) (.v (iN k)) ρ = some (.v (iN (a / 2 ^ k))) := by
  show when (0 ≤ (k : Int)) (some (Pd.Tm.v (.int ((a : Int) / 2 ^ ((k : Nat) : Int).toNat)))) = _
  rw [when_t (by omega), Int.toNat_natCast]
  congr 3
theorem pow61 : fPow (.v (.int 2)) (.v (.int 61)) ρ = some (.v (iN 2305843009213693952)) := by
  show when (CPow 2 61) (some (Pd.Tm.v (.int ((2 : Int) ^ (61 : Int).toNat)))) = _
  rw [when_t (show CPow 2 61 from ⟨by decide, by decide, by decide⟩)]
  rfl
theorem pow18 : fPow (.v (.int 10)) (.v (.int 18)) ρ = some (.v (iN 1000000000000000000)) := by
  show when (CPow 10 18) (some (Pd.Tm.v (.int ((10 : Int) ^ (18 : Int).toNat)))) = _
  rw [when_t (show CPow 10 18 from ⟨by decide, by decide, by decide⟩)]
  rfl
def mx1 (c t : Nat) : Nat := (c % 2305843009213693951 * 6364136223846793005 + t * 1442695040888963407 + 97) % 2305843009213693952
def mx2 (c t : Nat) : Nat := ((mx1 c t ^^^ (mx1 c t / 2 ^ 29)) * 3935559000370003845) % 2305843009213693952
def mx (c t : Nat) : Nat := ((mx2 c t ^^^ (mx2 c t / 2 ^ 31)) * 2862933555777941757) % 2305843009213693952
theorem mx_lt (c t : Nat) : mx c t < 2305843009213693952 := Nat.mod_lt _ (by decide)
theorem xor_lt61 {a k : Nat} (h : a < 2305843009213693952) : (a ^^^ (a / 2 ^ k)) < 2 ^ 61 := Nat.xor_lt_two_pow (by omega) (Nat.lt_of_le_of_lt (Nat.div_le_self _ _) (by omega))
theorem mixed_ev {c t : Nat} (ht : t < 2 ^ 60) : Val F__law_mixed [a0 (iN c), a0 (iN t)] (.val (iN (mx c t))) := by
  have h1 : mx1 c t < 2305843009213693952 := Nat.mod_lt _ (by decide)
  have h2 : mx2 c t < 2305843009213693952 := Nat.mod_lt _ (by decide)
  have lg : ∀ {n : Nat}, n < 2 ^ 63 → n.log2 < 63 := fun h => log2_le h (by decide)
  have k1 : c % 2305843009213693951 < 2305843009213693951 := Nat.mod_lt _ (by decide)
  have l1 := lg (n := c % 2305843009213693951) (by omega)
  have l2 := lg (n := t) (by omega)
  have l3 := lg (n := mx1 c t ^^^ (mx1 c t / 2 ^ 29)) (by have := xor_lt61 (k := 29) h1; omega)
  have l4 := lg (n := mx2 c t ^^^ (mx2 c t / 2 ^ 31)) (by have := xor_lt61 (k := 31) h2; omega)
  have m1 := lg (n := 6364136223846793005) (by decide)
  have m2 := lg (n := 1442695040888963407) (by decide)
  have m3 := lg (n := 3935559000370003845) (by decide)
  have m4 := lg (n := 2862933555777941757) (by decide)
  have p61 : ∀ {ρ : Rho}, mOp fPow (M.pure (.v (.int 2))) (M.pure (.v (.int 61))) ρ = .ok (.v (iN 2305843009213693952)) ρ := op_ok rfl rfl pow61
  have p61' : ∀ {ρ : Rho}, mOp fSub (mOp fPow (M.pure (.v (.int 2))) (M.pure (.v (.int 61)))) (M.pure (.v (.int 1))) ρ = .ok (.v (iN 2305843009213693951)) ρ := op_ok p61 rfl (subN 2305843009213693952 1 (by decide))
  refine val_run (ρ := [a0 (iN c), a0 (iN t), a0 (iN (mx2 c t))]) ?_
  have a1 : mAsg (mOp fMod (mOp fAdd (mOp fAdd (mOp fMul (mOp fMod (mPk 0) (mOp fSub (mOp fPow (M.pure (.v (.int 2))) (M.pure (.v (.int 61)))) (M.pure (.v (.int 1))))) (M.pure (.v (.int 6364136223846793005)))) (mOp fMul (mPk 1) (M.pure (.v (.int 1442695040888963407))))) (M.pure (.v (.int 97)))) (mOp fPow (M.pure (.v (.int 2))) (M.pure (.v (.int 61))))) (mSet 2) [a0 (iN c), a0 (iN t), .any] = .ok .nx [a0 (iN c), a0 (iN t), a0 (iN (mx1 c t))] :=
    asg_ok (op_ok (op_ok (op_ok (op_ok (op_ok rfl p61' (modN c _ (by decide))) rfl (mulN _ 6364136223846793005 (by omega))) (op_ok rfl rfl (mulN t 1442695040888963407 (by omega))) (addN _ _)) rfl (addN _ 97)) p61 (modN _ _ (by decide))) rfl
  refine seq_ok a1 ?_
  have a2 : mAsg (mOp fMod (mOp fMul (mOp fXor (mPk 2) (mOp fShr (mPk 2) (M.pure (.v (.int 29))))) (M.pure (.v (.int 3935559000370003845)))) (mOp fPow (M.pure (.v (.int 2))) (M.pure (.v (.int 61))))) (mSet 2) [a0 (iN c), a0 (iN t), a0 (iN (mx1 c t))] = .ok .nx [a0 (iN c), a0 (iN t), a0 (iN (mx2 c t))] :=
    asg_ok (op_ok (op_ok (op_ok rfl (op_ok rfl rfl (shrN _ 29)) (xorN _ _)) rfl (mulN _ 3935559000370003845 (by omega))) p61 (modN _ _ (by decide))) rfl
  refine seq_ok a2 ?_
  exact ret_ok (op_ok (op_ok (op_ok rfl (op_ok rfl rfl (shrN _ 31)) (xorN _ _)) rfl (mulN _ 2862933555777941757 (by omega))) p61 (modN _ _ (by decide)))
end K62
set_option Elab.async false
set_option linter.all false
set_option maxRecDepth 100000
set_option maxHeartbeats 2000000
namespace K62
open PySem PySem.Spec PyProof.Rows L2 Pd
variable {ρ ρ1 : Rho}
/-! ### drawing -/
abbrev drL (t l : Nat) (cs : List Nat) : List D := [iN t, iN l, .lst (cs.map iN)]
abbrev dr (t l : Nat) (cs : List Nat) : Rv := .own ((drL t l cs).map Rv.val)
theorem setIx0 {i j : Nat} {mk me : M Pd.Tm} {ds : List D} {d : D} {ρ ρ1 : Rho} (h0 : me ρ = .ok (.v d) ρ1) (h1 : mk ρ1 = .ok (.v (iN j)) ρ1) (hi : slR ρ1[i]? = some (.own (ds.map Rv.val))) (hj : j < ds.length) :
    mSetIx i mk me ρ = .ok .nx (setR i (.own ((ds.set j d).map Rv.val)) ρ1) := by
  refine (bind_ok h0).trans ((bind_ok (lift_ok (a := ()) ?_)).trans ((bind_ok h1).trans ((bind_ok (put_ok ?_)).trans rfl)))
  · unfold isL
    rw [hi]
  · unfold fSetIx
    rw [hi]
    have hix : ixN (ds.map Rv.val).length ((j : Nat) : Int) = some j := by
      unfold ixN
      rw [if_pos (by omega), if_pos (by simp; omega)]
      simp
    simp only [hix, Option.bind_some]
    rw [List.map_set]
theorem draw_ev {t l size : Nat} {cs : List Nat} (hs : 0 < size) (hs2 : size < 2 ^ 60) (ht : t < 2 ^ 60) (hc : cs ≠ []) :
    ∃ t' l' v, v < size ∧ t' ≤ t + 1 ∧ F__law_draw [.bor (dr t l cs), a0 (iN size)] = .ok (.val (iN v)) [.bor (dr t' l' cs), .any] := by
  have hlen : 0 < cs.length := List.length_pos_iff.mpr hc
  have hlog : size.log2 < 9000 := Nat.lt_of_lt_of_le (log60 hs2) (by decide)
  have tail : ∀ (t' l' : Nat) (x5 : Sl), (mSeq (mSetIx 0 (M.pure (.v (.int 0))) (mVar 2))
    (mSeq (mSetIx 0 (M.pure (.v (.int 1))) (mOp fDiv (mPk 3) (mPk 1)))
    (mRet (mOp fMod (mPk 3) (mPk 1))))) [.bor (dr t l cs), a0 (iN size), a0 (iN t'), a0 (iN l'), a0 (.lst (cs.map iN)), x5] = .ok (.rt (.val (iN (l' % size)))) [.bor (dr t' (l' / size) cs), a0 (iN size), a0 (iN t'), a0 (iN l'), a0 (.lst (cs.map iN)), x5] := fun t' l' x5 =>
    seq_ok (setIx0 (j := 0) (ds := drL t l cs) (d := iN t') rfl rfl rfl (by simp)) (seq_ok (setIx0 (j := 1) (ds := drL t' l cs) (d := iN (l' / size)) (op_ok rfl rfl (divN l' size hs hlog)) rfl rfl (by simp)) (ret_ok (op_ok rfl rfl (modN l' size hs))))
  have fin : ∀ (t' l' : Nat) (x5 : Sl), mIf (mTru fBl (mOp fLt (mPk 3) (mPk 1))) (mSeq (mAsg (mOp fIx (mPk 4) (mOp fMod (mPk 2) (mCl fLen (mCons (mPk 4) mNil)))) (mSet 5))
    (mSeq (mAsg (mIte (mAnd (mTru fBl (mOp fLt (mPk 2) (mCl fLen (mCons (mPk 4) mNil)))) (mTru fBl (mOp fGe (mPk 5) (mOp fPow (M.pure (.v (.int 10))) (M.pure (.v (.int 18))))))) (mVar 5) (mFz (mCall 2 F__law_mixed (mCons (mVar 5) (mCons (mVar 2) mNil))))) (mSet 3))
    (mAsg (mOp fAdd (mPk 2) (M.pure (.v (.int 1)))) (mSet 2)))) mNx [.bor (dr t l cs), a0 (iN size), a0 (iN t), a0 (iN l), a0 (.lst (cs.map iN)), .any] = .ok .nx [.bor (dr t l cs), a0 (iN size), a0 (iN t'), a0 (iN l'), a0 (.lst (cs.map iN)), x5] → F__law_draw [.bor (dr t l cs), a0 (iN size)] = .ok (.val (iN (l' % size))) [.bor (dr t' (l' / size) cs), .any] := fun t' l' x5 h => by
    have key : m__law_draw [.bor (dr t l cs), a0 (iN size), .any, .any, .any, .any] = .ok (.rt (.val (iN (l' % size)))) [.bor (dr t' (l' / size) cs), a0 (iN size), a0 (iN t'), a0 (iN l'), a0 (.lst (cs.map iN)), x5] :=
      seq_ok (ρ1 := [.bor (dr t l cs), a0 (iN size), a0 (iN t), a0 (iN l), a0 (.lst (cs.map iN)), .any]) rfl (seq_ok h (tail t' l' x5))
    unfold F__law_draw runDef
    rw [show m__law_draw ([.bor (dr t l cs), a0 (iN size)] ++ List.replicate (6 - 2) .any) = _ from key]
    rfl
  by_cases hl : l < size
  · have hix : t % cs.length < cs.length := Nat.mod_lt _ hlen
    have a1 : mAsg (mOp fIx (mPk 4) (mOp fMod (mPk 2) (mCl fLen (mCons (mPk 4) mNil)))) (mSet 5) [.bor (dr t l cs), a0 (iN size), a0 (iN t), a0 (iN l), a0 (.lst (cs.map iN)), .any] = .ok .nx [.bor (dr t l cs), a0 (iN size), a0 (iN t), a0 (iN l), a0 (.lst (cs.map iN)), a0 (iN cs[t % cs.length])] :=
      asg_ok (op_ok rfl (op_ok rfl (cl_ok (cons_ok rfl nil_ok) len_l) (t := .v (iN (t % cs.length))) (Eq.trans (modN t _ (by rw [List.length_map]; exact hlen)) (by rw [List.length_map]))) (ixL_at (e := iN) rfl hix)) rfl
    have a2 : ∃ l', mIte (mAnd (mTru fBl (mOp fLt (mPk 2) (mCl fLen (mCons (mPk 4) mNil)))) (mTru fBl (mOp fGe (mPk 5) (mOp fPow (M.pure (.v (.int 10))) (M.pure (.v (.int 18))))))) (mVar 5) (mFz (mCall 2 F__law_mixed (mCons (mVar 5) (mCons (mVar 2) mNil)))) [.bor (dr t l cs), a0 (iN size), a0 (iN t), a0 (iN l), a0 (.lst (cs.map iN)), a0 (iN cs[t % cs.length])] = .ok (.v (iN l')) [.bor (dr t l cs), a0 (iN size), a0 (iN t), a0 (iN l), a0 (.lst (cs.map iN)), a0 (iN cs[t % cs.length])] := by
      have t1 : mTru fBl (mOp fLt (mPk 2) (mCl fLen (mCons (mPk 4) mNil))) [.bor (dr t l cs), a0 (iN size), a0 (iN t), a0 (iN l), a0 (.lst (cs.map iN)), a0 (iN cs[t % cs.length])] = .ok (decide (t < (cs.map iN).length)) [.bor (dr t l cs), a0 (iN size), a0 (iN t), a0 (iN l), a0 (.lst (cs.map iN)), a0 (iN cs[t % cs.length])] := tru_ok (op_ok rfl (cl_ok (cons_ok rfl nil_ok) len_l) (ltN _ _)) rfl
      have t2 : mTru fBl (mOp fGe (mPk 5) (mOp fPow (M.pure (.v (.int 10))) (M.pure (.v (.int 18))))) [.bor (dr t l cs), a0 (iN size), a0 (iN t), a0 (iN l), a0 (.lst (cs.map iN)), a0 (iN cs[t % cs.length])] = .ok (decide (1000000000000000000 ≤ cs[t % cs.length])) [.bor (dr t l cs), a0 (iN size), a0 (iN t), a0 (iN l), a0 (.lst (cs.map iN)), a0 (iN cs[t % cs.length])] := tru_ok (op_ok rfl (op_ok rfl rfl pow18) (geN _ _)) rfl
      have t3 : mFz (mCall 2 F__law_mixed (mCons (mVar 5) (mCons (mVar 2) mNil))) [.bor (dr t l cs), a0 (iN size), a0 (iN t), a0 (iN l), a0 (.lst (cs.map iN)), a0 (iN cs[t % cs.length])] = .ok (.v (iN (mx cs[t % cs.length] t))) [.bor (dr t l cs), a0 (iN size), a0 (iN t), a0 (iN l), a0 (.lst (cs.map iN)), a0 (iN cs[t % cs.length])] := fz_v (call_ok (ds := [iN cs[t % cs.length], iN t]) rfl rfl (mixed_ev ht))
      cases h1 : decide (t < (cs.map iN).length) with
      | false =>
        rw [h1] at t1
        exact ⟨_, ite_ok (and_f t1) t3⟩
      | true =>
        rw [h1] at t1
        cases h2 : decide (1000000000000000000 ≤ cs[t % cs.length]) with
        | false =>
          rw [h2] at t2
          exact ⟨_, ite_ok (and_t t1 t2) t3⟩
        | true =>
          rw [h2] at t2
          exact ⟨_, ite_ok (and_t t1 t2) rfl⟩
    obtain ⟨l', a2⟩ := a2
    refine ⟨t + 1, l' / size, l' % size, Nat.mod_lt _ hs, Nat.le_refl _, fin (t + 1) l' (a0 (iN cs[t % cs.length])) ?_⟩
    refine if_t (tru_ok (op_ok rfl rfl (ltN l size)) (by show some _ = _; simp [hl])) ?_
    exact seq_ok a1 (seq_ok (asg_ok a2 rfl) (asg_ok (op_ok rfl rfl (addN t 1)) rfl))
  · refine ⟨t, l / size, l % size, Nat.mod_lt _ hs, Nat.le_succ _, fin t l .any ?_⟩
    exact if_f (tru_ok (op_ok rfl rfl (ltN l size)) (by show some _ = _; simp [hl])) rfl
end K62
set_option Elab.async false
set_option linter.all false
set_option maxRecDepth 100000
set_option maxHeartbeats 2000000
namespace K62
open PySem PySem.Spec PyProof.Rows L2 Pd
variable {ρ ρ1 : Rho}
theorem draw_call {ms : M (List Pd.Tm)} {i t l size : Nat} {cs : List Nat} {ρ ρ1 : Rho} (h : ms ρ = .ok [.pk i, .v (iN size)] ρ1) (hi : slR ρ1[i]? = some (dr t l cs)) (hs : 0 < size) (hs2 : size < 2 ^ 60) (ht : t < 2 ^ 60) (hc : cs ≠ []) :
    ∃ t' l' v, v < size ∧ t' ≤ t + 1 ∧ mCall 2 F__law_draw ms ρ = .ok (.rv (.val (iN v))) (setR i (dr t' l' cs) ρ1) := by
  obtain ⟨t', l', v, h1, h2, h3⟩ := draw_ev (l := l) hs hs2 ht hc
  refine ⟨t', l', v, h1, h2, (bind_ok h).trans ?_⟩
  have ha : args? ρ1 [.pk i, .v (iN size)] = some [.bor (dr t l cs), a0 (iN size)] := by
    show ((slR ρ1[i]?).map Sl.bor).bind _ = _
    rw [hi]
    rfl
  show callF F__law_draw [.pk i, .v (iN size)] ρ1 = _
  unfold callF
  rw [ha]
  show (if nPk [.pk i, .v (iN size)] ≤ 1 then fin (pkAt [.pk i, .v (iN size)]) ρ1 (F__law_draw [.bor (dr t l cs), a0 (iN size)]) else .bad) = _
  rw [h3]
  rfl
end K62
set_option Elab.async false
set_option linter.all false
set_option maxRecDepth 100000
set_option maxHeartbeats 2000000
namespace K62
open PySem PySem.Spec PyProof.Rows L2 Pd
variable {ρ ρ1 : Rho}
theorem sl_ok {mm : M Pd.Tm} {ml mh : M (Option Int)} {x t : Pd.Tm} {lo hi : Option Int} {ρ ρ1 ρ2 ρ3 : Rho} (h1 : mm ρ = .ok x ρ1) (h2 : ml ρ1 = .ok lo ρ2) (h3 : mh ρ2 = .ok hi ρ3) (k : fSl x lo hi ρ3 = some t) : mSl mm ml mh ρ = .ok t ρ3 :=
  (bind_ok h1).trans ((bind_ok h2).trans ((bind_ok h3).trans (lift_ok k)))
theorem open_ev {ns : List Int} (hn : ns.length ≤ 63) : Val F__law_open [a0 (.fls (ns.map D.int))] (dr 0 0 (ns.map Int.natAbs ++ [0])) := by
  have hcut : cutD (ns.map D.int) none (some 63) = ns.map D.int := cut_whole ⟨rfl, by
    show min (63 : Int).toNat _ = _
    rw [List.length_map]
    show min 63 ns.length = ns.length
    omega⟩
  have h1 : mSeqIt (mSl (mPk 0) (M.pure none) (mPart (M.pure (.v (.int 63))))) [a0 (.fls (ns.map D.int)), .any, .any] = .ok (ns.map D.int) [a0 (.fls (ns.map D.int)), .any, .any] := by
    refine sit_ok (d := .lst (ns.map D.int)) (fz_o ?_) rfl
    refine sl_ok (x := .v (.fls (ns.map D.int))) (lo := none) (hi := some 63) rfl rfl rfl ?_
    show some (Pd.Tm.o (cutD (ns.map D.int) none (some 63))) = _
    rw [hcut]
  have h2 : mLc (mSeqIt (mSl (mPk 0) (M.pure none) (mPart (M.pure (.v (.int 63)))))) (mSet 2) (M.pure true) (mCl fAbs (mCons (mCl fIntOf (mCons (mPk 2) mNil)) mNil)) [2] [a0 (.fls (ns.map D.int)), .any, .any] = .ok (.o (ns.map fun i => iN i.natAbs)) [a0 (.fls (ns.map D.int)), .any, .any] := by
    refine lc_all (xs := ns) D.int (fun i => iN i.natAbs) h1 (by omega) rfl rfl rfl fun i hi => ⟨_, [a0 (.fls (ns.map D.int)), .any, a0 (.int i)], rfl, fz_v (cl_ok (cons_ok (cl_ok (cons_ok rfl nil_ok) rfl) nil_ok) ?_), rfl⟩
    show some (Pd.Tm.v (.int (if i < 0 then -i else i))) = some (Pd.Tm.v (.int (i.natAbs : Int)))
    congr 4
    split <;> omega
  have e : ns.map (fun i => iN i.natAbs) ++ [iN 0] = (ns.map Int.natAbs ++ [0]).map iN := by
    rw [List.map_append, List.map_map]
    rfl
  have h3 : mSet 1 (.o (ns.map fun i => iN i.natAbs)) [a0 (.fls (ns.map D.int)), .any, .any] = some [a0 (.fls (ns.map D.int)), o0 (ns.map fun i => iN i.natAbs), .any] := rfl
  have h4 := asg_ok h2 h3
  refine val_run (ρ := [a0 (.fls (ns.map D.int)), o0 (ns.map fun i => iN i.natAbs), .any]) ?_
  refine seq_ok h4 ?_
  have h5 : mFz (mOp fAdd (mPk 1) (mLst (mCons (M.pure (.v (.int 0))) mNil))) [a0 (.fls (ns.map D.int)), o0 (ns.map fun i => iN i.natAbs), .any] = .ok (.v (.lst ((ns.map Int.natAbs ++ [0]).map iN))) [a0 (.fls (ns.map D.int)), o0 (ns.map fun i => iN i.natAbs), .any] := by
    rw [← e]
    exact fz_o (op_ok (y := .o [iN 0]) rfl rfl (catL_o rfl (by simp; omega)))
  exact ret_ok (cl_ok (cons_ok rfl (cons_ok rfl (cons_ok h5 nil_ok))) rfl)
end K62
set_option Elab.async false
set_option linter.all false
set_option maxRecDepth 100000
set_option maxHeartbeats 2000000
namespace K62
open PySem PySem.Spec PyProof.Rows L2 Pd
variable {ρ ρ1 : Rho}
theorem all2_len {α β : Type} {P : α → β → Prop} {xs : List α} {ys : List β} (h : All2 P xs ys) : xs.length = ys.length := by
  induction h with
  | nil => rfl
  | cons _ _ ih => simp [ih]
theorem all2_w {xs : List Nat} {ys : List D} (hd : xs.Nodup) (h : All2 (fun k y => ∃ c, (1 ≤ c ∧ c ≤ 6) ∧ y = D.tup [dN k, iN c]) xs ys) : ∃ w : Nat → Nat, ys = xs.map (dP w) ∧ ∀ k ∈ xs, 1 ≤ w k ∧ w k ≤ 6 := by
  induction h with
  | nil => exact ⟨fun _ => 1, rfl, fun k hk => absurd hk List.not_mem_nil⟩
  | @cons x y xs ys h t ih =>
    obtain ⟨c, hc, e⟩ := h
    obtain ⟨hn, hd'⟩ := List.nodup_cons.mp hd
    obtain ⟨w, h1, h2⟩ := ih hd'
    have key : ∀ k ∈ xs, (if k = x then c else w k) = w k := fun k hk => if_neg fun (z : k = x) => hn (z ▸ hk)
    refine ⟨fun k => if k = x then c else w k, ?_, fun k hk => ?_⟩
    · rw [List.map_cons, e, h1]
      congr 1
      · show _ = D.tup [dN x, iN (if x = x then c else w x)]
        rw [if_pos rfl]
      · refine List.map_congr_left fun k hk => ?_
        show D.tup [dN k, iN (w k)] = D.tup [dN k, iN (if k = x then c else w k)]
        rw [key k hk]
    · rcases List.mem_cons.mp hk with z | z
      · subst z
        show 1 ≤ (if k = k then c else w k) ∧ (if k = k then c else w k) ≤ 6
        rw [if_pos rfl]
        exact hc
      · show 1 ≤ (if k = x then c else w k) ∧ (if k = x then c else w k) ≤ 6
        rw [key k z]
        exact h2 k z
end K62
set_option Elab.async false
set_option linter.all false
set_option maxRecDepth 100000
set_option maxHeartbeats 2000000
namespace K62
open PySem PySem.Spec PyProof.Rows L2 Pd
variable {ρ ρ1 : Rho}
/-! ### the drawn wheel -/
theorem pick {xs : List Nat} {v : Nat} (h : v < xs.length) : fIx (.o (xs.map iN)) (.v (iN v)) ρ = some (.v (iN xs[v])) := ixL_at (e := iN) (elsF_o _) h
theorem part_ok {m : M Pd.Tm} {i : Int} {ρ ρ1 : Rho} (h : m ρ = .ok (.v (.int i)) ρ1) : mPart m ρ = .ok (some i) ρ1 := (bind_ok h).trans rfl
theorem cut_take {f : Nat → D} {n k : Nat} (h : k ≤ n) : Pd.cutD ((List.range n).map f) none (some (k : Int)) = (List.range k).map f := by
  unfold Pd.cutD
  have e1 : HT.sIx ((List.range n).map f).length 0 none = 0 := rfl
  have e2 : HT.sIx ((List.range n).map f).length ((List.range n).map f).length (some (k : Int)) = k := by
    show min (k : Int).toNat _ = _
    rw [List.length_map, List.length_range]
    show min k n = k
    omega
  rw [e1, e2, List.drop_zero, Nat.sub_zero, ← List.map_take, List.take_range, Nat.min_eq_left h]
abbrev NM : List D := (List.range 8).map dN
abbrev WH (t l : Nat) (cs : List Nat) (x1 x2 : Sl) : Rho := [.bor (dr t l cs), x1, x2, .any]
theorem wheel_ev {t l : Nat} {cs : List Nat} (hc : cs ≠ []) (ht : t < 2 ^ 50) : ∃ t' l' m w, t' ≤ t + 20 ∧ 1 ≤ m ∧ m ≤ 8 ∧ (∀ k, k < m → 1 ≤ w k ∧ w k ≤ 6) ∧ F__law_wheel [.bor (dr t l cs)] = .ok (.val (dW m w)) [.bor (dr t' l' cs)] := by
  obtain ⟨t1, l1, v1, b1, c1, d1⟩ := draw_call (ms := mCons (mPk 0) (mCons (M.pure (.v (.int 3))) mNil)) (i := 0) (t := t) (l := l) (size := 3) (cs := cs) (ρ := WH t l cs (o0 NM) .any) (ρ1 := WH t l cs (o0 NM) .any) rfl rfl (by decide) (by decide) (by omega) hc
  have hmo : ∃ most, [1, 3, 8][v1]'b1 = most ∧ 1 ≤ most ∧ most ≤ 8 := ⟨_, rfl, by
    have h : [1, 3, 8][v1]'b1 ∈ [1, 3, 8] := List.getElem_mem _
    simp only [List.mem_cons, List.not_mem_nil, or_false] at h
    omega⟩
  obtain ⟨most, hm0, hm1, hm2⟩ := hmo
  have n1 : mAsg (mLst (mCons (M.pure (.v (.str "ann"))) (mCons (M.pure (.v (.str "bob"))) (mCons (M.pure (.v (.str "cid"))) (mCons (M.pure (.v (.str "dan"))) (mCons (M.pure (.v (.str "eve"))) (mCons (M.pure (.v (.str "fay"))) (mCons (M.pure (.v (.str "gus"))) (mCons (M.pure (.v (.str "hal"))) mNil))))))))) (mSet 1) (WH t l cs .any .any) = .ok .nx (WH t l cs (o0 NM) .any) := rfl
  have n2 : mAsg (mOp fIx (mLst (mCons (M.pure (.v (.int 1))) (mCons (M.pure (.v (.int 3))) (mCons (M.pure (.v (.int 8))) mNil)))) (mCall 2 F__law_draw (mCons (mPk 0) (mCons (M.pure (.v (.int 3))) mNil)))) (mSet 2) (WH t l cs (o0 NM) .any) = .ok .nx (WH t1 l1 cs (o0 NM) (a0 (iN most))) := by
    rw [← hm0]
    exact asg_ok (op_ok (x := .o ([1, 3, 8].map iN)) rfl d1 (pick b1)) rfl
  obtain ⟨t2, l2, v2, b2, c2, d2⟩ := draw_call (ms := mCons (mPk 0) (mCons (mVar 2) mNil)) (i := 0) (t := t1) (l := l1) (size := most) (cs := cs) (ρ := WH t1 l1 cs (o0 NM) (a0 (iN most))) (ρ1 := WH t1 l1 cs (o0 NM) (a0 (iN most))) rfl rfl (by omega) (by omega) (by omega) hc
  have h1 : mSeqIt (mSl (mPk 1) (M.pure none) (mPart (mOp fAdd (M.pure (.v (.int 1))) (mCall 2 F__law_draw (mCons (mPk 0) (mCons (mVar 2) mNil)))))) (WH t1 l1 cs (o0 NM) (a0 (iN most))) = .ok ((List.range (1 + v2)).map dN) (WH t2 l2 cs (o0 NM) (a0 (iN most))) := by
    refine sit_ok (d := .lst ((List.range (1 + v2)).map dN)) (fz_o ?_) rfl
    refine sl_ok (x := .pk 1) (lo := none) (hi := some ((1 + v2 : Nat) : Int)) rfl rfl (part_ok (op_ok rfl d2 (addN 1 v2))) ?_
    rw [← cut_take (f := dN) (n := 8) (k := 1 + v2) (by omega)]
    rfl
  have h2 := mLc_inv (tg := mSet 3) (c := M.pure true) (el := mTup (mCons (mVar 3) (mCons (mFz (mOp fAdd (M.pure (.v (.int 1))) (mCall 2 F__law_draw (mCons (mPk 0) (mCons (mFz (mOp fIx (mLst (mCons (M.pure (.v (.int 6))) (mCons (M.pure (.v (.int 2))) mNil))) (mCall 2 F__law_draw (mCons (mPk 0) (mCons (M.pure (.v (.int 2))) mNil))))) mNil))))) mNil))) (vs := [3]) dN (fun k y => ∃ c, (1 ≤ c ∧ c ≤ 6) ∧ y = D.tup [dN k, iN c]) (fun _ b => b = true) (fun n ρ => ∃ t l, t ≤ n ∧ ρ = WH t l cs (o0 NM) (a0 (iN most))) 2 t2 (t + 20) h1 (by rw [List.length_range]; omega) rfl (by rw [List.length_range]; omega) ⟨t2, l2, Nat.le_refl _, rfl⟩ (fun n ρ' ⟨t, l, _, e⟩ => by rw [e]; rfl) (fun k hk n ρ hn ⟨t3, l3, ht3, e⟩ => by
    subst e
    obtain ⟨t4, l4, v4, b4, c4, d4⟩ := draw_call (ms := mCons (mPk 0) (mCons (M.pure (.v (.int 2))) mNil)) (i := 0) (t := t3) (l := l3) (size := 2) (cs := cs) (ρ := [.bor (dr t3 l3 cs), o0 NM, a0 (iN most), a0 (dN k)]) (ρ1 := [.bor (dr t3 l3 cs), o0 NM, a0 (iN most), a0 (dN k)]) rfl rfl (by decide) (by decide) (by omega) hc
    have hsz : ∃ sz, [6, 2][v4]'b4 = sz ∧ 1 ≤ sz ∧ sz ≤ 6 := ⟨_, rfl, by
      have h : [6, 2][v4]'b4 ∈ [6, 2] := List.getElem_mem _
      simp only [List.mem_cons, List.not_mem_nil, or_false] at h
      omega⟩
    obtain ⟨sz, hs0, hs1, hs2⟩ := hsz
    have a1 : mFz (mOp fIx (mLst (mCons (M.pure (.v (.int 6))) (mCons (M.pure (.v (.int 2))) mNil))) (mCall 2 F__law_draw (mCons (mPk 0) (mCons (M.pure (.v (.int 2))) mNil)))) [.bor (dr t3 l3 cs), o0 NM, a0 (iN most), a0 (dN k)] = .ok (.v (iN sz)) [.bor (dr t4 l4 cs), o0 NM, a0 (iN most), a0 (dN k)] := by
      rw [← hs0]
      exact fz_v (op_ok (x := .o ([6, 2].map iN)) rfl d4 (pick b4))
    have a2 : mCons (mPk 0) (mCons (mFz (mOp fIx (mLst (mCons (M.pure (.v (.int 6))) (mCons (M.pure (.v (.int 2))) mNil))) (mCall 2 F__law_draw (mCons (mPk 0) (mCons (M.pure (.v (.int 2))) mNil))))) mNil) [.bor (dr t3 l3 cs), o0 NM, a0 (iN most), a0 (dN k)] = .ok [.pk 0, .v (iN sz)] [.bor (dr t4 l4 cs), o0 NM, a0 (iN most), a0 (dN k)] := cons_ok rfl (cons_ok a1 nil_ok)
    obtain ⟨t5, l5, v5, b5, c5, d5⟩ := draw_call a2 (t := t4) (l := l4) (cs := cs) rfl (by omega) (by omega) (by omega) hc
    have a3 := fz_v (op_ok (ρ := [.bor (dr t3 l3 cs), o0 NM, a0 (iN most), a0 (dN k)]) (ma := M.pure (.v (.int 1))) (x := .v (iN 1)) rfl d5 (addN 1 v5))
    refine ⟨_, true, _, rfl, rfl, rfl, fun _ => ⟨D.tup [dN k, iN (1 + v5)], [.bor (dr t5 l5 cs), o0 NM, a0 (iN most), a0 (dN k)], _, ?_, rfl, ⟨t5, l5, by omega, rfl⟩, 1 + v5, ⟨by omega, by omega⟩, rfl⟩, fun z => by cases z⟩
    refine fz_v ?_
    have a4 := cons_ok (ρ := [.bor (dr t3 l3 cs), o0 NM, a0 (iN most), a0 (dN k)]) (m := mVar 3) (x := .v (dN k)) rfl (cons_ok a3 nil_ok)
    exact (bind_ok a4).trans rfl)
  obtain ⟨zs, ys, ρ', k1, k2, k3, k4, t6, l6, k5, k6⟩ := h2
  subst k6
  have hz : (zs.filter (·.2)).map (·.1) = List.range (1 + v2) := by
    rw [← k1, List.filter_eq_self.mpr fun z hz => k2 z hz]
  rw [hz] at k3
  obtain ⟨w, e, hw⟩ := all2_w List.nodup_range k3
  rw [List.length_range] at k5
  refine ⟨t6, l6, 1 + v2, w, by omega, by omega, by omega, fun k hk => hw k (List.mem_range.mpr hk), ?_⟩
  have h3 := ret_ok (cl_ok (cons_ok k4 nil_ok) (tupOf_o (ds := ys)))
  have h4 := seq_ok n1 (seq_ok n2 h3)
  unfold F__law_wheel runDef
  rw [show m__law_wheel ([.bor (dr t l cs)] ++ List.replicate (4 - 1) .any) = _ from h4, e]
  rfl
end K62
set_option Elab.async false
set_option linter.all false
set_option maxRecDepth 100000
set_option maxHeartbeats 2000000
namespace K62
open PySem PySem.Spec PyProof.Rows L2 Pd
variable {ρ ρ1 : Rho}
/-! ### drawn bars -/
theorem all2_map {α β : Type} {f : α → β} {xs : List α} {ys : List β} (h : All2 (fun x y => y = f x) xs ys) : ys = xs.map f := by
  induction h with
  | nil => rfl
  | cons a _ ih => rw [List.map_cons, ih, a]
theorem perm_map {α β : Type} {f : α → β} {l l' : List β} (h : l.Perm l') : ∀ b : List α, l = b.map f → ∃ b' : List α, b'.Perm b ∧ l' = b'.map f := by
  induction h with
  | nil => exact fun b e => ⟨b, .refl _, e⟩
  | @cons x l1 l2 _ ih =>
    intro b e
    cases b with
    | nil => cases e
    | cons y b =>
      rw [List.map_cons] at e
      injection e with e1 e2
      obtain ⟨b', h1, h2⟩ := ih b e2
      exact ⟨y :: b', h1.cons y, by rw [List.map_cons, h2, e1]⟩
  | swap x y l =>
    intro b e
    match b, e with
    | [], e => cases e
    | [_], e => cases e
    | u :: v :: b, e =>
      simp only [List.map_cons] at e
      injection e with e1 e2
      injection e2 with e2 e3
      exact ⟨v :: u :: b, .swap _ _ _, by simp only [List.map_cons]; rw [e1, e2, e3]⟩
  | trans _ _ ih1 ih2 =>
    intro b e
    obtain ⟨b1, h1, h2⟩ := ih1 b e
    obtain ⟨b2, h3, h4⟩ := ih2 b1 h2
    exact ⟨b2, h3.trans h1, h4⟩
theorem ints_none : ∀ b : List Nat, b ≠ [] → ints? (b.map dN) = none
  | [], h => absurd rfl h
  | _ :: _, _ => rfl
theorem sorted_ev {i : Nat} {b : List Nat} (h : ρ[i]? = some (o0 (b.map dN))) (hl : b.length < 64) : ∃ b' : List Nat, b'.Perm b ∧ fSorted [.pk i] ρ = some (.o (b'.map dN)) := by
  by_cases hb : b = []
  · subst hb
    refine ⟨[], .refl _, ?_⟩
    show ((Pd.Tm.pk i).elsF ρ).bind _ = _
    rw [elsF_pk h]
    simp [ints?, sortI, Pd.when]
  · obtain ⟨b', h1, h2⟩ := perm_map (f := nm) (List.mergeSort_perm (b.map nm) leS).symm b rfl
    refine ⟨b', h1, ?_⟩
    show ((Pd.Tm.pk i).elsF ρ).bind _ = _
    rw [elsF_pk h, Option.bind_some]
    simp only [ints_none b hb]
    have e : b.map dN = (b.map nm).map D.str := by rw [List.map_map]; rfl
    rw [e, Pd.strs_map, Option.bind_some, when_t (by rw [List.length_map]; exact hl)]
    unfold sortS
    rw [h2, List.map_map]
    rfl
/-! lists in slots, owned or frozen -/
theorem pk_o {i : Nat} {ds : List D} (h : ρ[i]? = some (o0 ds)) : mPk i ρ = .ok (.pk i) ρ := by unfold mPk; rw [h]
theorem pk_v {i : Nat} {d : D} (h : ρ[i]? = some (a0 d)) : mPk i ρ = .ok (.v d) ρ := by unfold mPk; rw [h]
theorem set_same {i : Nat} {x : Sl} : ∀ {ρ : Rho} {i : Nat}, ρ[i]? = some x → ρ.set i x = ρ
  | [], _, _ => rfl
  | y :: ρ, 0, h => by
    injection h with h
    rw [h]
    rfl
  | y :: ρ, i + 1, h => by
    show y :: ρ.set i x = _
    rw [set_same (i := i) (show ρ[i]? = some x from by simpa using h)]
theorem lf_it {i : Nat} {x : Sl} {ds : List D} (hx : Lf x ds) (h : ρ[i]? = some x) : mSeqIt (mPk i) ρ = .ok ds (ρ.set i (a0 (.lst ds))) := by
  rcases hx with z | z
  · subst z
    exact sit_ok (fz_pk (pk_o h) (var_o h)) rfl
  · subst z
    rw [set_same (i := i) h]
    exact sit_ok (fz_v (pk_v h)) rfl
theorem lf_len {i : Nat} {x : Sl} {ds : List D} (hx : Lf x ds) (h : ρ[i]? = some x) : mCl fLen (mCons (mPk i) mNil) ρ = .ok (.v (iN ds.length)) ρ := by
  rcases hx with z | z
  · subst z
    exact cl_ok (cons_ok (pk_o h) nil_ok) (len_o h)
  · subst z
    exact cl_ok (cons_ok (pk_v h) nil_ok) len_l
theorem lf_ix {i m j : Nat} {x : Sl} {f : Nat → D} {mk : M Pd.Tm} (hx : Lf x ((List.range m).map f)) (h : ρ[i]? = some x) (hk : mk ρ = .ok (.v (iN j)) ρ) (hj : j < m) : mOp fIx (mPk i) mk ρ = .ok (.v (f j)) ρ := by
  rcases hx with z | z
  · subst z
    exact op_ok (pk_o h) hk (ixo h hj)
  · subst z
    exact op_ok (pk_v h) hk (ixl hj)
theorem lf_in {i k : Nat} {x : Sl} {b : List Nat} {me : M Pd.Tm} {neg : Bool} (hx : Lf x (b.map dN)) (h : ρ[i]? = some x) (hk : k < 10) (hb : ∀ x ∈ b, x < 10) (he : me ρ = .ok (.v (dN k)) ρ) : mOp (fIn neg) me (mPk i) ρ = .ok (.v (.bl (if neg = true then !decide (k ∈ b) else decide (k ∈ b)))) ρ := by
  have e : b.map dN = (b.map nm).map D.str := by rw [List.map_map]; rfl
  have hs : ∀ c ∈ b.map nm, PyData.strOk c = true := fun c hc => by
    obtain ⟨y, _, q⟩ := List.mem_map.mp hc
    rw [← q]
    exact nm_ok y
  rw [← nm_mem hk hb]
  rcases hx with z | z
  · subst z
    refine op_ok he (pk_o h) (inSL neg (a := nm k) (b := b.map nm) rfl ?_ ?_ (nm_ok k) hs)
    · show (slR ρ[i]?).bind _ = none
      rw [h]
      rfl
    · rw [elsF_pk h, e]
  · subst z
    refine op_ok he (pk_v h) (inSL neg (a := nm k) (b := b.map nm) rfl rfl ?_ (nm_ok k) hs)
    show some _ = _
    rw [← e]
theorem sub_lt {m : Nat} {zs : List (Nat × Bool)} (h : zs.map (·.1) = List.range m) : ∀ x ∈ (zs.filter (·.2)).map (·.1), x < m := fun x hx => by
  obtain ⟨z, hz, e⟩ := List.mem_map.mp hx
  have : z.1 ∈ zs.map (·.1) := List.mem_map.mpr ⟨z, (List.mem_filter.mp hz).1, rfl⟩
  rw [h, e] at this
  exact List.mem_range.mp this
theorem sub_len {m : Nat} {zs : List (Nat × Bool)} (h : zs.map (·.1) = List.range m) : ((zs.filter (·.2)).map (·.1)).length ≤ m := by
  rw [List.length_map]
  refine Nat.le_trans (List.length_filter_le _ _) ?_
  rw [← List.length_map (f := (·.1)), h, List.length_range]
  exact Nat.le_refl _
abbrev BR (m : Nat) (w : Nat → Nat) (t l : Nat) (cs : List Nat) (x3 x4 x5 x6 : Sl) : Rho := [.bor (dr t l cs), a0 (dW m w), a0 (.bl false), x3, x4, x5, x6, .any, .any, .any]
abbrev FD (m : Nat) : Sl := a0 (.lst ((List.range m).map dN))
theorem drawfil {m t l z y : Nat} {w : Nat → Nat} {cs : List Nat} {x3 x4 x5 x6 : Sl} (h3 : Lf x3 ((List.range m).map dN)) (hc : cs ≠ []) (ht : t < 2 ^ 59) (hm : m ≤ 8) (hz : 0 < z) (hz2 : z < 2 ^ 60) : ∃ (t' l' : Nat) (b : List Nat), t' ≤ t + 8 ∧ (∀ x ∈ b, x < m) ∧ b.length ≤ m ∧ mLc (mSeqIt (mPk 3)) (mSet 8) (mTru fBl (mOp (fEqN false) (mCall 2 F__law_draw (mCons (mPk 0) (mCons (M.pure (.v (iN z))) mNil))) (M.pure (.v (iN y))))) (mVar 8) [8] (BR m w t l cs x3 x4 x5 x6) = .ok (.o (b.map dN)) (BR m w t' l' cs (FD m) x4 x5 x6) := by
  have h1 : mSeqIt (mPk 3) (BR m w t l cs x3 x4 x5 x6) = .ok ((List.range m).map dN) (BR m w t l cs (FD m) x4 x5 x6) := lf_it h3 rfl
  have h2 := mLc_inv (tg := mSet 8) (c := mTru fBl (mOp (fEqN false) (mCall 2 F__law_draw (mCons (mPk 0) (mCons (M.pure (.v (iN z))) mNil))) (M.pure (.v (iN y))))) (el := mVar 8) (vs := [8]) dN (fun k v => v = dN k) (fun _ _ => True) (fun n ρ => ∃ t l, t ≤ n ∧ ρ = BR m w t l cs (FD m) x4 x5 x6) 1 t (2 ^ 60 - 1) h1 (by rw [List.length_range]; omega) rfl (by rw [List.length_range]; omega) ⟨t, l, Nat.le_refl _, rfl⟩ (fun n ρ' ⟨t, l, _, e⟩ => by rw [e]; rfl) (fun k hk n ρ hn ⟨t3, l3, ht3, e⟩ => by
    subst e
    obtain ⟨t4, l4, v4, b4, c4, d4⟩ := draw_call (ms := mCons (mPk 0) (mCons (M.pure (.v (iN z))) mNil)) (i := 0) (t := t3) (l := l3) (size := z) (cs := cs) (ρ := [.bor (dr t3 l3 cs), a0 (dW m w), a0 (.bl false), FD m, x4, x5, x6, .any, a0 (dN k), .any]) (ρ1 := [.bor (dr t3 l3 cs), a0 (dW m w), a0 (.bl false), FD m, x4, x5, x6, .any, a0 (dN k), .any]) rfl rfl hz hz2 (by omega) hc
    have a1 : mTru fBl (mOp (fEqN false) (mCall 2 F__law_draw (mCons (mPk 0) (mCons (M.pure (.v (iN z))) mNil))) (M.pure (.v (iN y)))) [.bor (dr t3 l3 cs), a0 (dW m w), a0 (.bl false), FD m, x4, x5, x6, .any, a0 (dN k), .any] = .ok (decide (v4 = y)) [.bor (dr t4 l4 cs), a0 (dW m w), a0 (.bl false), FD m, x4, x5, x6, .any, a0 (dN k), .any] := tru_ok (op_ok d4 rfl (eqN false v4 y)) rfl
    exact ⟨_, _, _, rfl, a1, trivial, fun _ => ⟨dN k, [.bor (dr t4 l4 cs), a0 (dW m w), a0 (.bl false), FD m, x4, x5, x6, .any, a0 (dN k), .any], _, fz_v rfl, rfl, ⟨t4, l4, by omega, rfl⟩, rfl⟩, fun _ => ⟨_, rfl, t4, l4, by omega, rfl⟩⟩)
  obtain ⟨zs, ys, ρ', k1, k2, k3, k4, t6, l6, k5, k6⟩ := h2
  subst k6
  rw [List.length_range] at k5
  refine ⟨t6, l6, (zs.filter (·.2)).map (·.1), by omega, sub_lt k1, sub_len k1, ?_⟩
  rw [all2_map k3] at k4
  exact k4
end K62
set_option Elab.async false
set_option linter.all false
set_option maxRecDepth 100000
set_option maxHeartbeats 2000000
namespace K62
open PySem PySem.Spec PyProof.Rows L2 Pd
variable {ρ ρ1 : Rho}
abbrev NR (m : Nat) : List D := (List.range m).map dN
theorem kd_ev {ρ : Rho} {kd z : Nat} (h : ρ[4]? = some (a0 (iN kd))) : mTru fBl (mOp (fEqN false) (mPk 4) (M.pure (.v (iN z)))) ρ = .ok (decide (kd = z)) ρ := tru_ok (op_ok (pk_v h) rfl (eqN false kd z)) rfl
abbrev bb1 : M Fl := mIf (mTru fBl (mOp (fEqN false) (mPk 4) (M.pure (.v (.int 1))))) (mAsg (mLc (mSeqIt (mPk 3)) (mSet 8) (mTru fBl (mOp (fEqN false) (mCall 2 F__law_draw (mCons (mPk 0) (mCons (M.pure (.v (.int 2))) mNil))) (M.pure (.v (.int 1))))) (mVar 8) [8]) (mSet 5)) mNx
theorem bb1_ev {m t l kd : Nat} {w : Nat → Nat} {cs : List Nat} {x3 : Sl} (h3 : Lf x3 (NR m)) (hc : cs ≠ []) (ht : t < 2 ^ 58) (hm : m ≤ 8) : ∃ (t' l' : Nat) (b : List Nat) (x3' : Sl), t' ≤ t + 8 ∧ (∀ x ∈ b, x < 10) ∧ b.length ≤ 8 ∧ Lf x3' (NR m) ∧ bb1 (BR m w t l cs x3 (a0 (iN kd)) (o0 []) .any) = .ok .nx (BR m w t' l' cs x3' (a0 (iN kd)) (o0 (b.map dN)) .any) := by
  have ht1 := kd_ev (ρ := BR m w t l cs x3 (a0 (iN kd)) (o0 []) .any) (kd := kd) (z := 1) rfl
  by_cases hk : kd = 1
  · rw [decide_eq_true hk] at ht1
    obtain ⟨t', l', b, h1, h2, h4, h5⟩ := drawfil (m := m) (t := t) (l := l) (z := 2) (y := 1) (w := w) (x4 := a0 (iN kd)) (x5 := o0 []) (x6 := .any) h3 hc (by omega) hm (by decide) (by decide)
    exact ⟨t', l', b, FD m, h1, fun x hx => by have := h2 x hx; omega, by omega, Lf.f, if_t ht1 (asg_ok h5 rfl)⟩
  · rw [decide_eq_false hk] at ht1
    exact ⟨t, l, [], x3, by omega, fun x hx => absurd hx List.not_mem_nil, by simp, h3, if_f ht1 rfl⟩
abbrev bb2 : M Fl := mIf (mTru fBl (mOp (fEqN false) (mPk 4) (M.pure (.v (.int 2))))) (mSeq (mAsg (mCall 2 F__law_draw (mCons (mPk 0) (mCons (mCl fLen (mCons (mPk 3) mNil)) mNil))) (mSet 6))
    (mAsg (mLc (mRng1 (mCons (mCl fLen (mCons (mPk 3) mNil)) mNil)) (mSet 9) (mTru fBl (mOp (fEqN true) (mPk 9) (mPk 6))) (mFz (mOp fIx (mPk 3) (mPk 9))) [9]) (mSet 5))) mNx
theorem lf_lenR {i m : Nat} {x : Sl} {f : Nat → D} {ρ : Rho} (hx : Lf x ((List.range m).map f)) (h : ρ[i]? = some x) : mCl fLen (mCons (mPk i) mNil) ρ = .ok (.v (iN m)) ρ := by
  have := lf_len hx h
  rw [List.length_map, List.length_range] at this
  exact this
theorem bb2_ev {m t l kd : Nat} {w : Nat → Nat} {cs b : List Nat} {x3 : Sl} (h3 : Lf x3 (NR m)) (hc : cs ≠ []) (ht : t < 2 ^ 58) (hm : m ≤ 8) (hm1 : 1 ≤ m) (hb : ∀ x ∈ b, x < 10) (hl : b.length ≤ 8) : ∃ (t' l' : Nat) (b' : List Nat) (x6 : Sl), t' ≤ t + 1 ∧ (∀ x ∈ b', x < 10) ∧ b'.length ≤ 8 ∧ bb2 (BR m w t l cs x3 (a0 (iN kd)) (o0 (b.map dN)) .any) = .ok .nx (BR m w t' l' cs x3 (a0 (iN kd)) (o0 (b'.map dN)) x6) := by
  have ht1 := kd_ev (ρ := BR m w t l cs x3 (a0 (iN kd)) (o0 (b.map dN)) .any) (kd := kd) (z := 2) rfl
  by_cases hk : kd = 2
  · rw [decide_eq_true hk] at ht1
    have a1 : mCons (mPk 0) (mCons (mCl fLen (mCons (mPk 3) mNil)) mNil) (BR m w t l cs x3 (a0 (iN kd)) (o0 (b.map dN)) .any) = .ok [.pk 0, .v (iN m)] (BR m w t l cs x3 (a0 (iN kd)) (o0 (b.map dN)) .any) := cons_ok rfl (cons_ok (lf_lenR h3 rfl) nil_ok)
    obtain ⟨t1, l1, v, b1, c1, d1⟩ := draw_call a1 (t := t) (l := l) (cs := cs) rfl (by omega) (by omega) (by omega) hc
    have hit : mRng1 (mCons (mCl fLen (mCons (mPk 3) mNil)) mNil) (BR m w t1 l1 cs x3 (a0 (iN kd)) (o0 (b.map dN)) (a0 (iN v))) = .ok ((List.range m).map iN) (BR m w t1 l1 cs x3 (a0 (iN kd)) (o0 (b.map dN)) (a0 (iN v))) := rng1_ok (cons_ok (lf_lenR h3 rfl) nil_ok) (by omega)
    have a2 := lc_fil (tg := mSet 9) (c := mTru fBl (mOp (fEqN true) (mPk 9) (mPk 6))) (el := mFz (mOp fIx (mPk 3) (mPk 9))) (vs := [9]) iN (fun k => !decide (k = v)) dN hit (by rw [List.length_range]; omega) rfl rfl rfl fun k hk => by
      refine ⟨_, [.bor (dr t1 l1 cs), a0 (dW m w), a0 (.bl false), x3, a0 (iN kd), o0 (b.map dN), a0 (iN v), .any, .any, a0 (iN k)], rfl, tru_ok (op_ok rfl rfl (eqN true k v)) rfl, rfl, fun _ => ⟨_, fz_v (fz_v (lf_ix h3 rfl rfl (List.mem_range.mp hk))), rfl⟩⟩
    exact ⟨t1, l1, (List.range m).filter fun k => !decide (k = v), a0 (iN v), c1, fun x hx => by
      have := List.mem_range.mp (List.mem_filter.mp hx).1
      omega, Nat.le_trans (List.length_filter_le _ _) (by rw [List.length_range]; exact hm), if_t ht1 (seq_ok (asg_ok d1 rfl) (asg_ok a2 rfl))⟩
  · rw [decide_eq_false hk] at ht1
    exact ⟨t, l, b, .any, by omega, hb, hl, if_f ht1 rfl⟩
abbrev bb3 : M Fl := mIf (mTru fBl (mOp (fEqN false) (mPk 4) (M.pure (.v (.int 3))))) (mAsg (mOp fAdd (mLst (mCons (M.pure (.v (.str "abe"))) (mCons (M.pure (.v (.str "zed"))) mNil))) (mLc (mSeqIt (mPk 3)) (mSet 8) (mTru fBl (mOp (fEqN false) (mCall 2 F__law_draw (mCons (mPk 0) (mCons (M.pure (.v (.int 3))) mNil))) (M.pure (.v (.int 0))))) (mVar 8) [8])) (mSet 5)) mNx
theorem bb3_ev {m t l kd : Nat} {w : Nat → Nat} {cs b : List Nat} {x3 x6 : Sl} (h3 : Lf x3 (NR m)) (hc : cs ≠ []) (ht : t < 2 ^ 58) (hm : m ≤ 8) (hb : ∀ x ∈ b, x < 10) (hl : b.length ≤ 8) : ∃ (t' l' : Nat) (b' : List Nat) (x3' : Sl), t' ≤ t + 8 ∧ (∀ x ∈ b', x < 10) ∧ b'.length ≤ 10 ∧ Lf x3' (NR m) ∧ bb3 (BR m w t l cs x3 (a0 (iN kd)) (o0 (b.map dN)) x6) = .ok .nx (BR m w t' l' cs x3' (a0 (iN kd)) (o0 (b'.map dN)) x6) := by
  have ht1 := kd_ev (ρ := BR m w t l cs x3 (a0 (iN kd)) (o0 (b.map dN)) x6) (kd := kd) (z := 3) rfl
  by_cases hk : kd = 3
  · rw [decide_eq_true hk] at ht1
    obtain ⟨t', l', b', h1, h2, h4, h5⟩ := drawfil (m := m) (t := t) (l := l) (z := 3) (y := 0) (w := w) (x4 := a0 (iN kd)) (x5 := o0 (b.map dN)) (x6 := x6) h3 hc (by omega) hm (by decide) (by decide)
    have a1 : mOp fAdd (mLst (mCons (M.pure (.v (.str "abe"))) (mCons (M.pure (.v (.str "zed"))) mNil))) (mLc (mSeqIt (mPk 3)) (mSet 8) (mTru fBl (mOp (fEqN false) (mCall 2 F__law_draw (mCons (mPk 0) (mCons (M.pure (.v (.int 3))) mNil))) (M.pure (.v (.int 0))))) (mVar 8) [8]) (BR m w t l cs x3 (a0 (iN kd)) (o0 (b.map dN)) x6) = .ok (.o ((8 :: 9 :: b').map dN)) (BR m w t' l' cs (FD m) (a0 (iN kd)) (o0 (b.map dN)) x6) :=
      op_ok (x := .o ([8, 9].map dN)) rfl h5 (catL_oo (by rw [List.length_map, List.length_map]; simp; omega))
    refine ⟨t', l', 8 :: 9 :: b', FD m, h1, fun x hx => ?_, by simp; omega, Lf.f, if_t ht1 (asg_ok a1 rfl)⟩
    simp only [List.mem_cons] at hx
    rcases hx with z | z | z
    · omega
    · omega
    · have := h2 x z; omega
  · rw [decide_eq_false hk] at ht1
    exact ⟨t, l, b, x3, by omega, hb, by omega, h3, if_f ht1 rfl⟩
abbrev bb4 : M Fl := mIf (mAnd (mNot (mTru fTru (mVar 2))) (mTru fBl (mOp (fEqN false) (mCl fLen (mCons (mLc (mSeqIt (mPk 3)) (mSet 8) (mTru fBl (mOp (fIn true) (mPk 8) (mPk 5))) (mVar 8) [8]) mNil)) (M.pure (.v (.int 0)))))) (mAsg (mLc (mSeqIt (mPk 5)) (mSet 8) (mTru fBl (mOp (fEqN true) (mPk 8) (mOp fIx (mPk 3) (M.pure (.v (.int 0)))))) (mVar 8) [8]) (mSet 5)) mNx
theorem bb4_ev {m t l : Nat} {w : Nat → Nat} {cs b : List Nat} {x3 x4 x6 : Sl} (h3 : Lf x3 (NR m)) (hm : m ≤ 8) (hm1 : 1 ≤ m) (hb : ∀ x ∈ b, x < 10) (hl : b.length ≤ 10) : ∃ b' : List Nat, (∀ x ∈ b', x < 10) ∧ b'.length ≤ 10 ∧ sm m (abl b') ≠ 0 ∧ bb4 (BR m w t l cs x3 x4 (o0 (b.map dN)) x6) = .ok .nx (BR m w t l cs (FD m) x4 (o0 (b'.map dN)) x6) := by
  have hit : mSeqIt (mPk 3) (BR m w t l cs x3 x4 (o0 (b.map dN)) x6) = .ok (NR m) (BR m w t l cs (FD m) x4 (o0 (b.map dN)) x6) := lf_it h3 rfl
  have a1 := lc_fil (tg := mSet 8) (c := mTru fBl (mOp (fIn true) (mPk 8) (mPk 5))) (el := mVar 8) (vs := [8]) dN (fun k => !decide (k ∈ b)) dN hit (by rw [List.length_range]; omega) rfl rfl rfl fun k hk => by
    have hk' := List.mem_range.mp hk
    exact ⟨_, [.bor (dr t l cs), a0 (dW m w), a0 (.bl false), FD m, x4, o0 (b.map dN), x6, .any, a0 (dN k), .any], rfl, tru_ok (lf_in (neg := true) Lf.o rfl (by omega) hb rfl) rfl, rfl, fun _ => ⟨_, fz_v rfl, rfl⟩⟩
  have a2 := tru_ok (f := fBl) (op_ok (mb := M.pure (.v (iN 0))) (cl_ok (cons_ok a1 nil_ok) (len_ok (.inl (elsF_o _)))) rfl (eqN false _ 0)) rfl
  have a3 : mNot (mTru fTru (mVar 2)) (BR m w t l cs x3 x4 (o0 (b.map dN)) x6) = .ok true (BR m w t l cs x3 x4 (o0 (b.map dN)) x6) := not_ok (b := false) (tru_ok rfl rfl)
  have a4 := and_t a3 a2
  rw [List.length_map] at a4
  by_cases hz : ((List.range m).filter fun k => !decide (k ∈ b)).length = 0
  · rw [if_neg Bool.false_ne_true, decide_eq_true hz] at a4
    have hit2 : mSeqIt (mPk 5) (BR m w t l cs (FD m) x4 (o0 (b.map dN)) x6) = .ok (b.map dN) (BR m w t l cs (FD m) x4 (a0 (.lst (b.map dN))) x6) := lf_it Lf.o rfl
    have a5 := lc_fil (tg := mSet 8) (c := mTru fBl (mOp (fEqN true) (mPk 8) (mOp fIx (mPk 3) (M.pure (.v (.int 0)))))) (el := mVar 8) (vs := [8]) dN (fun k => !decide (k = 0)) dN hit2 (by omega) rfl rfl rfl fun k hk => by
      refine ⟨_, [.bor (dr t l cs), a0 (dW m w), a0 (.bl false), FD m, x4, a0 (.lst (b.map dN)), x6, .any, a0 (dN k), .any], rfl, tru_ok (op_ok rfl (lf_ix (f := dN) (m := m) (j := 0) Lf.f rfl rfl (by omega)) (eqNm true (hb k hk) (by decide))) rfl, rfl, fun _ => ⟨_, fz_v rfl, rfl⟩⟩
    refine ⟨b.filter fun k => !decide (k = 0), fun x hx => hb x (List.mem_filter.mp hx).1, Nat.le_trans (List.length_filter_le _ _) hl, fun z => ?_, if_t a4 (asg_ok a5 rfl)⟩
    have := (List.mem_filter.mp (able_zero.mp z 0 (by omega))).2
    simp at this
  · rw [if_neg Bool.false_ne_true, decide_eq_false hz] at a4
    refine ⟨b, hb, hl, fun z => hz ?_, if_f a4 rfl⟩
    rw [List.length_eq_zero_iff, List.filter_eq_nil_iff]
    intro k hk
    simp [able_zero.mp z k (List.mem_range.mp hk)]
theorem barred_ev {m t l : Nat} {w : Nat → Nat} {cs : List Nat} (hc : cs ≠ []) (ht : t < 2 ^ 50) (hm : m ≤ 8) (hm1 : 1 ≤ m) : ∃ (t' l' : Nat) (b : List Nat), t' ≤ t + 20 ∧ (∀ x ∈ b, x < 10) ∧ sm m (abl b) ≠ 0 ∧ F__law_barred [.bor (dr t l cs), a0 (dW m w), a0 (.bl false)] = .ok (.val (dB b)) [.bor (dr t' l' cs), .any, .any] := by
  have h1 : mSeqIt (mPk 1) (BR m w t l cs .any .any .any .any) = .ok ((List.range m).map (dP w)) (BR m w t l cs .any .any .any .any) := sit_ok (fz_v rfl) rfl
  have s1 := lc_all (tg := mSet 7) (el := mFz (mOp fIx (mPk 7) (M.pure (.v (.int 0))))) (vs := [7]) (dP w) dN h1 (by rw [List.length_range]; omega) rfl rfl rfl fun k hk => ⟨_, _, rfl, fz_v (fz_v (op_ok rfl rfl ixT0)), rfl⟩
  have s1' : mAsg _ (mSet 3) _ = .ok .nx (BR m w t l cs (o0 (NR m)) .any .any .any) := asg_ok s1 rfl
  obtain ⟨t1, l1, kd, b1, c1, d1⟩ := draw_call (ms := mCons (mPk 0) (mCons (M.pure (.v (.int 5))) mNil)) (i := 0) (t := t) (l := l) (size := 5) (cs := cs) (ρ := BR m w t l cs (o0 (NR m)) .any .any .any) (ρ1 := BR m w t l cs (o0 (NR m)) .any .any .any) rfl rfl (by decide) (by decide) (by omega) hc
  have s2 : mAsg (mCall 2 F__law_draw (mCons (mPk 0) (mCons (M.pure (.v (.int 5))) mNil))) (mSet 4) (BR m w t l cs (o0 (NR m)) .any .any .any) = .ok .nx (BR m w t1 l1 cs (o0 (NR m)) (a0 (iN kd)) .any .any) := asg_ok d1 rfl
  have s3 : mAsg (mLst mNil) (mSet 5) (BR m w t1 l1 cs (o0 (NR m)) (a0 (iN kd)) .any .any) = .ok .nx (BR m w t1 l1 cs (o0 (NR m)) (a0 (iN kd)) (o0 []) .any) := rfl
  obtain ⟨t2, l2, r2, x2, e1, e2, e3, e4, s4⟩ := bb1_ev (m := m) (t := t1) (l := l1) (kd := kd) (w := w) (x3 := o0 (NR m)) Lf.o hc (by omega) hm
  obtain ⟨t3, l3, r3, x6, f1, f2, f3, s5⟩ := bb2_ev (m := m) (t := t2) (l := l2) (kd := kd) (w := w) (cs := cs) (b := r2) (x3 := x2) e4 hc (by omega) hm hm1 e2 e3
  obtain ⟨t4, l4, r4, x4, g1, g2, g3, g4, s6⟩ := bb3_ev (m := m) (t := t3) (l := l3) (kd := kd) (w := w) (cs := cs) (b := r3) (x3 := x2) (x6 := x6) e4 hc (by omega) hm f2 f3
  obtain ⟨r5, i1, i2, i3, s7⟩ := bb4_ev (m := m) (t := t4) (l := l4) (w := w) (cs := cs) (b := r4) (x3 := x4) (x4 := a0 (iN kd)) (x6 := x6) g4 hm hm1 g2 g3
  obtain ⟨r6, j1, j2⟩ := sorted_ev (ρ := BR m w t4 l4 cs (FD m) (a0 (iN kd)) (o0 (r5.map dN)) x6) (i := 5) (b := r5) rfl (by omega)
  have s8 : mRet (mCl fTupOf (mCons (mCl fSorted (mCons (mPk 5) mNil)) mNil)) (BR m w t4 l4 cs (FD m) (a0 (iN kd)) (o0 (r5.map dN)) x6) = .ok (.rt (.val (dB r6))) (BR m w t4 l4 cs (FD m) (a0 (iN kd)) (o0 (r5.map dN)) x6) := ret_ok (cl_ok (cons_ok (cl_ok (cons_ok rfl nil_ok) j2) nil_ok) (tupOf_o (ds := r6.map dN)))
  have key := seq_ok s1' (seq_ok s2 (seq_ok s3 (seq_ok s4 (seq_ok s5 (seq_ok s6 (seq_ok s7 s8))))))
  have hab : abl r6 = abl r5 := funext fun k => by
    unfold abl
    simp only [j1.mem_iff]
  refine ⟨t4, l4, r6, by omega, fun x hx => i1 x (j1.mem_iff.mp hx), by rw [hab]; exact i3, ?_⟩
  unfold F__law_barred runDef
  rw [show m__law_barred ([.bor (dr t l cs), a0 (dW m w), a0 (.bl false)] ++ List.replicate (10 - 3) .any) = _ from key]
  rfl
end K62
set_option Elab.async false
set_option linter.all false
set_option maxRecDepth 100000
set_option maxHeartbeats 2000000
namespace K62
open PySem PySem.Spec PyProof.Rows L2 Pd
variable {ρ ρ1 : Rho}
/-! ### the law: helpers -/
theorem bor_call {n i : Nat} {F : M Rv} {ms : M (List Pd.Tm)} {ds : List D} {r r' res : Rv} {as : Rho} {ρ ρ1 : Rho} (h : ms ρ = .ok (.pk i :: ds.map Pd.Tm.v) ρ1) (hn : ds.length + 1 = n) (hi : slR ρ1[i]? = some r) (hF : F (.bor r :: ds.map fun d => .own (.val d)) = .ok res (.bor r' :: as)) : mCall n F ms ρ = .ok (.rv res) (setR i r' ρ1) := by
  refine (bind_ok h).trans ?_
  have ha : args? ρ1 (.pk i :: ds.map Pd.Tm.v) = some (.bor r :: ds.map fun d => .own (.val d)) := by
    show ((slR ρ1[i]?).map Sl.bor).bind _ = _
    rw [hi, args_vals]
    rfl
  have hl : (Pd.Tm.pk i :: ds.map Pd.Tm.v).length = n := by rw [List.length_cons, List.length_map]; exact hn
  simp only [hl, if_pos]
  unfold callF
  rw [ha]
  show (if nPk (.pk i :: ds.map Pd.Tm.v) ≤ 1 then fin (pkAt (.pk i :: ds.map Pd.Tm.v)) ρ1 (F (.bor r :: ds.map fun d => .own (.val d))) else .bad) = _
  have hp : nPk (.pk i :: ds.map Pd.Tm.v) = 1 := by
    show nPk (ds.map Pd.Tm.v) + 1 = 1
    rw [nPk_vals]
  rw [hp, if_pos (Nat.le_refl 1), hF]
  rfl
theorem mLoop_inv {α : Type} {tg : G} {b : M Fl} {js : List Nat} (e : α → D) (I : Nat → Rho → Prop) (N : Nat) : ∀ (xs : List α) (n : Nat) (ρ ρ0 : Rho), n + xs.length ≤ N → fgt js ρ = some ρ0 → I n ρ0 →
    (∀ x ∈ xs, ∀ n ρ0, n < N → I n ρ0 → ∃ ρa ρb ρc, tg (.v (e x)) ρ0 = some ρa ∧ b ρa = .ok .nx ρb ∧ fgt js ρb = some ρc ∧ I (n + 1) ρc) →
    ∃ ρ', mLoop tg b js (xs.map e) ρ = .ok .nx ρ' ∧ I (n + xs.length) ρ'
  | [], n, ρ, ρ0, _, hf, hI, _ => ⟨ρ0, mLoop_nil hf, hI⟩
  | x :: xs, n, ρ, ρ0, hN, hf, hI, h => by
    rw [List.length_cons] at hN ⊢
    obtain ⟨ρa, ρb, ρc, h1, h2, h3, h4⟩ := h x List.mem_cons_self n ρ0 (by omega) hI
    obtain ⟨ρ', k1, k2⟩ := mLoop_inv e I N xs (n + 1) ρb ρc (by omega) h3 h4 fun y hy => h y (List.mem_cons_of_mem _ hy)
    refine ⟨ρ', ?_, by rw [show n + (xs.length + 1) = n + 1 + xs.length from by omega]; exact k2⟩
    rw [List.map_cons, mLoop_cons hf h1, h2]
    exact k1
theorem all2_ex {α β γ : Type} {P : γ → Prop} {g : γ → β} {xs : List α} {ys : List β} (h : All2 (fun _ y => ∃ b, P b ∧ y = g b) xs ys) : ∃ bs : List γ, ys = bs.map g ∧ bs.length = xs.length ∧ ∀ b ∈ bs, P b := by
  induction h with
  | nil => exact ⟨[], rfl, rfl, fun b hb => absurd hb List.not_mem_nil⟩
  | cons a _ ih =>
    obtain ⟨b, h1, h2⟩ := a
    obtain ⟨bs, k1, k2, k3⟩ := ih
    refine ⟨b :: bs, by rw [List.map_cons, h2, k1], by rw [List.length_cons, List.length_cons, k2], fun x hx => ?_⟩
    rcases List.mem_cons.mp hx with z | z
    · rw [z]; exact h1
    · exact k3 x z
theorem all2_f {β : Type} {P : Nat → Prop} {g : Nat → Nat → β} {c0 : Nat} {xs : List Nat} {ys : List β} (hd : xs.Nodup) (h : All2 (fun k y => ∃ c, P c ∧ y = g k c) xs ys) : ∃ f : Nat → Nat, ys = xs.map (fun k => g k (f k)) ∧ ∀ k ∈ xs, P (f k) := by
  induction h with
  | nil => exact ⟨fun _ => 1, rfl, fun k hk => absurd hk List.not_mem_nil⟩
  | @cons x y xs ys h t ih =>
    obtain ⟨c, hc, e⟩ := h
    obtain ⟨hn, hd'⟩ := List.nodup_cons.mp hd
    obtain ⟨w, h1, h2⟩ := ih hd'
    have key : ∀ k ∈ xs, (if k = x then c else w k) = w k := fun k hk => if_neg fun (z : k = x) => hn (z ▸ hk)
    refine ⟨fun k => if k = x then c else w k, ?_, fun k hk => ?_⟩
    · rw [List.map_cons, e, h1]
      congr 1
      · show g x c = g x (if x = x then c else w x)
        rw [if_pos rfl]
      · refine List.map_congr_left fun k hk => ?_
        show g k (w k) = g k (if k = x then c else w k)
        rw [key k hk]
    · rcases List.mem_cons.mp hk with z | z
      · subst z
        show P (if k = k then c else w k)
        rw [if_pos rfl]
        exact hc
      · show P (if k = x then c else w k)
        rw [key k z]
        exact h2 k z
theorem cut_to {α : Type} {f : α → D} {xs : List α} {k : Nat} : Pd.cutD (xs.map f) none (some (k : Int)) = (xs.take k).map f := by
  unfold Pd.cutD
  have e1 : HT.sIx (xs.map f).length 0 none = 0 := rfl
  have e2 : HT.sIx (xs.map f).length (xs.map f).length (some (k : Int)) = min k xs.length := by
    show min (k : Int).toNat _ = _
    rw [List.length_map]
    rfl
  rw [e1, e2, List.drop_zero, Nat.sub_zero, List.map_take, ← List.length_map (f := f), List.take_eq_take_min.symm]
theorem cut_from {α : Type} {f : α → D} {xs : List α} {k : Nat} (h : k ≤ xs.length) : Pd.cutD (xs.map f) (some (k : Int)) none = (xs.drop k).map f := by
  unfold Pd.cutD
  have e2 : HT.sIx (xs.map f).length 0 (some (k : Int)) = k := by
    show min (k : Int).toNat _ = _
    rw [List.length_map]
    show min k _ = k
    omega
  have e1 : HT.sIx (xs.map f).length (xs.map f).length none = (xs.map f).length := rfl
  rw [e1, e2, List.map_drop, List.take_of_length_le (by rw [List.length_drop]; exact Nat.le_refl _)]
end K62
set_option Elab.async false
set_option linter.all false
set_option maxRecDepth 100000
set_option maxHeartbeats 2000000
namespace K62
open PySem PySem.Spec PyProof.Rows L2 Pd
variable {ρ ρ1 : Rho}
/-! ### the law, up to the main loop -/
abbrev LS (x0 : Sl) (t l : Nat) (cs : List Nat) (x2 x3 x4 x5 x6 x7 x8 x9 x10 x11 x12 x13 x14 x15 : Sl) : Rho := [x0, .own (dr t l cs), x2, x3, x4, x5, x6, x7, x8, x9, x10, x11, x12, x13, x14, x15]
abbrev ms3 : M Fl := mAsg (mSl (mPk 2) (M.pure none) (mPart (mOp fIx (mLst (mCons (M.pure (.v (.int 4))) (mCons (M.pure (.v (.int 3))) (mCons (M.pure (.v (.int 2))) mNil)))) (mCall 2 F__law_draw (mCons (mPk 1) (mCons (M.pure (.v (.int 3))) mNil)))))) (mSet 3)
theorem ms3_ev {x0 : Sl} {t l m : Nat} {w : Nat → Nat} {cs : List Nat} (hc : cs ≠ []) (ht : t < 2 ^ 50) (hm : 1 ≤ m) : ∃ t' l' n, t' ≤ t + 1 ∧ 1 ≤ n ∧ n ≤ 4 ∧ n ≤ m ∧ ms3 (LS x0 t l cs (a0 (dW m w)) .any .any .any .any .any .any .any .any .any .any .any .any .any) = .ok .nx (LS x0 t' l' cs (a0 (dW m w)) (a0 (dW n w)) .any .any .any .any .any .any .any .any .any .any .any .any) := by
  obtain ⟨t1, l1, v, b1, c1, d1⟩ := draw_call (ms := mCons (mPk 1) (mCons (M.pure (.v (.int 3))) mNil)) (i := 1) (t := t) (l := l) (size := 3) (cs := cs) (ρ := LS x0 t l cs (a0 (dW m w)) .any .any .any .any .any .any .any .any .any .any .any .any .any) (ρ1 := LS x0 t l cs (a0 (dW m w)) .any .any .any .any .any .any .any .any .any .any .any .any .any) rfl rfl (by decide) (by decide) (by omega) hc
  have hsz : ∃ sz, [4, 3, 2][v]'b1 = sz ∧ 2 ≤ sz ∧ sz ≤ 4 := ⟨_, rfl, by
    have h : [4, 3, 2][v]'b1 ∈ [4, 3, 2] := List.getElem_mem _
    simp only [List.mem_cons, List.not_mem_nil, or_false] at h
    omega⟩
  obtain ⟨sz, hs0, hs1, hs2⟩ := hsz
  have a1 : mOp fIx (mLst (mCons (M.pure (.v (.int 4))) (mCons (M.pure (.v (.int 3))) (mCons (M.pure (.v (.int 2))) mNil)))) (mCall 2 F__law_draw (mCons (mPk 1) (mCons (M.pure (.v (.int 3))) mNil))) (LS x0 t l cs (a0 (dW m w)) .any .any .any .any .any .any .any .any .any .any .any .any .any) = .ok (.v (iN sz)) (LS x0 t1 l1 cs (a0 (dW m w)) .any .any .any .any .any .any .any .any .any .any .any .any .any) := by
    rw [← hs0]
    exact op_ok (x := .o ([4, 3, 2].map iN)) rfl d1 (pick b1)
  have a2 : mSl (mPk 2) (M.pure none) (mPart (mOp fIx (mLst (mCons (M.pure (.v (.int 4))) (mCons (M.pure (.v (.int 3))) (mCons (M.pure (.v (.int 2))) mNil)))) (mCall 2 F__law_draw (mCons (mPk 1) (mCons (M.pure (.v (.int 3))) mNil))))) (LS x0 t l cs (a0 (dW m w)) .any .any .any .any .any .any .any .any .any .any .any .any .any) = .ok (.v (dW (min sz m) w)) (LS x0 t1 l1 cs (a0 (dW m w)) .any .any .any .any .any .any .any .any .any .any .any .any .any) := by
    refine sl_ok (x := .v (dW m w)) (lo := none) (hi := some (sz : Int)) rfl rfl (part_ok a1) ?_
    show some (Pd.Tm.v (.tup (Pd.cutD ((List.range m).map (dP w)) none (some (sz : Int))))) = _
    rw [cut_to, List.take_range]
  exact ⟨t1, l1, min sz m, c1, by omega, by omega, by omega, asg_ok a2 rfl⟩
abbrev ms4 : M Fl := mAsg (id (mLc (mRng1 (mCons (mOp fIx (mLst (mCons (mFz (mCall 2 F__law_draw (mCons (mPk 1) (mCons (M.pure (.v (.int 5))) mNil)))) (mCons (M.pure (.v (.int 2))) mNil))) (mCl fIntOf (mCons (mOp (fEqN false) (mCl fLen (mCons (mPk 3) mNil)) (M.pure (.v (.int 4)))) mNil))) mNil)) (mSet 8) (M.pure true) (mFz (mCall 3 F__law_barred (mCons (mPk 1) (mCons (mVar 3) (mCons (M.pure (.v (.bl false))) mNil))))) [8])) (mSet 4)
theorem ms4_ev {x0 : Sl} {t l m n : Nat} {w : Nat → Nat} {cs : List Nat} (hc : cs ≠ []) (ht : t < 2 ^ 49) (hn1 : 1 ≤ n) (hn : n ≤ 4) : ∃ (t' l' : Nat) (rows : List (List Nat)), t' ≤ t + 200 ∧ rows.length ≤ 4 ∧ (n = 4 → rows.length = 2) ∧ (∀ b ∈ rows, (∀ x ∈ b, x < 10) ∧ sm n (abl b) ≠ 0) ∧ ms4 (LS x0 t l cs (a0 (dW m w)) (a0 (dW n w)) .any .any .any .any .any .any .any .any .any .any .any .any) = .ok .nx (LS x0 t' l' cs (a0 (dW m w)) (a0 (dW n w)) (o0 (rows.map dB)) .any .any .any .any .any .any .any .any .any .any .any) := by
  obtain ⟨t1, l1, v, b1, c1, d1⟩ := draw_call (ms := mCons (mPk 1) (mCons (M.pure (.v (.int 5))) mNil)) (i := 1) (t := t) (l := l) (size := 5) (cs := cs) (ρ := LS x0 t l cs (a0 (dW m w)) (a0 (dW n w)) .any .any .any .any .any .any .any .any .any .any .any .any) (ρ1 := LS x0 t l cs (a0 (dW m w)) (a0 (dW n w)) .any .any .any .any .any .any .any .any .any .any .any .any) rfl rfl (by decide) (by decide) (by omega) hc
  have a1 : mLst (mCons (mFz (mCall 2 F__law_draw (mCons (mPk 1) (mCons (M.pure (.v (.int 5))) mNil)))) (mCons (M.pure (.v (.int 2))) mNil)) (LS x0 t l cs (a0 (dW m w)) (a0 (dW n w)) .any .any .any .any .any .any .any .any .any .any .any .any) = .ok (.o ([v, 2].map iN)) (LS x0 t1 l1 cs (a0 (dW m w)) (a0 (dW n w)) .any .any .any .any .any .any .any .any .any .any .any .any) := by
    have := cons_ok (fz_v d1) (cons_ok (ms := mNil) (m := M.pure (.v (iN 2))) rfl nil_ok)
    exact (bind_ok this).trans rfl
  have a2 : mOp (fEqN false) (mCl fLen (mCons (mPk 3) mNil)) (M.pure (.v (.int 4))) (LS x0 t1 l1 cs (a0 (dW m w)) (a0 (dW n w)) .any .any .any .any .any .any .any .any .any .any .any .any) = .ok (.v (.bl (decide (n = 4)))) (LS x0 t1 l1 cs (a0 (dW m w)) (a0 (dW n w)) .any .any .any .any .any .any .any .any .any .any .any .any) := by
    have := op_ok (mb := M.pure (.v (iN 4))) (cl_ok (cons_ok (m := mPk 3) (ms := mNil) (ρ := LS x0 t1 l1 cs (a0 (dW m w)) (a0 (dW n w)) .any .any .any .any .any .any .any .any .any .any .any .any) rfl nil_ok) len_t) rfl (eqN false _ 4)
    rw [List.length_map, List.length_range] at this
    exact this
  have a3 : mCl fIntOf (mCons (mOp (fEqN false) (mCl fLen (mCons (mPk 3) mNil)) (M.pure (.v (.int 4)))) mNil) (LS x0 t1 l1 cs (a0 (dW m w)) (a0 (dW n w)) .any .any .any .any .any .any .any .any .any .any .any .any) = .ok (.v (iN (if n = 4 then 1 else 0))) (LS x0 t1 l1 cs (a0 (dW m w)) (a0 (dW n w)) .any .any .any .any .any .any .any .any .any .any .any .any) := by
    refine cl_ok (cons_ok a2 nil_ok) ?_
    show some (Pd.Tm.v (.int (if decide (n = 4) = true then 1 else 0))) = _
    by_cases h : n = 4
    · simp [h]
    · simp [h]
  have hq : (if n = 4 then 1 else 0) < [v, 2].length := by
    show _ < 2
    split <;> omega
  have a4 := op_ok a1 a3 (pick hq)
  have hcn : ∃ c, [v, 2][if n = 4 then 1 else 0]'hq = c ∧ c ≤ 4 ∧ (n = 4 → c = 2) := ⟨_, rfl, by
    by_cases h : n = 4
    · simp [h]
    · simp [h]
      omega⟩
  obtain ⟨c, e0, e1, e2⟩ := hcn
  rw [e0] at a4
  have hit := rng1_ok (cons_ok a4 nil_ok) (by omega)
  have h2 := mLc_inv (tg := mSet 8) (c := M.pure true) (el := mFz (mCall 3 F__law_barred (mCons (mPk 1) (mCons (mVar 3) (mCons (M.pure (.v (.bl false))) mNil))))) (vs := [8]) iN (fun _ y => ∃ b, ((∀ x ∈ b, x < 10) ∧ sm n (abl b) ≠ 0) ∧ y = dB b) (fun _ b => b = true) (fun n' ρ => ∃ t l, t ≤ n' ∧ ρ = LS x0 t l cs (a0 (dW m w)) (a0 (dW n w)) .any .any .any .any .any .any .any .any .any .any .any .any) 20 t1 (2 ^ 50 - 1) hit (by rw [List.length_range]; omega) rfl (by rw [List.length_range]; omega) ⟨t1, l1, Nat.le_refl _, rfl⟩ (fun n ρ' ⟨t, l, _, e⟩ => by rw [e]; rfl) (fun k hk n' ρ hn' ⟨t3, l3, ht3, e⟩ => by
    subst e
    obtain ⟨t4, l4, b, p1, p2, p3, p4⟩ := barred_ev (m := n) (t := t3) (l := l3) (w := w) (cs := cs) hc (by omega) (by omega) hn1
    have a5 := bor_call (n := 3) (i := 1) (ms := mCons (mPk 1) (mCons (mVar 3) (mCons (M.pure (.v (.bl false))) mNil))) (ds := [dW n w, .bl false]) (ρ := LS x0 t3 l3 cs (a0 (dW m w)) (a0 (dW n w)) .any .any .any .any (a0 (iN k)) .any .any .any .any .any .any .any) (ρ1 := LS x0 t3 l3 cs (a0 (dW m w)) (a0 (dW n w)) .any .any .any .any (a0 (iN k)) .any .any .any .any .any .any .any) (r := dr t3 l3 cs) rfl rfl rfl p4
    exact ⟨_, true, _, rfl, rfl, rfl, fun _ => ⟨dB b, LS x0 t4 l4 cs (a0 (dW m w)) (a0 (dW n w)) .any .any .any .any (a0 (iN k)) .any .any .any .any .any .any .any, _, fz_v (fz_rv a5), rfl, ⟨t4, l4, by omega, rfl⟩, b, ⟨p2, p3⟩, rfl⟩, fun z => by cases z⟩)
  obtain ⟨zs, ys, ρ', k1, k2, k3, k4, t6, l6, k5, k6⟩ := h2
  subst k6
  have hz : (zs.filter (·.2)).map (·.1) = List.range c := by rw [← k1, List.filter_eq_self.mpr fun z hz => k2 z hz]
  rw [hz] at k3
  obtain ⟨rows, j1, j2, j3⟩ := all2_ex k3
  rw [List.length_range] at j2 k5
  have h3 : mSet 4 (.o ys) (LS x0 t6 l6 cs (a0 (dW m w)) (a0 (dW n w)) .any .any .any .any .any .any .any .any .any .any .any .any) = some (LS x0 t6 l6 cs (a0 (dW m w)) (a0 (dW n w)) (o0 ys) .any .any .any .any .any .any .any .any .any .any .any) := rfl
  have h4 := asg_ok (ρ1 := LS x0 t6 l6 cs (a0 (dW m w)) (a0 (dW n w)) .any .any .any .any .any .any .any .any .any .any .any .any) k4 h3
  rw [j1] at h4
  exact ⟨t6, l6, rows, by omega, by omega, fun h => by rw [j2]; exact e2 h, j3, h4⟩
end K62
set_option Elab.async false
set_option linter.all false
set_option maxRecDepth 100000
set_option maxHeartbeats 2000000
namespace K62
open PySem PySem.Spec PyProof.Rows L2 Pd
variable {ρ ρ1 : Rho}
/-! ### the law's main loop -/
abbrev ML (x0 x3 x4 : Sl) (cs : List Nat) (m : Nat) (w : Nat → Nat) (t l : Nat) (r : Rec) (s : Nat → Nat) (x8 x9 x10 x11 : Sl) : Rho := LS x0 t l cs (a0 (dW m w)) x3 x4 (o0 (NR m)) (o0 (r.map dE)) (a0 (dS m s)) x8 x9 x10 x11 .any .any .any .any
abbrev dst : M Pd.Tm := mCl fTupOf (mCons (mLc (mSeqIt (mPk 2)) (mSet 13) (M.pure true) (mFz (mCall 2 F__law_draw (mCons (mPk 1) (mCons (M.pure (.v (.int 5))) mNil)))) [13]) mNil)
theorem dst_ev {x0 x3 x4 x8 x9 x10 x11 : Sl} {cs : List Nat} {m t l : Nat} {w s : Nat → Nat} {r : Rec} (hc : cs ≠ []) (ht : t < 2 ^ 59) (hm : m ≤ 8) : ∃ (t' l' : Nat) (s' : Nat → Nat), t' ≤ t + 8 ∧ (∀ k, k < m → s' k < 5) ∧ dst (ML x0 x3 x4 cs m w t l r s x8 x9 x10 x11) = .ok (.v (dS m s')) (ML x0 x3 x4 cs m w t' l' r s x8 x9 x10 x11) := by
  have hit : mSeqIt (mPk 2) (ML x0 x3 x4 cs m w t l r s x8 x9 x10 x11) = .ok ((List.range m).map (dP w)) (ML x0 x3 x4 cs m w t l r s x8 x9 x10 x11) := sit_ok (fz_v rfl) rfl
  have h2 := mLc_inv (tg := mSet 13) (c := M.pure true) (el := mFz (mCall 2 F__law_draw (mCons (mPk 1) (mCons (M.pure (.v (.int 5))) mNil)))) (vs := [13]) (dP w) (fun _ y => ∃ c, c < 5 ∧ y = iN c) (fun _ b => b = true) (fun n' ρ => ∃ t l, t ≤ n' ∧ ρ = ML x0 x3 x4 cs m w t l r s x8 x9 x10 x11) 1 t (2 ^ 60 - 1) hit (by rw [List.length_range]; omega) rfl (by rw [List.length_range]; omega) ⟨t, l, Nat.le_refl _, rfl⟩ (fun n ρ' ⟨t, l, _, e⟩ => by rw [e]; rfl) (fun k hk n' ρ hn' ⟨t3, l3, ht3, e⟩ => by
    subst e
    obtain ⟨t4, l4, v4, b4, c4, d4⟩ := draw_call (ms := mCons (mPk 1) (mCons (M.pure (.v (.int 5))) mNil)) (i := 1) (t := t3) (l := l3) (size := 5) (cs := cs) (ρ := LS x0 t3 l3 cs (a0 (dW m w)) x3 x4 (o0 (NR m)) (o0 (r.map dE)) (a0 (dS m s)) x8 x9 x10 x11 .any (a0 (dP w k)) .any .any) (ρ1 := LS x0 t3 l3 cs (a0 (dW m w)) x3 x4 (o0 (NR m)) (o0 (r.map dE)) (a0 (dS m s)) x8 x9 x10 x11 .any (a0 (dP w k)) .any .any) rfl rfl (by decide) (by decide) (by omega) hc
    exact ⟨_, true, _, rfl, rfl, rfl, fun _ => ⟨iN v4, LS x0 t4 l4 cs (a0 (dW m w)) x3 x4 (o0 (NR m)) (o0 (r.map dE)) (a0 (dS m s)) x8 x9 x10 x11 .any (a0 (dP w k)) .any .any, _, fz_v (fz_v d4), rfl, ⟨t4, l4, by omega, rfl⟩, v4, b4, rfl⟩, fun z => by cases z⟩)
  obtain ⟨zs, ys, ρ', k1, k2, k3, k4, t6, l6, k5, k6⟩ := h2
  subst k6
  have hz : (zs.filter (·.2)).map (·.1) = List.range m := by rw [← k1, List.filter_eq_self.mpr fun z hz => k2 z hz]
  rw [hz] at k3
  obtain ⟨s', j1, j2⟩ := all2_f (P := fun c => c < 5) (g := fun _ c => iN c) (c0 := 0) List.nodup_range k3
  rw [List.length_range] at k5
  have h3 : dst (ML x0 x3 x4 cs m w t l r s x8 x9 x10 x11) = .ok (.v (.tup ys)) (ML x0 x3 x4 cs m w t6 l6 r s x8 x9 x10 x11) := cl_ok (cons_ok k4 nil_ok) tupOf_o
  rw [j1] at h3
  exact ⟨t6, l6, s', by omega, fun k hk => j2 k (List.mem_range.mpr hk), h3⟩
abbrev mb1 : M Fl := mAsg (mCall 3 F__law_barred (mCons (mPk 1) (mCons (mVar 2) (mCons (M.pure (.v (.bl false))) mNil)))) (mSet 9)
abbrev mb2 : M Fl := mIf (mOr (mNot (mTru fTru (mCall 3 F__law_state (mCons (mVar 2) (mCons (mVar 7) (mCons (mVar 9) mNil)))))) (mNot (mTru fTru (mCall 3 F__law_state (mCons (mVar 2) (mCons dst (mCons (mVar 9) mNil))))))) (mRet (M.pure (.v (.bl false)))) mNx
abbrev mb3 : M Fl := mAsg (mCall 4 F__law_deal (mCons (mVar 2) (mCons (mVar 7) (mCons (mVar 9) (mCons (mFz (mCall 2 F__law_draw (mCons (mPk 1) (mCons (M.pure (.v (.int 1000))) mNil)))) mNil))))) (mUnp 3 [(mSet 10), (mSet 7), (mSet 11)])
abbrev mb4 : M Fl := mApp 6 (mTup (mCons (M.pure (.v (.str "case"))) (mCons (mVar 9) (mCons (mFz (mOp fIx (mOp fIx (mPk 2) (mPk 10)) (M.pure (.v (.int 0))))) mNil))))
abbrev mbody : M Fl := mSeq mb1 (mSeq mb2 (mSeq mb3 mb4))
theorem mbody_ev {x0 x3 x4 : Sl} {cs : List Nat} {m t l n k : Nat} {w s : Nat → Nat} {r : Rec} (hc : cs ≠ []) (ht : t < 2 ^ 49) (hm : m ≤ 8) (hm1 : 1 ≤ m) (hw : ∀ k, k < m → 1 ≤ w k ∧ w k ≤ 6) (hs : ∀ k, k < m → s k ≤ 6 * (n + 1)) (hn : n < 20) (hr : r.length = n) (ho : RecOk r) :
    ∃ (t' l' : Nat) (s' : Nat → Nat) (r' : Rec) (x9 x10 x11 : Sl), t' ≤ t + 100 ∧ (∀ k, k < m → s' k ≤ 6 * (n + 2)) ∧ r'.length = n + 1 ∧ RecOk r' ∧ (∀ r, x9 ≠ .bor r) ∧ (∀ r, x10 ≠ .bor r) ∧ (∀ r, x11 ≠ .bor r) ∧ mbody (ML x0 x3 x4 cs m w t l r s (a0 (iN k)) .any .any .any) = .ok .nx (ML x0 x3 x4 cs m w t' l' r' s' (a0 (iN k)) x9 x10 x11) := by
  obtain ⟨t1, l1, b, p1, p2, p3, p4⟩ := barred_ev (m := m) (t := t) (l := l) (w := w) (cs := cs) hc (by omega) (by omega) hm1
  have a1 : mb1 (ML x0 x3 x4 cs m w t l r s (a0 (iN k)) .any .any .any) = .ok .nx (ML x0 x3 x4 cs m w t1 l1 r s (a0 (iN k)) (a0 (dB b)) .any .any) :=
    asg_ok (bor_call (n := 3) (i := 1) (ds := [dW m w, .bl false]) (ρ := ML x0 x3 x4 cs m w t l r s (a0 (iN k)) .any .any .any) (ρ1 := ML x0 x3 x4 cs m w t l r s (a0 (iN k)) .any .any .any) (r := dr t l cs) rfl rfl rfl p4) rfl
  have ok1 : Ok m w s b := ⟨hm, p2, fun k hk => by have := hw k hk; omega, fun k hk => by have := hs k hk; omega⟩
  obtain ⟨t2, l2, s2, q1, q2, q3⟩ := dst_ev (x0 := x0) (x3 := x3) (x4 := x4) (x8 := a0 (iN k)) (x9 := a0 (dB b)) (x10 := .any) (x11 := .any) (t := t1) (l := l1) (w := w) (s := s) (r := r) hc (by omega) hm
  have ok2 : Ok m w s2 b := ⟨hm, p2, fun k hk => by have := hw k hk; omega, fun k hk => by have := q2 k hk; omega⟩
  have a2 : mb2 (ML x0 x3 x4 cs m w t1 l1 r s (a0 (iN k)) (a0 (dB b)) .any .any) = .ok .nx (ML x0 x3 x4 cs m w t2 l2 r s (a0 (iN k)) (a0 (dB b)) .any .any) := by
    have g1 : mCall 3 F__law_state (mCons (mVar 2) (mCons (mVar 7) (mCons (mVar 9) mNil))) (ML x0 x3 x4 cs m w t1 l1 r s (a0 (iN k)) (a0 (dB b)) .any .any) = .ok (.rv (.val (.bl true))) (ML x0 x3 x4 cs m w t1 l1 r s (a0 (iN k)) (a0 (dB b)) .any .any) := call_ok (ds := [dW m w, dS m s, dB b]) rfl rfl (state_ev ok1)
    have g0 : mCons (mVar 2) (mCons dst (mCons (mVar 9) mNil)) (ML x0 x3 x4 cs m w t1 l1 r s (a0 (iN k)) (a0 (dB b)) .any .any) = .ok ([dW m w, dS m s2, dB b].map Pd.Tm.v) (ML x0 x3 x4 cs m w t2 l2 r s (a0 (iN k)) (a0 (dB b)) .any .any) := cons_ok (x := .v (dW m w)) rfl (cons_ok q3 (cons_ok (x := .v (dB b)) rfl nil_ok))
    have g2 := call_ok (n := 3) g0 rfl (state_ev ok2)
    exact if_f (or_f (not_ok (b := true) (tru_ok g1 rfl)) (not_ok (b := true) (tru_ok g2 rfl))) rfl
  obtain ⟨t3, l3, d, b3, c3, d3⟩ := draw_call (ms := mCons (mPk 1) (mCons (M.pure (.v (.int 1000))) mNil)) (i := 1) (t := t2) (l := l2) (size := 1000) (cs := cs) (ρ := ML x0 x3 x4 cs m w t2 l2 r s (a0 (iN k)) (a0 (dB b)) .any .any) (ρ1 := ML x0 x3 x4 cs m w t2 l2 r s (a0 (iN k)) (a0 (dB b)) .any .any) rfl rfl (by decide) (by decide) (by omega) hc
  have hpos := tot_pos (s := s) (fun k hk => (hw k hk).1) p3
  obtain ⟨j, hj⟩ : ∃ j, (row m w s b)[d % sm m (cc m w b s)]? = some j := rowl_lt (by
    show _ < sm m (cc m w b s)
    exact Nat.mod_lt _ hpos)
  obtain ⟨_, _, _, hjm⟩ := rowl_at hj
  have a3 : mb3 (ML x0 x3 x4 cs m w t2 l2 r s (a0 (iN k)) (a0 (dB b)) .any .any) = .ok .nx (ML x0 x3 x4 cs m w t3 l3 r (wo (K62.cs m w b s) j) (a0 (iN k)) (a0 (dB b)) (a0 (iN j)) (a0 (iN (fil m s b)))) := by
    have g0 : mCons (mVar 2) (mCons (mVar 7) (mCons (mVar 9) (mCons (mFz (mCall 2 F__law_draw (mCons (mPk 1) (mCons (M.pure (.v (.int 1000))) mNil)))) mNil))) (ML x0 x3 x4 cs m w t2 l2 r s (a0 (iN k)) (a0 (dB b)) .any .any) = .ok ([dW m w, dS m s, dB b, iN d].map Pd.Tm.v) (ML x0 x3 x4 cs m w t3 l3 r s (a0 (iN k)) (a0 (dB b)) .any .any) := cons_ok (x := .v (dW m w)) rfl (cons_ok (x := .v (dS m s)) rfl (cons_ok (x := .v (dB b)) rfl (cons_ok (fz_v d3) nil_ok)))
    exact asg_ok (call_ok (n := 4) g0 rfl (ldeal_ev ok1 hpos hj)) rfl
  have a4 : mb4 (ML x0 x3 x4 cs m w t3 l3 r (wo (K62.cs m w b s) j) (a0 (iN k)) (a0 (dB b)) (a0 (iN j)) (a0 (iN (fil m s b)))) = .ok .nx (ML x0 x3 x4 cs m w t3 l3 (r ++ [(b, j)]) (wo (K62.cs m w b s) j) (a0 (iN k)) (a0 (dB b)) (a0 (iN j)) (a0 (iN (fil m s b)))) := by
    have g1 : mTup (mCons (M.pure (.v (.str "case"))) (mCons (mVar 9) (mCons (mFz (mOp fIx (mOp fIx (mPk 2) (mPk 10)) (M.pure (.v (.int 0))))) mNil))) (ML x0 x3 x4 cs m w t3 l3 r (wo (K62.cs m w b s) j) (a0 (iN k)) (a0 (dB b)) (a0 (iN j)) (a0 (iN (fil m s b)))) = .ok (.v (dE (b, j))) (ML x0 x3 x4 cs m w t3 l3 r (wo (K62.cs m w b s) j) (a0 (iN k)) (a0 (dB b)) (a0 (iN j)) (a0 (iN (fil m s b)))) := by
      have g2 := cons_ok (m := M.pure (.v (.str "case"))) (x := .v (.str "case")) (ρ := ML x0 x3 x4 cs m w t3 l3 r (wo (K62.cs m w b s) j) (a0 (iN k)) (a0 (dB b)) (a0 (iN j)) (a0 (iN (fil m s b)))) rfl (cons_ok (m := mVar 9) (x := .v (dB b)) rfl (cons_ok (fz_v (op_ok (mb := M.pure (.v (.int 0))) (op_ok (ma := mPk 2) (mb := mPk 10) rfl rfl (ixt (f := dP w) hjm)) rfl ixT0)) nil_ok))
      exact (bind_ok g2).trans rfl
    have g3 := app_ok (i := 6) (ds := r.map dE) g1 rfl rfl (by rw [List.length_map]; omega)
    have e : r.map dE ++ [dE (b, j)] = (r ++ [(b, j)]).map dE := by rw [List.map_append]; rfl
    rw [e] at g3
    exact g3
  refine ⟨t3, l3, wo (K62.cs m w b s) j, r ++ [(b, j)], a0 (dB b), a0 (iN j), a0 (iN (fil m s b)), by omega, fun k hk => ?_, by simp [hr], fun e he => ?_, fun _ z => (by cases z), fun _ z => (by cases z), fun _ z => (by cases z), seq_ok a1 (seq_ok a2 (seq_ok a3 a4))⟩
  · have h1 : wo (K62.cs m w b s) j k ≤ K62.cs m w b s k := by
      unfold wo
      split <;> omega
    have h2 : K62.cs m w b s k ≤ s k + w k := by
      unfold K62.cs
      split <;> omega
    have := hs k hk
    have := (hw k hk).2
    omega
  · rcases List.mem_append.mp he with z | z
    · exact ho e z
    · rw [List.mem_singleton.mp z]
      exact ⟨by show j < 10; omega, p2⟩
abbrev mmain : M Fl := mFor (mRng1 (mCons (mCall 2 F__law_draw (mCons (mPk 1) (mCons (M.pure (.v (.int 15))) mNil))) mNil)) (mSet 8) mbody [8, 9, 10, 11]
theorem fgtM {x0 x3 x4 : Sl} {cs : List Nat} {m t l : Nat} {w s : Nat → Nat} {r : Rec} {x8 x9 x10 x11 : Sl} (h8 : ∀ r, x8 ≠ .bor r) (h9 : ∀ r, x9 ≠ .bor r) (h10 : ∀ r, x10 ≠ .bor r) (h11 : ∀ r, x11 ≠ .bor r) : fgt [8, 9, 10, 11] (ML x0 x3 x4 cs m w t l r s x8 x9 x10 x11) = some (ML x0 x3 x4 cs m w t l r s .any .any .any .any) := by
  cases x8 with
  | bor z => exact absurd rfl (h8 z)
  | any => cases x9 with
    | bor z => exact absurd rfl (h9 z)
    | any => cases x10 with
      | bor z => exact absurd rfl (h10 z)
      | any => cases x11 with
        | bor z => exact absurd rfl (h11 z)
        | _ => rfl
      | own _ => cases x11 with
        | bor z => exact absurd rfl (h11 z)
        | _ => rfl
    | own _ => cases x10 with
      | bor z => exact absurd rfl (h10 z)
      | any => cases x11 with
        | bor z => exact absurd rfl (h11 z)
        | _ => rfl
      | own _ => cases x11 with
        | bor z => exact absurd rfl (h11 z)
        | _ => rfl
  | own _ => cases x9 with
    | bor z => exact absurd rfl (h9 z)
    | any => cases x10 with
      | bor z => exact absurd rfl (h10 z)
      | any => cases x11 with
        | bor z => exact absurd rfl (h11 z)
        | _ => rfl
      | own _ => cases x11 with
        | bor z => exact absurd rfl (h11 z)
        | _ => rfl
    | own _ => cases x10 with
      | bor z => exact absurd rfl (h10 z)
      | any => cases x11 with
        | bor z => exact absurd rfl (h11 z)
        | _ => rfl
      | own _ => cases x11 with
        | bor z => exact absurd rfl (h11 z)
        | _ => rfl
theorem mmain_ev {x0 x3 x4 : Sl} {cs : List Nat} {m t l : Nat} {w : Nat → Nat} (hc : cs ≠ []) (ht : t < 2 ^ 40) (hm : m ≤ 8) (hm1 : 1 ≤ m) (hw : ∀ k, k < m → 1 ≤ w k ∧ w k ≤ 6) :
    ∃ (t' l' : Nat) (s' : Nat → Nat) (r' : Rec), t' ≤ t + 2000 ∧ (∀ k, k < m → s' k ≤ 90) ∧ r'.length ≤ 14 ∧ RecOk r' ∧ mmain (ML x0 x3 x4 cs m w t l [] w .any .any .any .any) = .ok .nx (ML x0 x3 x4 cs m w t' l' r' s' .any .any .any .any) := by
  obtain ⟨t1, l1, v, b1, c1, d1⟩ := draw_call (ms := mCons (mPk 1) (mCons (M.pure (.v (.int 15))) mNil)) (i := 1) (t := t) (l := l) (size := 15) (cs := cs) (ρ := ML x0 x3 x4 cs m w t l [] w .any .any .any .any) (ρ1 := ML x0 x3 x4 cs m w t l [] w .any .any .any .any) rfl rfl (by decide) (by decide) (by omega) hc
  have hit := rng1_ok (cons_ok d1 nil_ok) (by omega)
  obtain ⟨ρ', k1, t2, l2, s2, r2, k2, k3, k4, k5, k6⟩ := mLoop_inv (tg := mSet 8) (b := mbody) (js := [8, 9, 10, 11]) iN (fun n ρ => ∃ t l s r, t ≤ t1 + 100 * n ∧ (∀ k, k < m → s k ≤ 6 * (n + 1)) ∧ r.length = n ∧ RecOk r ∧ ρ = ML x0 x3 x4 cs m w t l r s .any .any .any .any) v (List.range v) 0 (ML x0 x3 x4 cs m w t1 l1 [] w .any .any .any .any) (ML x0 x3 x4 cs m w t1 l1 [] w .any .any .any .any) (by rw [List.length_range]; omega) rfl ⟨t1, l1, w, [], by omega, fun k hk => by have := (hw k hk).2; omega, rfl, fun e he => absurd he List.not_mem_nil, rfl⟩ (fun k hk n ρ0 hn ⟨t3, l3, s3, r3, i1, i2, i3, i4, i5⟩ => by
    subst i5
    obtain ⟨t4, l4, s4, r4, x9, x10, x11, j1, j2, j3, j4, j5, j6, j7, j8⟩ := mbody_ev (x0 := x0) (x3 := x3) (x4 := x4) (k := k) (l := l3) hc (t := t3) (by omega) hm hm1 hw i2 (by omega) i3 i4
    exact ⟨_, _, _, rfl, j8, fgtM (fun _ z => (by cases z)) j5 j6 j7, t4, l4, s4, r4, by omega, j2, j3, j4, rfl⟩)
  rw [List.length_range] at k2 k3 k4
  subst k6
  exact ⟨t2, l2, s2, r2, by omega, fun k hk => by have := k3 k hk; omega, by omega, k5, for_ok hit k1⟩
end K62
set_option Elab.async false
set_option linter.all false
set_option maxRecDepth 100000
set_option maxHeartbeats 2000000
namespace K62
open PySem PySem.Spec PyProof.Rows L2 Pd
variable {ρ ρ1 : Rho}
/-! ### the law's end -/
theorem bd1 {m k : Nat} {w : Nat → Nat} (hm : m ≤ 8) (hw : ∀ k, k < m → 1 ≤ w k ∧ w k ≤ 6) (hk : k ≤ 15) : Bd m w w 1 1 k 1 := ⟨hm, hw, fun k hk => by have := (hw k hk).2; omega, Nat.le_refl _, Nat.one_pos, by decide, by omega⟩
abbrev EL (x0 x3 x4 : Sl) (cs : List Nat) (m : Nat) (w : Nat → Nat) (t l : Nat) (r : Rec) (s : Nat → Nat) (x8 x12 : Sl) : Rho := LS x0 t l cs (a0 (dW m w)) x3 x4 (o0 (NR m)) (a0 (lR r)) (a0 (dS m s)) x8 .any .any .any x12 .any .any .any
abbrev mchk : M Fl := mIf (mOr (mNot (mTru fTru (mCall 2 F__law_asked (mCons (mVar 2) (mCons (mVar 6) mNil))))) (mNot (mTru fTru (mCall 3 F__law_state (mCons (mVar 2) (mCons (mVar 7) (mCons (mCl fTupOf (mCons (mPk 5) mNil)) mNil))))))) (mRet (M.pure (.v (.bl false)))) mNx
theorem mchk_ev {x0 x3 x4 : Sl} {cs : List Nat} {m t l : Nat} {w s : Nat → Nat} {r : Rec} (hm : m ≤ 8) (hw : ∀ k, k < m → 1 ≤ w k ∧ w k ≤ 6) (hs : ∀ k, k < m → s k ≤ 90) (hr : r.length ≤ 14) (ho : RecOk r) : mchk (ML x0 x3 x4 cs m w t l r s .any .any .any .any) = .ok .nx (EL x0 x3 x4 cs m w t l r s .any .any) := by
  have a0' : mCons (mVar 2) (mCons (mVar 6) mNil) (ML x0 x3 x4 cs m w t l r s .any .any .any .any) = .ok ([dW m w, lR r].map Pd.Tm.v) (EL x0 x3 x4 cs m w t l r s .any .any) := cons_ok (x := .v (dW m w)) rfl (cons_ok (x := .v (lR r)) (var_o rfl) nil_ok)
  have a1 := call_ok (n := 2) a0' rfl (asked_ev ho (bd1 hm hw (by omega)))
  have b0 : mCons (mVar 2) (mCons (mVar 7) (mCons (mCl fTupOf (mCons (mPk 5) mNil)) mNil)) (EL x0 x3 x4 cs m w t l r s .any .any) = .ok ([dW m w, dS m s, dB (List.range m)].map Pd.Tm.v) (EL x0 x3 x4 cs m w t l r s .any .any) := cons_ok (x := .v (dW m w)) rfl (cons_ok (x := .v (dS m s)) rfl (cons_ok (x := .v (dB (List.range m))) (cl_ok (cons_ok (x := .pk 5) rfl nil_ok) (tupOf_pk rfl)) nil_ok))
  have ok : Ok m w s (List.range m) := ⟨hm, fun x hx => by have := List.mem_range.mp hx; omega, fun k hk => by have := hw k hk; omega, fun k hk => by have := hs k hk; omega⟩
  have b1 := call_ok (n := 3) b0 rfl (state_ev ok)
  exact if_f (or_f (not_ok (b := true) (tru_ok a1 rfl)) (not_ok (b := true) (tru_ok b1 rfl))) rfl
abbrev sl1 : M Pd.Tm := mSl (mPk 6) (M.pure none) (mPart (mPk 8))
abbrev sl2 : M Pd.Tm := mSl (mPk 6) (mPart (mOp fAdd (mPk 8) (M.pure (.v (.int 1))))) (M.pure none)
abbrev chg : M Fl := mIf (mNot (mTru fTru (mCall 2 F__law_asked (mCons (mVar 2) (mCons (mFz (mOp fAdd (mOp fAdd sl1 (mLst (mCons (mTup (mCons (M.pure (.v (.str "case"))) (mCons (mFz (mOp fIx (mOp fIx (mPk 6) (mPk 8)) (M.pure (.v (.int 1))))) (mCons (mVar 12) mNil)))) mNil))) sl2)) mNil))))) (mRet (M.pure (.v (.bl false)))) mNx
theorem chg_ev {x0 x3 x4 : Sl} {cs : List Nat} {m t l k n : Nat} {w s : Nat → Nat} {r : Rec} (hm : m ≤ 8) (hw : ∀ k, k < m → 1 ≤ w k ∧ w k ≤ 6) (hr : r.length ≤ 14) (ho : RecOk r) (hk : k < r.length) (hn : n < 10) : chg (EL x0 x3 x4 cs m w t l r s (a0 (iN k)) (a0 (dN n))) = .ok .nx (EL x0 x3 x4 cs m w t l r s (a0 (iN k)) (a0 (dN n))) := by
  have a1 : sl1 (EL x0 x3 x4 cs m w t l r s (a0 (iN k)) (a0 (dN n))) = .ok (.o ((r.take k).map dE)) (EL x0 x3 x4 cs m w t l r s (a0 (iN k)) (a0 (dN n))) := by
    refine sl_ok (x := .v (lR r)) (lo := none) (hi := some (k : Int)) rfl rfl rfl ?_
    rw [← cut_to]
    rfl
  have a2 : sl2 (EL x0 x3 x4 cs m w t l r s (a0 (iN k)) (a0 (dN n))) = .ok (.o ((r.drop (k + 1)).map dE)) (EL x0 x3 x4 cs m w t l r s (a0 (iN k)) (a0 (dN n))) := by
    refine sl_ok (x := .v (lR r)) (lo := some ((k + 1 : Nat) : Int)) (hi := none) rfl (part_ok (op_ok rfl rfl (addN k 1))) rfl ?_
    rw [← cut_from (by omega)]
    rfl
  have a3 : mTup (mCons (M.pure (.v (.str "case"))) (mCons (mFz (mOp fIx (mOp fIx (mPk 6) (mPk 8)) (M.pure (.v (.int 1))))) (mCons (mVar 12) mNil))) (EL x0 x3 x4 cs m w t l r s (a0 (iN k)) (a0 (dN n))) = .ok (.v (dE (r[k].1, n))) (EL x0 x3 x4 cs m w t l r s (a0 (iN k)) (a0 (dN n))) := by
    have g := cons_ok (m := M.pure (.v (.str "case"))) (x := .v (.str "case")) (ρ := EL x0 x3 x4 cs m w t l r s (a0 (iN k)) (a0 (dN n))) rfl (cons_ok (fz_v (op_ok (mb := M.pure (.v (.int 1))) (op_ok (ma := mPk 6) (mb := mPk 8) rfl rfl (ixL_at (e := dE) (xs := r) rfl hk)) rfl ixT1)) (cons_ok (m := mVar 12) (x := .v (dN n)) rfl nil_ok))
    exact (bind_ok g).trans rfl
  have a4 : mLst (mCons (mTup (mCons (M.pure (.v (.str "case"))) (mCons (mFz (mOp fIx (mOp fIx (mPk 6) (mPk 8)) (M.pure (.v (.int 1))))) (mCons (mVar 12) mNil)))) mNil) (EL x0 x3 x4 cs m w t l r s (a0 (iN k)) (a0 (dN n))) = .ok (.o ([(r[k].1, n)].map dE)) (EL x0 x3 x4 cs m w t l r s (a0 (iN k)) (a0 (dN n))) := (bind_ok (cons_ok a3 nil_ok)).trans rfl
  have a5 := op_ok (op_ok a1 a4 (catL_oo (by simp; omega))) a2 (catL_oo (by simp; omega))
  rw [← List.map_append, ← List.map_append] at a5
  have ho' : RecOk (r.take k ++ [(r[k].1, n)] ++ r.drop (k + 1)) := fun e he => by
    rcases List.mem_append.mp he with z | z
    · rcases List.mem_append.mp z with z | z
      · exact ho e (List.mem_of_mem_take z)
      · rw [List.mem_singleton.mp z]
        exact ⟨hn, (ho r[k] (List.getElem_mem hk)).2⟩
    · exact ho e (List.mem_of_mem_drop z)
  have a6 : mCons (mVar 2) (mCons (mFz (mOp fAdd (mOp fAdd sl1 (mLst (mCons (mTup (mCons (M.pure (.v (.str "case"))) (mCons (mFz (mOp fIx (mOp fIx (mPk 6) (mPk 8)) (M.pure (.v (.int 1))))) (mCons (mVar 12) mNil)))) mNil))) sl2)) mNil) (EL x0 x3 x4 cs m w t l r s (a0 (iN k)) (a0 (dN n))) = .ok ([dW m w, lR (r.take k ++ [(r[k].1, n)] ++ r.drop (k + 1))].map Pd.Tm.v) (EL x0 x3 x4 cs m w t l r s (a0 (iN k)) (a0 (dN n))) := cons_ok (x := .v (dW m w)) rfl (cons_ok (fz_o a5) nil_ok)
  have a7 := call_ok (n := 2) a6 rfl (asked_ev ho' (bd1 hm hw (by simp; omega)))
  exact if_f (not_ok (b := true) (tru_ok a7 rfl)) rfl
abbrev inn : M Fl := mFor (mSeqIt (mLst (mCons (mFz (mOp fIx (mPk 5) (mCall 2 F__law_draw (mCons (mPk 1) (mCons (mCl fLen (mCons (mPk 5) mNil)) mNil))))) (mCons (M.pure (.v (.str "zed"))) mNil)))) (mSet 12) chg [12]
theorem inn_ev {x0 x3 x4 : Sl} {cs : List Nat} {m t l k : Nat} {w s : Nat → Nat} {r : Rec} (hc : cs ≠ []) (ht : t < 2 ^ 50) (hm : m ≤ 8) (hm1 : 1 ≤ m) (hw : ∀ k, k < m → 1 ≤ w k ∧ w k ≤ 6) (hr : r.length ≤ 14) (ho : RecOk r) (hk : k < r.length) : ∃ t' l', t' ≤ t + 1 ∧ inn (EL x0 x3 x4 cs m w t l r s (a0 (iN k)) .any) = .ok .nx (EL x0 x3 x4 cs m w t' l' r s (a0 (iN k)) .any) := by
  have a1 : mCons (mPk 1) (mCons (mCl fLen (mCons (mPk 5) mNil)) mNil) (EL x0 x3 x4 cs m w t l r s (a0 (iN k)) .any) = .ok [.pk 1, .v (iN m)] (EL x0 x3 x4 cs m w t l r s (a0 (iN k)) .any) := cons_ok rfl (cons_ok (lf_lenR Lf.o rfl) nil_ok)
  obtain ⟨t1, l1, v, b1, c1, d1⟩ := draw_call a1 (t := t) (l := l) (cs := cs) rfl (by omega) (by omega) (by omega) hc
  have a2 : mOp fIx (mPk 5) (mCall 2 F__law_draw (mCons (mPk 1) (mCons (mCl fLen (mCons (mPk 5) mNil)) mNil))) (EL x0 x3 x4 cs m w t l r s (a0 (iN k)) .any) = .ok (.v (dN v)) (EL x0 x3 x4 cs m w t1 l1 r s (a0 (iN k)) .any) := op_ok (x := .pk 5) rfl d1 (ixo (f := dN) rfl b1)
  have a3 : mLst (mCons (mFz (mOp fIx (mPk 5) (mCall 2 F__law_draw (mCons (mPk 1) (mCons (mCl fLen (mCons (mPk 5) mNil)) mNil))))) (mCons (M.pure (.v (.str "zed"))) mNil)) (EL x0 x3 x4 cs m w t l r s (a0 (iN k)) .any) = .ok (.o ([v, 9].map dN)) (EL x0 x3 x4 cs m w t1 l1 r s (a0 (iN k)) .any) := by
    have g := cons_ok (fz_v a2) (cons_ok (m := M.pure (.v (.str "zed"))) (x := .v (dN 9)) rfl nil_ok)
    exact (bind_ok g).trans rfl
  have a4 := sit_ok (fz_o a3) rfl
  obtain ⟨ρ', k1, k2⟩ := mLoop_inv (tg := mSet 12) (b := chg) (js := [12]) dN (fun _ ρ => ρ = EL x0 x3 x4 cs m w t1 l1 r s (a0 (iN k)) .any) 2 [v, 9] 0 (EL x0 x3 x4 cs m w t1 l1 r s (a0 (iN k)) .any) (EL x0 x3 x4 cs m w t1 l1 r s (a0 (iN k)) .any) (by simp) rfl rfl (fun n hn _ ρ0 _ e => by
    subst e
    have hn' : n < 10 := by
      simp only [List.mem_cons, List.not_mem_nil, or_false] at hn
      omega
    exact ⟨_, _, _, rfl, chg_ev hm hw hr ho hk hn', rfl, rfl⟩)
  subst k2
  exact ⟨t1, l1, c1, for_ok a4 k1⟩
abbrev mout : M Fl := mFor (mRng1 (mCons (mCl fLen (mCons (mPk 6) mNil)) mNil)) (mSet 8) inn [8, 12]
theorem mout_ev {x0 x3 x4 : Sl} {cs : List Nat} {m t l : Nat} {w s : Nat → Nat} {r : Rec} (hc : cs ≠ []) (ht : t < 2 ^ 49) (hm : m ≤ 8) (hm1 : 1 ≤ m) (hw : ∀ k, k < m → 1 ≤ w k ∧ w k ≤ 6) (hr : r.length ≤ 14) (ho : RecOk r) : ∃ t' l', mout (EL x0 x3 x4 cs m w t l r s .any .any) = .ok .nx (EL x0 x3 x4 cs m w t' l' r s .any .any) := by
  have a1 : mCl fLen (mCons (mPk 6) mNil) (EL x0 x3 x4 cs m w t l r s .any .any) = .ok (.v (iN r.length)) (EL x0 x3 x4 cs m w t l r s .any .any) := by
    have := cl_ok (cons_ok (m := mPk 6) (ms := mNil) (x := .v (lR r)) (ρ := EL x0 x3 x4 cs m w t l r s .any .any) rfl nil_ok) len_l
    rw [List.length_map] at this
    exact this
  have hit := rng1_ok (cons_ok a1 nil_ok) (by omega)
  obtain ⟨ρ', k1, t2, l2, k2, k3⟩ := mLoop_inv (tg := mSet 8) (b := inn) (js := [8, 12]) iN (fun n ρ => ∃ t2 l2, t2 ≤ t + n ∧ ρ = EL x0 x3 x4 cs m w t2 l2 r s .any .any) r.length (List.range r.length) 0 (EL x0 x3 x4 cs m w t l r s .any .any) (EL x0 x3 x4 cs m w t l r s .any .any) (by simp) rfl ⟨t, l, by omega, rfl⟩ (fun k hk n ρ0 hn ⟨t3, l3, h3, e⟩ => by
    subst e
    obtain ⟨t4, l4, h4, h5⟩ := inn_ev (x0 := x0) (x3 := x3) (x4 := x4) (s := s) (l := l3) hc (t := t3) (by omega) hm hm1 hw hr ho (List.mem_range.mp hk)
    exact ⟨_, _, _, rfl, h5, rfl, t4, l4, by omega, rfl⟩)
  subst k3
  exact ⟨t2, l2, for_ok hit k1⟩
abbrev mend : M Fl := mRet (mAndV (mCall 2 F__law_asked (mCons (mVar 2) (mCons (mFz (mOp fAdd (mPk 6) (mLst (mCons (mTup (mCons (M.pure (.v (.str "case"))) (mCons (mCl fTupOf (mCons (mPk 5) mNil)) (mCons (mFz (mOp fIx (mPk 5) (M.pure (.v (.int 0))))) mNil)))) mNil)))) mNil))) (mCall 2 F__law_asked (mCons (mVar 2) (mCons (mFz (mLst mNil)) mNil))))
theorem mend_ev {x0 x3 x4 : Sl} {cs : List Nat} {m t l : Nat} {w s : Nat → Nat} {r : Rec} (hm : m ≤ 8) (hm1 : 1 ≤ m) (hw : ∀ k, k < m → 1 ≤ w k ∧ w k ≤ 6) (hr : r.length ≤ 14) (ho : RecOk r) : mend (EL x0 x3 x4 cs m w t l r s .any .any) = .ok (.rt (.val (.bl true))) (EL x0 x3 x4 cs m w t l r s .any .any) := by
  have a3 : mTup (mCons (M.pure (.v (.str "case"))) (mCons (mCl fTupOf (mCons (mPk 5) mNil)) (mCons (mFz (mOp fIx (mPk 5) (M.pure (.v (.int 0))))) mNil))) (EL x0 x3 x4 cs m w t l r s .any .any) = .ok (.v (dE (List.range m, 0))) (EL x0 x3 x4 cs m w t l r s .any .any) := by
    have g := cons_ok (m := M.pure (.v (.str "case"))) (x := .v (.str "case")) (ρ := EL x0 x3 x4 cs m w t l r s .any .any) rfl (cons_ok (cl_ok (cons_ok (m := mPk 5) (ms := mNil) (x := .pk 5) rfl nil_ok) (tupOf_pk (ds := NR m) rfl)) (cons_ok (fz_v (op_ok (ma := mPk 5) (mb := M.pure (.v (iN 0))) rfl rfl (ixo (f := dN) (m := m) (i := 5) rfl (by omega)))) nil_ok))
    exact (bind_ok g).trans rfl
  have a4 : mLst (mCons (mTup (mCons (M.pure (.v (.str "case"))) (mCons (mCl fTupOf (mCons (mPk 5) mNil)) (mCons (mFz (mOp fIx (mPk 5) (M.pure (.v (.int 0))))) mNil)))) mNil) (EL x0 x3 x4 cs m w t l r s .any .any) = .ok (.o ([(List.range m, 0)].map dE)) (EL x0 x3 x4 cs m w t l r s .any .any) := (bind_ok (cons_ok a3 nil_ok)).trans rfl
  have a5 := op_ok (ma := mPk 6) (x := .v (lR r)) (ρ := EL x0 x3 x4 cs m w t l r s .any .any) rfl a4 (catL_lo (by simp; omega))
  rw [← List.map_append] at a5
  have ho' : RecOk (r ++ [(List.range m, 0)]) := fun e he => by
    rcases List.mem_append.mp he with z | z
    · exact ho e z
    · rw [List.mem_singleton.mp z]
      exact ⟨by show 0 < 10; decide, fun x hx => by have := List.mem_range.mp hx; omega⟩
  have a6 : mCons (mVar 2) (mCons (mFz (mOp fAdd (mPk 6) (mLst (mCons (mTup (mCons (M.pure (.v (.str "case"))) (mCons (mCl fTupOf (mCons (mPk 5) mNil)) (mCons (mFz (mOp fIx (mPk 5) (M.pure (.v (.int 0))))) mNil)))) mNil)))) mNil) (EL x0 x3 x4 cs m w t l r s .any .any) = .ok ([dW m w, lR (r ++ [(List.range m, 0)])].map Pd.Tm.v) (EL x0 x3 x4 cs m w t l r s .any .any) := cons_ok (x := .v (dW m w)) rfl (cons_ok (fz_o a5) nil_ok)
  have a7 := call_ok (n := 2) a6 rfl (asked_ev ho' (bd1 hm hw (by simp; omega)))
  have b6 : mCons (mVar 2) (mCons (mFz (mLst mNil)) mNil) (EL x0 x3 x4 cs m w t l r s .any .any) = .ok ([dW m w, lR []].map Pd.Tm.v) (EL x0 x3 x4 cs m w t l r s .any .any) := rfl
  have b7 := call_ok (n := 2) b6 rfl (asked_ev (r := []) (fun e he => absurd he List.not_mem_nil) (bd1 hm hw (by simp)))
  exact ret_ok (andV_t (tru_ok a7 rfl) b7)
/-! ### the whole -/
theorem law_true : LawTrue := fun ns hn => by
  have hc : ns.map Int.natAbs ++ [0] ≠ [] := by simp
  generalize hcs : ns.map Int.natAbs ++ [0] = cs at hc
  have s1 : mAsg (mCall 1 F__law_open (mCons (mVar 0) mNil)) (mSet 1) ([a0 (.fls (ns.map D.int))] ++ List.replicate (16 - 1) .any) = .ok .nx (LS (a0 (.fls (ns.map D.int))) 0 0 cs .any .any .any .any .any .any .any .any .any .any .any .any .any .any) := by
    rw [← hcs]
    exact asg_ok (call_ok (n := 1) (ds := [.fls (ns.map D.int)]) rfl rfl (open_ev hn)) rfl
  generalize hx0 : a0 (.fls (ns.map D.int)) = x0 at s1
  obtain ⟨t1, l1, m, w, b1, b2, b3, b4, b5⟩ := wheel_ev (t := 0) (l := 0) hc (by decide)
  have s2 : mAsg (mCall 1 F__law_wheel (mCons (mPk 1) mNil)) (mSet 2) (LS x0 0 0 cs .any .any .any .any .any .any .any .any .any .any .any .any .any .any) = .ok .nx (LS x0 t1 l1 cs (a0 (dW m w)) .any .any .any .any .any .any .any .any .any .any .any .any .any) :=
    asg_ok (bor_call (n := 1) (i := 1) (ds := []) (ρ := LS x0 0 0 cs .any .any .any .any .any .any .any .any .any .any .any .any .any .any) (ρ1 := LS x0 0 0 cs .any .any .any .any .any .any .any .any .any .any .any .any .any .any) (r := dr 0 0 cs) rfl rfl rfl b5) rfl
  obtain ⟨t2, l2, n, c1, c2, c3, c4, s3⟩ := ms3_ev (x0 := x0) (t := t1) (l := l1) (w := w) hc (by omega) b2
  obtain ⟨t3, l3, rows, d1, d2, d3, d4, s4⟩ := ms4_ev (x0 := x0) (t := t2) (l := l2) (m := m) (w := w) hc (by omega) c2 c3
  have hwn : ∀ k, k < n → 1 ≤ w k ∧ w k ≤ 6 := fun k hk => b4 k (by omega)
  have hpow : (n + 1) ^ rows.length < 100000 := by
    by_cases h : n = 4
    · rw [d3 h, h]
      decide
    · have h1 : (n + 1) ^ rows.length ≤ 4 ^ rows.length := Nat.pow_le_pow_left (by omega) _
      have h2 : (4 : Nat) ^ rows.length ≤ 4 ^ 4 := Nat.pow_le_pow_right (by decide) d2
      have h3 : (4 : Nat) ^ 4 = 256 := rfl
      omega
  have s5 : mIf (mNot (mTru fTru (mCall 2 F__law_all (mCons (mVar 3) (mCons (mVar 4) mNil))))) (mRet (M.pure (.v (.bl false)))) mNx (LS x0 t3 l3 cs (a0 (dW m w)) (a0 (dW n w)) (o0 (rows.map dB)) .any .any .any .any .any .any .any .any .any .any .any) = .ok .nx (LS x0 t3 l3 cs (a0 (dW m w)) (a0 (dW n w)) (a0 (.lst (rows.map dB))) .any .any .any .any .any .any .any .any .any .any .any) := by
    have g0 : mCons (mVar 3) (mCons (mVar 4) mNil) (LS x0 t3 l3 cs (a0 (dW m w)) (a0 (dW n w)) (o0 (rows.map dB)) .any .any .any .any .any .any .any .any .any .any .any) = .ok ([dW n w, .lst (rows.map dB)].map Pd.Tm.v) (LS x0 t3 l3 cs (a0 (dW m w)) (a0 (dW n w)) (a0 (.lst (rows.map dB))) .any .any .any .any .any .any .any .any .any .any .any) := cons_ok (x := .v (dW n w)) rfl (cons_ok (x := .v (.lst (rows.map dB))) (var_o rfl) nil_ok)
    have g1 := call_ok (n := 2) g0 rfl (all_ev (bd1 (by omega) hwn (by omega)) (by omega) hpow d4)
    exact if_f (not_ok (b := true) (tru_ok g1 rfl)) rfl
  have s6 : mAsg (id (mLc (mSeqIt (mPk 2)) (mSet 13) (M.pure true) (mFz (mOp fIx (mPk 13) (M.pure (.v (.int 0))))) [13])) (mSet 5) (LS x0 t3 l3 cs (a0 (dW m w)) (a0 (dW n w)) (a0 (.lst (rows.map dB))) .any .any .any .any .any .any .any .any .any .any .any) = .ok .nx (LS x0 t3 l3 cs (a0 (dW m w)) (a0 (dW n w)) (a0 (.lst (rows.map dB))) (o0 (NR m)) .any .any .any .any .any .any .any .any .any .any) := by
    have g1 : mSeqIt (mPk 2) (LS x0 t3 l3 cs (a0 (dW m w)) (a0 (dW n w)) (a0 (.lst (rows.map dB))) .any .any .any .any .any .any .any .any .any .any .any) = .ok ((List.range m).map (dP w)) (LS x0 t3 l3 cs (a0 (dW m w)) (a0 (dW n w)) (a0 (.lst (rows.map dB))) .any .any .any .any .any .any .any .any .any .any .any) := sit_ok (fz_v rfl) rfl
    have g2 := lc_all (tg := mSet 13) (el := mFz (mOp fIx (mPk 13) (M.pure (.v (.int 0))))) (vs := [13]) (dP w) dN g1 (by rw [List.length_range]; omega) rfl rfl rfl fun k hk => ⟨_, _, rfl, fz_v (fz_v (op_ok rfl rfl ixT0)), rfl⟩
    have g3 : mSet 5 (.o (NR m)) (LS x0 t3 l3 cs (a0 (dW m w)) (a0 (dW n w)) (a0 (.lst (rows.map dB))) .any .any .any .any .any .any .any .any .any .any .any) = some (LS x0 t3 l3 cs (a0 (dW m w)) (a0 (dW n w)) (a0 (.lst (rows.map dB))) (o0 (NR m)) .any .any .any .any .any .any .any .any .any .any) := rfl
    exact asg_ok g2 g3
  have s7 : mAsg (mLst mNil) (mSet 6) (LS x0 t3 l3 cs (a0 (dW m w)) (a0 (dW n w)) (a0 (.lst (rows.map dB))) (o0 (NR m)) .any .any .any .any .any .any .any .any .any .any) = .ok .nx (LS x0 t3 l3 cs (a0 (dW m w)) (a0 (dW n w)) (a0 (.lst (rows.map dB))) (o0 (NR m)) (o0 []) .any .any .any .any .any .any .any .any .any) := rfl
  have s8 : mAsg (mCl fTupOf (mCons (mLc (mSeqIt (mPk 2)) (mUnp 2 [(mSet 14), (mSet 15)]) (M.pure true) (mVar 15) [14, 15]) mNil)) (mSet 7) (LS x0 t3 l3 cs (a0 (dW m w)) (a0 (dW n w)) (a0 (.lst (rows.map dB))) (o0 (NR m)) (o0 []) .any .any .any .any .any .any .any .any .any) = .ok .nx (ML x0 (a0 (dW n w)) (a0 (.lst (rows.map dB))) cs m w t3 l3 [] w .any .any .any .any) := by
    have g1 : mSeqIt (mPk 2) (LS x0 t3 l3 cs (a0 (dW m w)) (a0 (dW n w)) (a0 (.lst (rows.map dB))) (o0 (NR m)) (o0 []) .any .any .any .any .any .any .any .any .any) = .ok ((List.range m).map (dP w)) (LS x0 t3 l3 cs (a0 (dW m w)) (a0 (dW n w)) (a0 (.lst (rows.map dB))) (o0 (NR m)) (o0 []) .any .any .any .any .any .any .any .any .any) := sit_ok (fz_v rfl) rfl
    have g2 := lc_all (tg := mUnp 2 [(mSet 14), (mSet 15)]) (el := mVar 15) (vs := [14, 15]) (dP w) (fun k => iN (w k)) g1 (by rw [List.length_range]; omega) rfl rfl rfl fun k hk => ⟨_, _, rfl, fz_v rfl, rfl⟩
    exact asg_ok (cl_ok (cons_ok g2 nil_ok) tupOf_o) rfl
  obtain ⟨t4, l4, s, r, e1, e2, e3, e4, s9⟩ := mmain_ev (x0 := x0) (x3 := a0 (dW n w)) (x4 := a0 (.lst (rows.map dB))) (t := t3) (l := l3) hc (by omega) b3 b2 b4
  have s10 := mchk_ev (x0 := x0) (x3 := a0 (dW n w)) (x4 := a0 (.lst (rows.map dB))) (cs := cs) (t := t4) (l := l4) b3 b4 e2 e3 e4
  obtain ⟨t5, l5, s11⟩ := mout_ev (x0 := x0) (x3 := a0 (dW n w)) (x4 := a0 (.lst (rows.map dB))) (s := s) (t := t4) (l := l4) hc (by omega) b3 b2 b4 e3 e4
  have s12 := mend_ev (x0 := x0) (x3 := a0 (dW n w)) (x4 := a0 (.lst (rows.map dB))) (cs := cs) (t := t5) (l := l5) (s := s) b3 b2 b4 e3 e4
  have key := seq_ok s1 (seq_ok s2 (seq_ok s3 (seq_ok s4 (seq_ok s5 (seq_ok s6 (seq_ok s7 (seq_ok s8 (seq_ok s9 (seq_ok s10 (seq_ok s11 s12))))))))))
  rw [show (Sl.own (.val (.fls (ns.map D.int)))) = x0 from hx0]
  exact val_run (N := 16) (n := 1) (m := m_law) key
end K62
set_option Elab.async false
open PySem PySem.W PyProof.Rows
set_option maxRecDepth 100000 in
set_option maxHeartbeats 0 in
theorem PySem.Challenge.cw_docketloom_k62_whole_chances_of_records_holds : PySem.Challenge.rw_docketloom_k62_whole_chances_of_records.Holds := by
  w_on; o_law; k_head; (case hw => w_witness2)
  k_fill
  refine Pd.walk_ofDefs (n := 63) (k := 7) (x := "script") (CX := fun w => L2N.CX PySem.Challenge.rw_docketloom_k62_whole_chances_of_records.prog w) ["can_deal"] rfl (by decide) rfl ⟨rfl, by decide, by decide⟩ (by decide +kernel) (fun w h Y => PySem.W.kIn_of Y) ?F ?G
  case G =>
    intro w H s e s' z
    obtain ⟨_, _, _, _, _, _, _, _, _, _, _, _, y⟩ := z
    exact y
  case F =>
    intro w mg fa h Y KX G hmg own
    refine' K62.all_mk K62.law_true KX G hmg own ?a_lowest ?l_lowest ?c_lowest ?k_lowest ?a_made ?l_made ?c_made ?k_made ?a_times ?l_times ?c_times ?k_times ?a_full_state ?l_full_state ?c_full_state ?k_full_state ?a_cards_for ?l_cards_for ?c_cards_for ?k_cards_for ?a_without ?l_without ?c_without ?k_without ?a_deal ?l_deal ?c_deal ?k_deal ?a_can_deal ?l_can_deal ?c_can_deal ?k_can_deal ?lc_can_deal ?v0_can_deal ?v1_can_deal ?v2_can_deal ?v3_can_deal ?v4_can_deal ?v5_can_deal ?v6_can_deal ?v7_can_deal ?v8_can_deal ?a_first_fault ?l_first_fault ?c_first_fault ?k_first_fault ?a_steps ?l_steps ?c_steps ?k_steps ?a_chances ?l_chances ?c_chances ?k_chances ?a_chance_of ?l_chance_of ?c_chance_of ?k_chance_of ?a__law_open ?l__law_open ?c__law_open ?k__law_open ?a__law_mixed ?l__law_mixed ?c__law_mixed ?k__law_mixed ?a__law_draw ?l__law_draw ?c__law_draw ?k__law_draw ?a__law_told ?l__law_told ?c__law_told ?k__law_told ?a__law_int ?l__law_int ?c__law_int ?k__law_int ?a__law_wheel ?l__law_wheel ?c__law_wheel ?k__law_wheel ?a__law_barred ?l__law_barred ?c__law_barred ?k__law_barred ?a__law_step ?l__law_step ?c__law_step ?k__law_step ?a__law_deal ?l__law_deal ?c__law_deal ?k__law_deal ?a__law_able ?l__law_able ?c__law_able ?k__law_able ?a__law_lowest ?l__law_lowest ?c__law_lowest ?k__law_lowest ?a__law_is ?l__law_is ?c__law_is ?k__law_is ?a__law_chance ?l__law_chance ?c__law_chance ?k__law_chance ?a__law_asked ?l__law_asked ?c__law_asked ?k__law_asked ?a__law_all ?l__law_all ?c__law_all ?k__law_all ?a__law_state ?l__law_state ?c__law_state ?k__law_state ?a_law ?l_law ?c_law ?k_law ?z_ValueError ?z_abs ?z_any ?z_bool ?z_enumerate ?z_int ?z_isinstance ?z_len ?z_list ?z_range ?z_sorted ?z_sum ?z_tuple ?z_zip ?z_gcd ?y_OutOfRange ?y_Malformed ?y_NotThere ?y_Refused ?y_TooMuch ?y_DocketError ?ke_OutOfRange ?xe_OutOfRange ?se_OutOfRange ?ty_OutOfRange ?ke_Refused ?xe_Refused ?se_Refused ?ty_Refused ?te ?ec_hg ?ec_hk ?ec_hd ?ec_ha ?ec_hn ?ec_ht ?ec_hm ?ki_Refused_Malformed ?ki_Refused_NotThere ?ki_Refused_OutOfRange ?ki_Refused_Refused ?ki_Refused_TooMuch ?ki_Refused_ValueError ?w_NOUGHT ?wl_NOUGHT ?w_ONE ?wl_ONE
    (case a_lowest => k_is)
    (case l_lowest => k_is)
    (case c_lowest => k_is)
    (case k_lowest => k_is)
    (case a_made => k_is)
    (case l_made => k_is)
    (case c_made => k_is)
    (case k_made => k_is)
    (case a_times => k_is)
    (case l_times => k_is)
    (case c_times => k_is)
    (case k_times => k_is)
    (case a_full_state => k_is)
    (case l_full_state => k_is)
    (case c_full_state => k_is)
    (case k_full_state => k_is)
    (case a_cards_for => k_is)
    (case l_cards_for => k_is)
    (case c_cards_for => k_is)
    (case k_cards_for => k_is)
    (case a_without => k_is)
    (case l_without => k_is)
    (case c_without => k_is)
    (case k_without => k_is)
    (case a_deal => k_is)
    (case l_deal => k_is)
    (case c_deal => k_is)
    (case k_deal => k_is)
    (case a_can_deal => k_is)
    (case l_can_deal => k_is)
    (case c_can_deal => k_is)
    (case k_can_deal => k_is)
    (case lc_can_deal => k_is)
    (case v0_can_deal => rfl)
    (case v1_can_deal => rfl)
    (case v2_can_deal => rfl)
    (case v3_can_deal => rfl)
    (case v4_can_deal => rfl)
    (case v5_can_deal => rfl)
    (case v6_can_deal => decide)
    (case v7_can_deal => first | kernel_rfl! | rfl | (with_unfolding_all rfl) | decide +kernel)
    (case v8_can_deal => decide)
    (case a_first_fault => k_is)
    (case l_first_fault => k_is)
    (case c_first_fault => k_is)
    (case k_first_fault => k_is)
    (case a_steps => k_is)
    (case l_steps => k_is)
    (case c_steps => k_is)
    (case k_steps => k_is)
    (case a_chances => k_is)
    (case l_chances => k_is)
    (case c_chances => k_is)
    (case k_chances => k_is)
    (case a_chance_of => k_is)
    (case l_chance_of => k_is)
    (case c_chance_of => k_is)
    (case k_chance_of => k_is)
    (case a__law_open => k_is)
    (case l__law_open => k_is)
    (case c__law_open => k_is)
    (case k__law_open => k_is)
    (case a__law_mixed => k_is)
    (case l__law_mixed => k_is)
    (case c__law_mixed => k_is)
    (case k__law_mixed => k_is)
    (case a__law_draw => k_is)
    (case l__law_draw => k_is)
    (case c__law_draw => k_is)
    (case k__law_draw => k_is)
    (case a__law_told => k_is)
    (case l__law_told => k_is)
    (case c__law_told => k_is)
    (case k__law_told => k_is)
    (case a__law_int => k_is)
    (case l__law_int => k_is)
    (case c__law_int => k_is)
    (case k__law_int => k_is)
    (case a__law_wheel => k_is)
    (case l__law_wheel => k_is)
    (case c__law_wheel => k_is)
    (case k__law_wheel => k_is)
    (case a__law_barred => k_is)
    (case l__law_barred => k_is)
    (case c__law_barred => k_is)
    (case k__law_barred => k_is)
    (case a__law_step => k_is)
    (case l__law_step => k_is)
    (case c__law_step => k_is)
    (case k__law_step => k_is)
    (case a__law_deal => k_is)
    (case l__law_deal => k_is)
    (case c__law_deal => k_is)
    (case k__law_deal => k_is)
    (case a__law_able => k_is)
    (case l__law_able => k_is)
    (case c__law_able => k_is)
    (case k__law_able => k_is)
    (case a__law_lowest => k_is)
    (case l__law_lowest => k_is)
    (case c__law_lowest => k_is)
    (case k__law_lowest => k_is)
    (case a__law_is => k_is)
    (case l__law_is => k_is)
    (case c__law_is => k_is)
    (case k__law_is => k_is)
    (case a__law_chance => k_is)
    (case l__law_chance => k_is)
    (case c__law_chance => k_is)
    (case k__law_chance => k_is)
    (case a__law_asked => k_is)
    (case l__law_asked => k_is)
    (case c__law_asked => k_is)
    (case k__law_asked => k_is)
    (case a__law_all => k_is)
    (case l__law_all => k_is)
    (case c__law_all => k_is)
    (case k__law_all => k_is)
    (case a__law_state => k_is)
    (case l__law_state => k_is)
    (case c__law_state => k_is)
    (case k__law_state => k_is)
    (case a_law => k_is)
    (case l_law => k_is)
    (case c_law => k_is)
    (case k_law => k_is)
    (case z_ValueError => k_is)
    (case z_abs => k_is)
    (case z_any => k_is)
    (case z_bool => k_is)
    (case z_enumerate => k_is)
    (case z_int => k_is)
    (case z_isinstance => k_is)
    (case z_len => k_is)
    (case z_list => k_is)
    (case z_range => k_is)
    (case z_sorted => k_is)
    (case z_sum => k_is)
    (case z_tuple => k_is)
    (case z_zip => k_is)
    (case z_gcd => k_is)
    (case y_OutOfRange => k_is)
    (case y_Malformed => k_is)
    (case y_NotThere => k_is)
    (case y_Refused => k_is)
    (case y_TooMuch => k_is)
    (case y_DocketError => k_is)
    (case ke_OutOfRange => k_is)
    (case xe_OutOfRange => k_exc)
    (case se_OutOfRange => k_is)
    (case ty_OutOfRange => k_is)
    (case ke_Refused => k_is)
    (case xe_Refused => k_exc)
    (case se_Refused => k_is)
    (case ty_Refused => k_is)
    (case te => kts_exm)
    (case ec_hg => k_is)
    (case ec_hk => k_is)
    (case ec_hd => k_is)
    (case ec_ha => k_is)
    (case ec_hn => k_is)
    (case ec_ht => k_is)
    (case ec_hm => k_is)
    (case ki_Refused_Malformed => kit_is)
    (case ki_Refused_NotThere => kit_is)
    (case ki_Refused_OutOfRange => kit_is)
    (case ki_Refused_Refused => kit_is)
    (case ki_Refused_TooMuch => kit_is)
    (case ki_Refused_ValueError => kit_is)
    (case w_NOUGHT => k_is)
    (case wl_NOUGHT => k_is)
    (case w_ONE => k_is)
    (case wl_ONE => k_is)
