import PyProof.Rows.All
import Wide.All
import OpenK.AllK
import Wide.FinOn
import KE.KExcSuper
import HandS.ForMost
import HandS.ForExc
import HandS.ExcInit
import HandS.ExcIs
import KE.KExcIs
import HandS.FStr
import HandS.Nested
import HandS.Defaults
import HandS.Sort
import HandS.SortRule
import PySem.Challenge.RW_heapgame_k23_whole_policies_on_tagged_wo
set_option Elab.async false
set_option maxRecDepth 100000
set_option maxHeartbeats 4000000
/-! K23Math: the plain law of the tagged memory: areas, tags, the free list, gaps. No program in sight. -/
namespace K23
/-! ### words -/
def rd (ws : List Int) (i : Int) : Int := ws.getD i.toNat 0
def wr (ws : List Int) (i v : Int) : List Int := ws.set i.toNat v
theorem wr_len (ws : List Int) (i v : Int) : (wr ws i v).length = ws.length := List.length_set
theorem rd_wr_same {ws : List Int} {i v : Int} (h0 : 0 ≤ i) (h1 : i < (ws.length : Int)) : rd (wr ws i v) i = v := by
  unfold rd wr
  rw [List.getD_eq_getElem?_getD, List.getElem?_set_self (by omega)]
  rfl
theorem rd_wr_ne {ws : List Int} {i j v : Int} (h0 : 0 ≤ i) (h1 : 0 ≤ j) (h : i ≠ j) : rd (wr ws i v) j = rd ws j := by
  unfold rd wr
  rw [List.getD_eq_getElem?_getD, List.getD_eq_getElem?_getD, List.getElem?_set_ne (by omega)]
theorem rd_at {ws : List Int} {i : Int} (h0 : 0 ≤ i) (h1 : i < (ws.length : Int)) : ws[i.toNat]? = some (rd ws i) := by
  unfold rd
  rw [List.getD_eq_getElem?_getD, List.getElem?_eq_getElem (show i.toNat < ws.length by omega)]
  rfl

/-! ### areas -/
structure Area where
  s : Int
  w : Int
  u : Bool
def tag (w : Int) (u : Bool) : Int := 2 * w + (if u then 1 else 0)
theorem tag_half (w : Int) (u : Bool) : (tag w u).fdiv 2 = w := by
  rw [Int.fdiv_eq_ediv_of_nonneg _ (by decide)]
  unfold tag
  cases u
  · show (2 * w + 0) / 2 = w
    omega
  · show (2 * w + 1) / 2 = w
    omega
theorem tag_odd (w : Int) (u : Bool) : (tag w u).fmod 2 = (if u then 1 else 0) := by
  rw [Int.fmod_eq_emod_of_nonneg _ (by decide)]
  unfold tag
  cases u
  · show (2 * w + 0) % 2 = 0
    omega
  · show (2 * w + 1) % 2 = 1
    omega
def nextFree : List Area → Int → Int
  | [], d => d
  | x :: xs, d => if x.u then nextFree xs d else x.s
def lastFree : List Area → Int → Int
  | [], d => d
  | x :: xs, d => lastFree xs (if x.u then d else x.s)
/-- the areas tile the words from a on to b; behind them the next free area is nf -/
def Seg (ws : List Int) : Int → List Area → Int → Int → Prop
  | a, [], b, _ => a = b
  | a, x :: xs, b, nf => x.s = a ∧ 3 ≤ x.w ∧ rd ws a = tag x.w x.u ∧ rd ws (a + x.w - 1) = tag x.w x.u ∧ (x.u = false → rd ws (a + 1) = nextFree xs nf) ∧ Seg ws (a + x.w) xs b nf
/-- no two free neighbors -/
def NA : List Bool → Prop
  | [] => True
  | [_] => True
  | x :: y :: r => (x = true ∨ y = true) ∧ NA (y :: r)
def NoAdj (xs : List Area) : Prop := NA (xs.map (·.u))
def usedOf : List Area → List (Int × Int)
  | [] => []
  | x :: xs => if x.u then (x.s, x.w) :: usedOf xs else usedOf xs
def freeOf : List Area → List (Int × Int)
  | [] => []
  | x :: xs => if x.u then freeOf xs else (x.s, x.w) :: freeOf xs
theorem usedOf_app : ∀ (xs ys : List Area), usedOf (xs ++ ys) = usedOf xs ++ usedOf ys
  | [], ys => rfl
  | x :: xs, ys => by
    show (if x.u then (x.s, x.w) :: usedOf (xs ++ ys) else usedOf (xs ++ ys)) = (if x.u then (x.s, x.w) :: usedOf xs else usedOf xs) ++ usedOf ys
    rw [usedOf_app xs ys]
    cases x.u <;> rfl
theorem freeOf_app : ∀ (xs ys : List Area), freeOf (xs ++ ys) = freeOf xs ++ freeOf ys
  | [], ys => rfl
  | x :: xs, ys => by
    show (if x.u then freeOf (xs ++ ys) else (x.s, x.w) :: freeOf (xs ++ ys)) = (if x.u then freeOf xs else (x.s, x.w) :: freeOf xs) ++ freeOf ys
    rw [freeOf_app xs ys]
    cases x.u <;> rfl
theorem nextFree_app : ∀ (xs ys : List Area) (d : Int), nextFree (xs ++ ys) d = nextFree xs (nextFree ys d)
  | [], ys, d => rfl
  | x :: xs, ys, d => by
    show (if x.u then nextFree (xs ++ ys) d else x.s) = (if x.u then nextFree xs (nextFree ys d) else x.s)
    rw [nextFree_app xs ys]
theorem Seg.le {ws : List Int} : ∀ {xs : List Area} {a b nf : Int}, Seg ws a xs b nf → a ≤ b
  | [], a, b, nf, h => by
    have h' : a = b := h
    omega
  | x :: xs, a, b, nf, h => by
    obtain ⟨_, h3, _, _, _, hr⟩ := h
    have := hr.le
    omega
theorem Seg.app {ws : List Int} : ∀ {xs ys : List Area} {a c nf : Int}, Seg ws a (xs ++ ys) c nf ↔ ∃ b, Seg ws a xs b (nextFree ys nf) ∧ Seg ws b ys c nf
  | [], ys, a, c, nf => ⟨fun h => ⟨a, rfl, h⟩, fun ⟨b, h1, h2⟩ => by
    have e : a = b := h1
    rw [e]
    exact h2⟩
  | x :: xs, ys, a, c, nf => by
    constructor
    · rintro ⟨h1, h2, h3, h4, h5, h6⟩
      obtain ⟨b, q1, q2⟩ := Seg.app.mp h6
      exact ⟨b, ⟨h1, h2, h3, h4, fun e => (h5 e).trans (nextFree_app xs ys nf), q1⟩, q2⟩
    · rintro ⟨b, ⟨h1, h2, h3, h4, h5, h6⟩, q⟩
      exact ⟨h1, h2, h3, h4, fun e => (h5 e).trans (nextFree_app xs ys nf).symm, Seg.app.mpr ⟨b, h6, q⟩⟩
/-- the words of the areas alone matter -/
theorem Seg.frame {ws ws' : List Int} : ∀ {xs : List Area} {a b nf : Int}, Seg ws a xs b nf → (∀ i, a ≤ i → i < b → rd ws' i = rd ws i) → Seg ws' a xs b nf
  | [], a, b, nf, h, _ => h
  | x :: xs, a, b, nf, h, k => by
    obtain ⟨h1, h2, h3, h4, h5, h6⟩ := h
    have l := h6.le
    refine ⟨h1, h2, ?_, ?_, fun e => ?_, h6.frame fun i q1 q2 => k i (by omega) q2⟩
    · rw [k _ (by omega) (by omega)]; exact h3
    · rw [k _ (by omega) (by omega)]; exact h4
    · rw [k _ (by omega) (by omega)]; exact h5 e
/-- starts lie within -/
theorem Seg.used_in {ws : List Int} : ∀ {xs : List Area} {a b nf : Int}, Seg ws a xs b nf → ∀ p ∈ usedOf xs, a ≤ p.1 ∧ 3 ≤ p.2 ∧ p.1 + p.2 ≤ b
  | [], _, _, _, _, p, hp => nomatch hp
  | x :: xs, a, b, nf, h, p, hp => by
    obtain ⟨h1, h2, _, _, _, h6⟩ := h
    have l := h6.le
    have ih := h6.used_in p
    have hp' : p ∈ (if x.u then (x.s, x.w) :: usedOf xs else usedOf xs) := hp
    cases hu : x.u with
    | true =>
      rw [hu] at hp'
      rcases List.mem_cons.mp hp' with rfl | hp'
      · exact ⟨by show a ≤ x.s; omega, h2, by show x.s + x.w ≤ b; omega⟩
      · have := ih hp'; omega
    | false =>
      rw [hu] at hp'
      have := ih hp'; omega
theorem Seg.free_in {ws : List Int} : ∀ {xs : List Area} {a b nf : Int}, Seg ws a xs b nf → ∀ p ∈ freeOf xs, a ≤ p.1 ∧ 3 ≤ p.2 ∧ p.1 + p.2 ≤ b
  | [], _, _, _, _, p, hp => nomatch hp
  | x :: xs, a, b, nf, h, p, hp => by
    obtain ⟨h1, h2, _, _, _, h6⟩ := h
    have l := h6.le
    have ih := h6.free_in p
    have hp' : p ∈ (if x.u then freeOf xs else (x.s, x.w) :: freeOf xs) := hp
    cases hu : x.u with
    | false =>
      rw [hu] at hp'
      rcases List.mem_cons.mp hp' with rfl | hp'
      · exact ⟨by show a ≤ x.s; omega, h2, by show x.s + x.w ≤ b; omega⟩
      · have := ih hp'; omega
    | true =>
      rw [hu] at hp'
      have := ih hp'; omega
theorem Seg.mem_in {ws : List Int} : ∀ {xs : List Area} {a b nf : Int}, Seg ws a xs b nf → ∀ x ∈ xs, a ≤ x.s ∧ 3 ≤ x.w ∧ x.s + x.w ≤ b
  | [], _, _, _, _, x, hx => nomatch hx
  | y :: xs, a, b, nf, h, x, hx => by
    obtain ⟨h1, h2, _, _, _, h6⟩ := h
    have l := h6.le
    rcases List.mem_cons.mp hx with rfl | hx
    · omega
    · have := h6.mem_in x hx
      omega
/-- nextFree: the default, or a start within -/
theorem Seg.next_cases {ws : List Int} : ∀ {xs : List Area} {a b nf : Int}, Seg ws a xs b nf → ∀ d, nextFree xs d = d ∧ freeOf xs = [] ∨ a ≤ nextFree xs d ∧ nextFree xs d + 3 ≤ b
  | [], _, _, _, _, d => .inl ⟨rfl, rfl⟩
  | x :: xs, a, b, nf, h, d => by
    obtain ⟨h1, h2, _, _, _, h6⟩ := h
    have l := h6.le
    have ih := h6.next_cases d
    cases hu : x.u with
    | true =>
      have e : nextFree (x :: xs) d = nextFree xs d := by show (if x.u then _ else _) = _; rw [hu]; rfl
      have e2 : freeOf (x :: xs) = freeOf xs := by show (if x.u then _ else _) = _; rw [hu]; rfl
      rw [e, e2]
      rcases ih with ih | ih
      · exact .inl ih
      · exact .inr (by omega)
    | false =>
      have e : nextFree (x :: xs) d = x.s := by show (if x.u then _ else _) = _; rw [hu]; rfl
      rw [e]
      omega
/-- the free list as the memory lists it -/
def FL (ws : List Int) : Int → List (Int × Int) → Prop
  | st, [] => st = -1
  | st, p :: r => st = p.1 ∧ 0 ≤ st ∧ st + 1 < (ws.length : Int) ∧ (rd ws st).fdiv 2 = p.2 ∧ FL ws (rd ws (st + 1)) r
theorem Seg.fl {ws : List Int} : ∀ {xs : List Area} {a b : Int}, Seg ws a xs b (-1) → 0 ≤ a → b ≤ (ws.length : Int) → FL ws (nextFree xs (-1)) (freeOf xs)
  | [], _, _, _, _, _ => rfl
  | x :: xs, a, b, h, h0, hb => by
    obtain ⟨h1, h2, h3, h4, h5, h6⟩ := h
    have l := h6.le
    have ih := h6.fl (by omega) hb
    cases hu : x.u with
    | true =>
      have e : nextFree (x :: xs) (-1) = nextFree xs (-1) := by show (if x.u then _ else _) = _; rw [hu]; rfl
      have e2 : freeOf (x :: xs) = freeOf xs := by show (if x.u then _ else _) = _; rw [hu]; rfl
      rw [e, e2]
      exact ih
    | false =>
      have e : nextFree (x :: xs) (-1) = x.s := by show (if x.u then _ else _) = _; rw [hu]; rfl
      have e2 : freeOf (x :: xs) = (x.s, x.w) :: freeOf xs := by show (if x.u then _ else _) = _; rw [hu]; rfl
      rw [e, e2]
      refine ⟨rfl, by omega, by omega, ?_, ?_⟩
      · rw [h1, h3]; exact tag_half _ _
      · rw [h1, h5 hu]; exact ih
theorem Seg.free_len {ws : List Int} : ∀ {xs : List Area} {a b nf : Int}, Seg ws a xs b nf → 3 * (xs.length : Int) ≤ b - a
  | [], a, b, _, h => by
    have e : a = b := h
    simp only [List.length_nil]
    omega
  | x :: xs, a, b, nf, h => by
    obtain ⟨h1, h2, _, _, _, h6⟩ := h
    have := h6.free_len
    simp only [List.length_cons]
    omega
theorem freeOf_len : ∀ xs : List Area, (freeOf xs).length ≤ xs.length
  | [] => Nat.le_refl _
  | x :: xs => by
    have := freeOf_len xs
    show (if x.u then freeOf xs else (x.s, x.w) :: freeOf xs).length ≤ _
    cases x.u
    · show (freeOf xs).length + 1 ≤ xs.length + 1; omega
    · show (freeOf xs).length ≤ xs.length + 1; omega
theorem usedOf_len : ∀ xs : List Area, (usedOf xs).length ≤ xs.length
  | [] => Nat.le_refl _
  | x :: xs => by
    have := usedOf_len xs
    show (if x.u then (x.s, x.w) :: usedOf xs else usedOf xs).length ≤ _
    cases x.u
    · show (usedOf xs).length ≤ xs.length + 1; omega
    · show (usedOf xs).length + 1 ≤ xs.length + 1; omega

/-! ### the last free area ahead of a place -/
def beforeF (l : List (Int × Int)) (s : Int) : Int := l.foldl (fun f p => if p.1 < s then p.1 else f) (-1)
theorem bef_lo : ∀ (l : List (Int × Int)) (s d : Int), (∀ p ∈ l, ¬ p.1 < s) → l.foldl (fun f p => if p.1 < s then p.1 else f) d = d
  | [], _, _, _ => rfl
  | p :: l, s, d, h => by
    rw [List.foldl_cons, if_neg (h p List.mem_cons_self)]
    exact bef_lo l s d fun q hq => h q (List.mem_cons_of_mem _ hq)
theorem bef_hi : ∀ (xs : List Area) (s d : Int), (∀ p ∈ freeOf xs, p.1 < s) → (freeOf xs).foldl (fun f p => if p.1 < s then p.1 else f) d = lastFree xs d
  | [], _, _, _ => rfl
  | x :: xs, s, d, h => by
    have e2 : freeOf (x :: xs) = if x.u then freeOf xs else (x.s, x.w) :: freeOf xs := rfl
    have e3 : lastFree (x :: xs) d = lastFree xs (if x.u then d else x.s) := rfl
    rw [e2] at h
    rw [e2, e3]
    cases hu : x.u with
    | true =>
      rw [hu] at h
      exact bef_hi xs s d h
    | false =>
      rw [hu] at h
      show List.foldl _ d ((x.s, x.w) :: freeOf xs) = lastFree xs x.s
      rw [List.foldl_cons, if_pos (h (x.s, x.w) List.mem_cons_self)]
      exact bef_hi xs s x.s fun q hq => h q (List.mem_cons_of_mem _ hq)
theorem before_eq {ws : List Int} {pre post : List Area} {a s b nf nf' : Int} (h1 : Seg ws a pre s nf) (h2 : Seg ws s post b nf') : beforeF (freeOf (pre ++ post)) s = lastFree pre (-1) := by
  unfold beforeF
  rw [freeOf_app, List.foldl_append, bef_hi pre s (-1) fun p hp => by have := h1.free_in p hp; omega]
  exact bef_lo _ _ _ fun p hp => by have := h2.free_in p hp; omega
theorem lastFree_none : ∀ (xs : List Area) (d d' : Int), freeOf xs = [] → lastFree xs d = d ∧ nextFree xs d' = d'
  | [], _, _, _ => ⟨rfl, rfl⟩
  | x :: xs, d, d', h => by
    have e2 : freeOf (x :: xs) = if x.u then freeOf xs else (x.s, x.w) :: freeOf xs := rfl
    have e3 : lastFree (x :: xs) d = lastFree xs (if x.u then d else x.s) := rfl
    have e4 : nextFree (x :: xs) d' = (if x.u then nextFree xs d' else x.s) := rfl
    rw [e2] at h
    rw [e3, e4]
    cases hu : x.u with
    | true => rw [hu] at h; exact lastFree_none xs d d' h
    | false => rw [hu] at h; cases h
/-- relinking: behind the areas xs the next free one becomes nf' -/
structure Relink (ws ws' : List Int) (xs : List Area) (a b d nf nf' : Int) : Prop where
  seg : Seg ws' a xs b nf'
  next : freeOf xs = [] ∧ lastFree xs d = d ∨ (a ≤ lastFree xs d ∧ lastFree xs d + 3 ≤ b ∧ ∀ e e', nextFree xs e = nextFree xs e')
theorem seg_nf : ∀ {ws : List Int} {xs : List Area} {a b nf : Int} (nf' : Int), freeOf xs = [] → Seg ws a xs b nf → Seg ws a xs b nf'
  | ws, [], a, b, nf, nf', _, h => h
  | ws, x :: xs, a, b, nf, nf', hf, h => by
    obtain ⟨h1, h2, h3, h4, h5, h6⟩ := h
    have e2 : freeOf (x :: xs) = if x.u then freeOf xs else (x.s, x.w) :: freeOf xs := rfl
    rw [e2] at hf
    cases hu : x.u with
    | true => rw [hu] at hf; exact ⟨h1, h2, h3, h4, fun e => (by rw [hu] at e; cases e), seg_nf nf' hf h6⟩
    | false => rw [hu] at hf; cases hf
/-- the last free area of xs, where there is one -/
theorem last_split : ∀ (xs : List Area), freeOf xs ≠ [] → ∃ pre x post, xs = pre ++ x :: post ∧ x.u = false ∧ freeOf post = []
  | [], h => absurd rfl h
  | x :: xs, h => by
    by_cases hx : freeOf xs = []
    · cases hu : x.u with
      | false => exact ⟨[], x, xs, rfl, hu, hx⟩
      | true =>
        exfalso
        apply h
        show (if x.u then freeOf xs else (x.s, x.w) :: freeOf xs) = []
        rw [hu]
        exact hx
    · obtain ⟨pre, y, post, e, h1, h2⟩ := last_split xs hx
      exact ⟨x :: pre, y, post, by rw [e]; rfl, h1, h2⟩
theorem lastFree_app : ∀ (xs ys : List Area) (d : Int), lastFree (xs ++ ys) d = lastFree ys (lastFree xs d)
  | [], _, _ => rfl
  | x :: xs, ys, d => lastFree_app xs ys _
theorem lastFree_split {pre post : List Area} {x : Area} (d : Int) (hu : x.u = false) (hp : freeOf post = []) : lastFree (pre ++ x :: post) d = x.s := by
  rw [lastFree_app]
  show lastFree post (if x.u then _ else x.s) = x.s
  rw [hu]
  exact (lastFree_none post _ 0 hp).1
theorem nextFree_split {pre post : List Area} {x : Area} (d : Int) (hu : x.u = false) : nextFree (pre ++ x :: post) d = nextFree pre x.s := by
  rw [nextFree_app]
  show nextFree pre (if x.u then _ else x.s) = _
  rw [hu]
  rfl
/-- words[before + 1] = v, before the last free area of xs -/
theorem relink {ws : List Int} {xs : List Area} {a b nf : Int} (h : Seg ws a xs b nf) (h0 : 0 ≤ a) (hb : b ≤ (ws.length : Int)) (hf : freeOf xs ≠ []) (v : Int) :
    0 ≤ lastFree xs (-1) ∧ a ≤ lastFree xs (-1) ∧ lastFree xs (-1) + 3 ≤ b ∧ rd ws (lastFree xs (-1) + 1) = nf ∧ Seg (wr ws (lastFree xs (-1) + 1) v) a xs b v ∧ (∀ d d', nextFree xs d = nextFree xs d') := by
  obtain ⟨pre, x, post, rfl, hu, hp⟩ := last_split xs hf
  obtain ⟨c, q1, ⟨h1, h2, h3, h4, h5, h6⟩⟩ := Seg.app.mp h
  have l1 := q1.le
  have l2 := h6.le
  rw [lastFree_split (-1) hu hp, h1]
  have n5 := h5 hu
  rw [(lastFree_none post 0 nf hp).2] at n5
  refine ⟨by omega, by omega, by omega, n5, Seg.app.mpr ⟨c, ?_, h1, h2, ?_, ?_, fun _ => ?_, ?_⟩, fun d d' => ?_⟩
  · have e : nextFree (x :: post) v = nextFree (x :: post) nf := by
      show (if x.u then _ else x.s) = (if x.u then _ else x.s)
      rw [hu]
      rfl
    rw [e]
    exact q1.frame fun i i1 i2 => rd_wr_ne (by omega) (by omega) (by omega)
  · rw [rd_wr_ne (by omega) (by omega) (by omega)]; exact h3
  · rw [rd_wr_ne (by omega) (by omega) (by omega)]; exact h4
  · rw [rd_wr_same (by omega) (by omega), (lastFree_none post 0 v hp).2]
  · exact (seg_nf v hp h6).frame fun i i1 i2 => rd_wr_ne (by omega) (by omega) (by omega)
  · rw [nextFree_split d hu, nextFree_split d' hu]

/-! ### gaps -/
def gapsGo (n : Int) : List (Int × Int) → Int → List (Int × Int)
  | [], e => if e < n then [(e, n - e)] else []
  | p :: r, e => (if e < p.1 then [(e, p.1 - e)] else []) ++ gapsGo n r (p.1 + p.2)
theorem na_tail : ∀ {x : Bool} {xs : List Bool}, NA (x :: xs) → NA xs
  | _, [], _ => trivial
  | _, _ :: _, h => h.2
theorem na_pre : ∀ {xs ys : List Bool}, NA (xs ++ ys) → NA xs
  | [], _, _ => trivial
  | [_], _, _ => trivial
  | _ :: _ :: _, _, h => ⟨h.1, na_pre h.2⟩
theorem na_suf : ∀ {xs ys : List Bool}, NA (xs ++ ys) → NA ys
  | [], _, h => h
  | _ :: xs, _, h => na_suf (xs := xs) (na_tail h)
theorem na_join : ∀ {xs ys : List Bool} {y : Bool}, NA (xs ++ [y]) → NA (y :: ys) → NA (xs ++ y :: ys)
  | [], _, _, _, h => h
  | [_], _, _, h, k => ⟨h.1, k⟩
  | _ :: x :: xs, _, _, h, k => ⟨h.1, na_join (xs := x :: xs) h.2 k⟩
theorem na_end : ∀ {xs : List Bool}, NA xs → NA (xs ++ [true])
  | [], _ => trivial
  | [_], _ => ⟨.inr rfl, trivial⟩
  | _ :: x :: xs, h => ⟨h.1, na_end (xs := x :: xs) h.2⟩
theorem na_head : ∀ {xs : List Bool}, NA xs → NA (true :: xs)
  | [], _ => trivial
  | _ :: _, h => ⟨.inl rfl, h⟩
theorem na_mid {xs ys : List Bool} (h : NA xs) (k : NA ys) : NA (xs ++ true :: ys) := na_join (na_end h) (na_head k)
theorem noAdj_tail {x : Area} {xs : List Area} (h : NoAdj (x :: xs)) : NoAdj xs := na_tail h
theorem gaps_eq {ws : List Int} {n nf : Int} : ∀ {xs : List Area} {a : Int}, Seg ws a xs n nf → NoAdj xs → gapsGo n (usedOf xs) a = freeOf xs
  | [], a, h, _ => by
    have e : a = n := h
    show (if a < n then [(a, n - a)] else []) = []
    rw [if_neg (by omega)]
  | [x], a, h, _ => by
    obtain ⟨h1, h2, _, _, _, h6⟩ := h
    have e : a + x.w = n := h6
    have e1 : usedOf [x] = if x.u then [(x.s, x.w)] else [] := rfl
    have e2 : freeOf [x] = if x.u then [] else [(x.s, x.w)] := rfl
    rw [e1, e2]
    cases x.u with
    | true =>
      show (if a < x.s then [(a, x.s - a)] else []) ++ (if x.s + x.w < n then [(x.s + x.w, n - (x.s + x.w))] else []) = []
      rw [if_neg (by omega), if_neg (by omega)]
      rfl
    | false =>
      show (if a < n then [(a, n - a)] else []) = [(x.s, x.w)]
      rw [if_pos (by omega), show n - a = x.w by omega, h1]
  | x :: y :: r, a, h, hn => by
    obtain ⟨h1, h2, h3, h4, h5, h6⟩ := h
    cases hx : x.u with
    | true =>
      have e1 : usedOf (x :: y :: r) = (x.s, x.w) :: usedOf (y :: r) := by show (if x.u then _ else _) = _; rw [hx]; rfl
      have e2 : freeOf (x :: y :: r) = freeOf (y :: r) := by show (if x.u then _ else _) = _; rw [hx]; rfl
      rw [e1, e2]
      show (if a < x.s then [(a, x.s - a)] else []) ++ gapsGo n (usedOf (y :: r)) (x.s + x.w) = _
      rw [if_neg (by omega), h1]
      exact gaps_eq h6 hn.2
    | false =>
      have hy : y.u = true := by
        rcases hn.1 with q | q
        · have q' : x.u = true := q
          rw [hx] at q'
          cases q'
        · exact q
      obtain ⟨g1, g2, g3, g4, g5, g6⟩ := h6
      have e1 : usedOf (x :: y :: r) = (y.s, y.w) :: usedOf r := by
        show (if x.u then _ else (if y.u then _ else _)) = _
        rw [hx, hy]
        rfl
      have e2 : freeOf (x :: y :: r) = (x.s, x.w) :: freeOf r := by
        show (if x.u then _ else (x.s, x.w) :: (if y.u then _ else _)) = _
        rw [hx, hy]
        rfl
      rw [e1, e2]
      show (if a < y.s then [(a, y.s - a)] else []) ++ gapsGo n (usedOf r) (y.s + y.w) = _
      rw [if_pos (by omega), g1, show a + x.w - a = x.w by omega, h1]
      exact congrArg ((a, x.w) :: ·) (gaps_eq g6 (noAdj_tail hn.2))

/-! ### writing tags, linking, zeroing -/
def putTags (ws : List Int) (a w : Int) (u : Bool) : List Int := wr (wr ws a (tag w u)) (a + w - 1) (tag w u)
def zero (ws : List Int) (a : Int) : Nat → List Int
  | 0 => ws
  | k + 1 => wr (zero ws a k) (a + k) 0
def linkW (ws : List Int) (b v : Int) : List Int := if b = -1 then ws else wr ws (b + 1) v
def linkH (hd b v : Int) : Int := if b = -1 then v else hd
theorem putTags_len (ws : List Int) (a w : Int) (u : Bool) : (putTags ws a w u).length = ws.length := by
  unfold putTags
  rw [wr_len, wr_len]
theorem zero_len (ws : List Int) (a : Int) : ∀ k, (zero ws a k).length = ws.length
  | 0 => rfl
  | k + 1 => by
    show (wr (zero ws a k) (a + k) 0).length = _
    rw [wr_len, zero_len ws a k]
theorem linkW_len (ws : List Int) (b v : Int) : (linkW ws b v).length = ws.length := by
  unfold linkW
  split
  · rfl
  · exact wr_len _ _ _
theorem putTags_out {ws : List Int} {a w i : Int} {u : Bool} (h0 : 0 ≤ a) (h1 : 3 ≤ w) (hi : 0 ≤ i) (h : i < a ∨ a + w ≤ i) : rd (putTags ws a w u) i = rd ws i := by
  unfold putTags
  rw [rd_wr_ne (by omega) hi (by omega), rd_wr_ne (by omega) hi (by omega)]
theorem putTags_first {ws : List Int} {a w : Int} {u : Bool} (h0 : 0 ≤ a) (h1 : 3 ≤ w) (hl : a + w ≤ (ws.length : Int)) : rd (putTags ws a w u) a = tag w u := by
  unfold putTags
  rw [rd_wr_ne (by omega) h0 (by omega), rd_wr_same h0 (by omega)]
theorem putTags_last {ws : List Int} {a w : Int} {u : Bool} (h0 : 0 ≤ a) (h1 : 3 ≤ w) (hl : a + w ≤ (ws.length : Int)) : rd (putTags ws a w u) (a + w - 1) = tag w u := by
  unfold putTags
  rw [rd_wr_same (by omega) (by rw [wr_len]; omega)]
theorem zero_out {ws : List Int} {a i : Int} (h0 : 0 ≤ a) (hi : 0 ≤ i) : ∀ {k : Nat}, i < a ∨ a + k ≤ i → rd (zero ws a k) i = rd ws i
  | 0, _ => rfl
  | k + 1, h => by
    show rd (wr (zero ws a k) (a + k) 0) i = _
    rw [rd_wr_ne (by omega) hi (by omega)]
    exact zero_out h0 hi (by omega)
/-- link(before, v): before is the last free area of xs -/
theorem link_seg {ws : List Int} {xs : List Area} {a b nf : Int} (h : Seg ws a xs b nf) (h0 : 0 ≤ a) (hb : b ≤ (ws.length : Int)) (v : Int) :
    Seg (linkW ws (lastFree xs (-1)) v) a xs b v ∧ linkH (nextFree xs nf) (lastFree xs (-1)) v = nextFree xs v ∧ (∀ i, 0 ≤ i → i < a ∨ b ≤ i → rd (linkW ws (lastFree xs (-1)) v) i = rd ws i) ∧
      (lastFree xs (-1) = -1 ∧ nextFree xs nf = nf ∨ 0 ≤ lastFree xs (-1) ∧ lastFree xs (-1) + 3 ≤ b ∧ rd ws (lastFree xs (-1) + 1) = nf) := by
  by_cases hf : freeOf xs = []
  · obtain ⟨e1, e2⟩ := lastFree_none xs (-1) v hf
    have e3 := (lastFree_none xs (-1) nf hf).2
    unfold linkW linkH
    rw [e1, if_pos rfl, if_pos rfl]
    exact ⟨seg_nf v hf h, e2.symm, fun _ _ _ => rfl, .inl ⟨rfl, e3⟩⟩
  · obtain ⟨q1, q2, q3, q4, q5, q6⟩ := relink h h0 hb hf v
    unfold linkW linkH
    rw [if_neg (by omega), if_neg (by omega)]
    exact ⟨q5, q6 _ _, fun i i1 i2 => rd_wr_ne (by omega) i1 (by omega), .inr ⟨q1, q3, q4⟩⟩

/-! ### the memory -/
/-- the memory of n words at ws, hd: its used areas are us, its areas as -/
structure Mem (ws : List Int) (hd n : Int) (as : List Area) : Prop where
  len : (ws.length : Int) = n
  seg : Seg ws 0 as n (-1)
  head : hd = nextFree as (-1)
  na : NoAdj as
theorem seg_one {ws : List Int} {a w nf : Int} {u : Bool} {post : List Area} {n : Int} (h3 : 3 ≤ w) (t1 : rd ws a = tag w u) (t2 : rd ws (a + w - 1) = tag w u) (t3 : u = false → rd ws (a + 1) = nextFree post nf) (r : Seg ws (a + w) post n nf) : Seg ws a (⟨a, w, u⟩ :: post) n nf :=
  ⟨rfl, h3, t1, t2, t3, r⟩
/-- the words behind a whole free area's taking -/
def allocW (ws : List Int) (b s w need later : Int) : List Int :=
  if 3 ≤ w - need then zero (putTags (linkW (wr (putTags ws (s + need) (w - need) false) (s + need + 1) later) b (s + need)) s need true) (s + 1) (need - 2).toNat
  else zero (putTags (linkW ws b later) s w true) (s + 1) (w - 2).toNat
def allocH (hd b s w need later : Int) : Int := if 3 ≤ w - need then linkH hd b (s + need) else linkH hd b later
theorem alloc_mem {ws : List Int} {hd n need : Int} {pre post : List Area} {x : Area} (M : Mem ws hd n (pre ++ x :: post)) (hu : x.u = false) (hn : 3 ≤ need) (hw : need ≤ x.w) :
    Mem (allocW ws (lastFree pre (-1)) x.s x.w need (nextFree post (-1))) (allocH hd (lastFree pre (-1)) x.s x.w need (nextFree post (-1))) n
      (pre ++ (if 3 ≤ x.w - need then ⟨x.s, need, true⟩ :: ⟨x.s + need, x.w - need, false⟩ :: post else ⟨x.s, x.w, true⟩ :: post)) := by
  obtain ⟨hl, hs, hh, ha⟩ := M
  obtain ⟨c, s1, h1, h2, h3, h4, h5, s2⟩ := Seg.app.mp hs
  have l1 := s1.le
  have l2 := s2.le
  subst h1
  have na1 : NA (pre.map (·.u)) := na_pre (ys := x.u :: post.map (·.u)) (by have := ha; unfold NoAdj at this; rw [List.map_append] at this; exact this)
  have na2 : NA (x.u :: post.map (·.u)) := na_suf (xs := pre.map (·.u)) (by have := ha; unfold NoAdj at this; rw [List.map_append] at this; exact this)
  have hh' : hd = nextFree pre (nextFree (x :: post) (-1)) := by rw [hh, nextFree_app]
  unfold allocW allocH
  by_cases hr : 3 ≤ x.w - need
  · rw [if_pos hr, if_pos hr, if_pos hr]
    -- the words behind the split
    have hput : ∀ i, 0 ≤ i → i < x.s ∨ x.s + x.w ≤ i → rd (wr (putTags ws (x.s + need) (x.w - need) false) (x.s + need + 1) (nextFree post (-1))) i = rd ws i := fun i i0 hi => by
      rw [rd_wr_ne (by omega) i0 (by omega), putTags_out (by omega) hr i0 (by omega)]
    have lw : ((wr (putTags ws (x.s + need) (x.w - need) false) (x.s + need + 1) (nextFree post (-1))).length : Int) = n := by rw [wr_len, putTags_len]; exact hl
    have s1' := s1.frame (ws' := wr (putTags ws (x.s + need) (x.w - need) false) (x.s + need + 1) (nextFree post (-1))) fun i i1 i2 => hput i i1 (.inl i2)
    obtain ⟨k1, k2, k3, _⟩ := link_seg s1' (by omega) (by omega) (x.s + need)
    have lw3 : ((linkW (wr (putTags ws (x.s + need) (x.w - need) false) (x.s + need + 1) (nextFree post (-1))) (lastFree pre (-1)) (x.s + need)).length : Int) = n := by rw [linkW_len]; exact lw
    generalize hW : linkW (wr (putTags ws (x.s + need) (x.w - need) false) (x.s + need + 1) (nextFree post (-1))) (lastFree pre (-1)) (x.s + need) = W at k1 k3 lw3
    have lwp : ((putTags ws (x.s + need) (x.w - need) false).length : Int) = n := by rw [putTags_len]; exact hl
    -- outside of the used part
    have hout : ∀ i, 0 ≤ i → i < x.s ∨ x.s + need ≤ i → rd (zero (putTags W x.s need true) (x.s + 1) (need - 2).toNat) i = rd W i := fun i i0 hi => by
      rw [zero_out (by omega) i0 (by omega), putTags_out (by omega) hn i0 hi]
    refine ⟨?_, Seg.app.mpr ⟨x.s, ?_, ?_⟩, ?_, ?_⟩
    · rw [zero_len, putTags_len]; exact lw3
    · show Seg _ 0 pre x.s (x.s + need)
      exact k1.frame fun i i1 i2 => hout i i1 (.inl i2)
    · refine seg_one hn ?_ ?_ (fun e => nomatch e) (seg_one hr ?_ ?_ (fun _ => ?_) ?_)
      · rw [zero_out (by omega) (by omega) (by omega), putTags_first (by omega) hn (by omega)]
      · rw [zero_out (by omega) (by omega) (by omega), putTags_last (by omega) hn (by omega)]
      · rw [hout _ (by omega) (.inr (by omega)), k3 _ (by omega) (.inr (by omega)), rd_wr_ne (by omega) (by omega) (by omega), putTags_first (by omega) hr (by omega)]
      · rw [hout _ (by omega) (.inr (by omega)), k3 _ (by omega) (.inr (by omega)), rd_wr_ne (by omega) (by omega) (by omega), putTags_last (by omega) hr (by omega)]
      · rw [hout _ (by omega) (.inr (by omega)), k3 _ (by omega) (.inr (by omega)), rd_wr_same (by omega) (by omega)]
      · rw [show x.s + need + (x.w - need) = x.s + x.w by omega]
        exact s2.frame fun i i1 i2 => by rw [hout _ (by omega) (.inr (by omega)), k3 _ (by omega) (.inr (by omega)), hput i (by omega) (.inr i1)]
    · rw [nextFree_app, hh', k2]
      rfl
    · show NA (List.map _ (pre ++ _))
      rw [List.map_append]
      exact na_mid na1 (by rw [hu] at na2; exact na2)
  · rw [if_neg hr, if_neg hr, if_neg hr]
    obtain ⟨k1, k2, k3, _⟩ := link_seg s1 (by omega) (by omega) (nextFree post (-1))
    have lw3 : ((linkW ws (lastFree pre (-1)) (nextFree post (-1))).length : Int) = n := by rw [linkW_len]; exact hl
    generalize hW : linkW ws (lastFree pre (-1)) (nextFree post (-1)) = W at k1 k3 lw3
    have hout : ∀ i, 0 ≤ i → i < x.s ∨ x.s + x.w ≤ i → rd (zero (putTags W x.s x.w true) (x.s + 1) (x.w - 2).toNat) i = rd W i := fun i i0 hi => by
      rw [zero_out (by omega) i0 (by omega), putTags_out (by omega) h2 i0 hi]
    refine ⟨?_, Seg.app.mpr ⟨x.s, ?_, ?_⟩, ?_, ?_⟩
    · rw [zero_len, putTags_len]; exact lw3
    · show Seg _ 0 pre x.s (nextFree post (-1))
      exact k1.frame fun i i1 i2 => hout i i1 (.inl i2)
    · refine seg_one h2 ?_ ?_ (fun e => nomatch e) ?_
      · rw [zero_out (by omega) (by omega) (by omega), putTags_first (by omega) h2 (by omega)]
      · rw [zero_out (by omega) (by omega) (by omega), putTags_last (by omega) h2 (by omega)]
      · exact s2.frame fun i i1 i2 => by rw [hout _ (by omega) (.inr (by omega)), k3 _ (by omega) (.inr (by omega))]
    · rw [nextFree_app, hh', k2]
      rfl
    · show NA (List.map _ (pre ++ _))
      rw [List.map_append]
      exact na_mid na1 (na_tail na2)

/-! ### release -/
/-- what release reckons: later0: the next free area; W1, later1: behind the join with it; first, W2: behind the join with the one before -/
structure Plan (ws : List Int) (hd n start w bef later0 W1 later1 first W2 : Int) : Prop where
  link : bef = -1 ∧ later0 = hd ∨ bef ≠ -1 ∧ 0 ≤ bef + 1 ∧ bef + 1 < n ∧ later0 = rd ws (bef + 1)
  next : later0 = start + w ∧ 0 ≤ later0 ∧ later0 + 1 < n ∧ W1 = w + (rd ws later0).fdiv 2 ∧ later1 = rd ws (later0 + 1) ∨ later0 ≠ start + w ∧ W1 = w ∧ later1 = later0
  prev : 0 < start ∧ (rd ws (start - 1)).fmod 2 = 0 ∧ first = start - (rd ws (start - 1)).fdiv 2 ∧ W2 = W1 + (start - first) ∧ first ≠ start ∨ (0 < start → (rd ws (start - 1)).fmod 2 ≠ 0) ∧ first = start ∧ W2 = W1
  st : 0 ≤ start ∧ start < n
  f0 : 0 ≤ first
  w3 : 3 ≤ W2
  fin : first + W2 ≤ n
def relW (ws : List Int) (bef start later1 first W2 : Int) : List Int :=
  if first = start then linkW (wr (putTags ws first W2 false) (first + 1) later1) bef start else wr (putTags ws first W2 false) (first + 1) later1
def relH (hd bef start first : Int) : Int := if first = start then linkH hd bef start else hd
theorem last_or (xs : List Area) : xs = [] ∨ ∃ ys y, xs = ys ++ [y] := by
  rcases List.eq_nil_or_concat xs with h | ⟨ys, y, h⟩
  · exact .inl h
  · exact .inr ⟨ys, y, by rw [h, List.concat_eq_append]⟩
theorem release_mem {ws : List Int} {hd n : Int} {pre post : List Area} {x : Area} (M : Mem ws hd n (pre ++ x :: post)) (hu : x.u = true) :
    ∃ later0 W1 later1 first W2, Plan ws hd n x.s x.w (lastFree pre (-1)) later0 W1 later1 first W2 ∧
      ∃ as, Mem (relW ws (lastFree pre (-1)) x.s later1 first W2) (relH hd (lastFree pre (-1)) x.s first) n as ∧ usedOf as = usedOf pre ++ usedOf post := by
  obtain ⟨hl, hs, hh, ha⟩ := M
  obtain ⟨c, s1, h1, h2, h3, h4, h5, s2⟩ := Seg.app.mp hs
  have l1 := s1.le
  have l2 := s2.le
  subst h1
  have ha' : NA (pre.map (·.u) ++ x.u :: post.map (·.u)) := by have := ha; unfold NoAdj at this; rw [List.map_append] at this; exact this
  have na1 : NA (pre.map (·.u)) := na_pre ha'
  have na2 : NA (post.map (·.u)) := na_tail (na_suf ha')
  have hnx : nextFree (x :: post) (-1) = nextFree post (-1) := by show (if x.u then _ else _) = _; rw [hu]; rfl
  rw [hnx] at s1
  have hh' : hd = nextFree pre (nextFree post (-1)) := by rw [hh, nextFree_app, hnx]
  -- behind
  have B : ∃ W1 later1 post', (nextFree post (-1) = x.s + x.w ∧ 0 ≤ nextFree post (-1) ∧ nextFree post (-1) + 1 < n ∧ W1 = x.w + (rd ws (nextFree post (-1))).fdiv 2 ∧ later1 = rd ws (nextFree post (-1) + 1) ∨ nextFree post (-1) ≠ x.s + x.w ∧ W1 = x.w ∧ later1 = nextFree post (-1)) ∧
      Seg ws (x.s + W1) post' n (-1) ∧ later1 = nextFree post' (-1) ∧ usedOf post' = usedOf post ∧ NA (false :: post'.map (·.u)) ∧ 3 ≤ W1 := by
    cases post with
    | nil => exact ⟨x.w, -1, [], .inr ⟨by show (-1 : Int) ≠ _; omega, rfl, rfl⟩, s2, rfl, rfl, trivial, h2⟩
    | cons q r =>
      obtain ⟨g1, g2, g3, g4, g5, g6⟩ := s2
      have l3 := g6.le
      cases hq : q.u with
      | true =>
        have e1 : nextFree (q :: r) (-1) = nextFree r (-1) := by show (if q.u then _ else _) = _; rw [hq]; rfl
        refine ⟨x.w, nextFree (q :: r) (-1), q :: r, .inr ⟨?_, rfl, rfl⟩, ⟨g1, g2, g3, g4, g5, g6⟩, rfl, rfl, ⟨.inr hq, na2⟩, h2⟩
        rw [e1]
        rcases g6.next_cases (-1) with z | z <;> omega
      | false =>
        have e1 : nextFree (q :: r) (-1) = q.s := by show (if q.u then _ else _) = _; rw [hq]; rfl
        have e2 : usedOf (q :: r) = usedOf r := by show (if q.u then _ else _) = _; rw [hq]; rfl
        have n2 : NA (q.u :: r.map (·.u)) := na2
        rw [hq] at n2
        refine ⟨x.w + q.w, nextFree r (-1), r, .inl ⟨?_, ?_, ?_, ?_, ?_⟩, ?_, rfl, e2.symm, n2, by omega⟩
        · rw [e1]; exact g1
        · rw [e1]; omega
        · rw [e1]; omega
        · rw [e1, g1, g3, tag_half]
        · rw [e1, g1, g5 hq]
        · rw [show x.s + (x.w + q.w) = x.s + x.w + q.w by omega]; exact g6
  obtain ⟨W1, later1, post', hB, sB, eB, uB, nB, wB⟩ := B
  have lB := sB.le
  have hlink := link_seg s1 (by omega) (by omega) x.s
  refine ⟨nextFree post (-1), W1, later1, ?_⟩
  have PL : lastFree pre (-1) = -1 ∧ nextFree post (-1) = hd ∨ lastFree pre (-1) ≠ -1 ∧ 0 ≤ lastFree pre (-1) + 1 ∧ lastFree pre (-1) + 1 < n ∧ nextFree post (-1) = rd ws (lastFree pre (-1) + 1) := by
    rcases hlink.2.2.2 with ⟨z1, z2⟩ | ⟨z1, z2, z3⟩
    · exact .inl ⟨z1, by rw [hh', z2]⟩
    · exact .inr ⟨by omega, by omega, by omega, z3.symm⟩
  -- the join with the one before, or not
  have apart : (∀ z, rd ws (x.s - 1) = z → 0 < x.s → z.fmod 2 ≠ 0) → NA (pre.map (·.u) ++ [false]) → ∃ first W2, Plan ws hd n x.s x.w (lastFree pre (-1)) (nextFree post (-1)) W1 later1 first W2 ∧
      ∃ as, Mem (relW ws (lastFree pre (-1)) x.s later1 first W2) (relH hd (lastFree pre (-1)) x.s first) n as ∧ usedOf as = usedOf pre ++ usedOf post := fun hz hna => by
    refine ⟨x.s, W1, ⟨PL, hB, .inr ⟨fun q => hz _ rfl q, rfl, rfl⟩, ⟨by omega, by omega⟩, by omega, wB, lB⟩, pre ++ ⟨x.s, W1, false⟩ :: post', ?_, ?_⟩
    · unfold relW relH
      rw [if_pos rfl, if_pos rfl]
      have hput : ∀ i, 0 ≤ i → i < x.s ∨ x.s + W1 ≤ i → rd (wr (putTags ws x.s W1 false) (x.s + 1) later1) i = rd ws i := fun i i0 hi => by
        rw [rd_wr_ne (by omega) i0 (by omega), putTags_out (by omega) wB i0 hi]
      have lwp : ((putTags ws x.s W1 false).length : Int) = n := by rw [putTags_len]; exact hl
      have lw : ((wr (putTags ws x.s W1 false) (x.s + 1) later1).length : Int) = n := by rw [wr_len]; exact lwp
      have s1' := s1.frame (ws' := wr (putTags ws x.s W1 false) (x.s + 1) later1) fun i i1 i2 => hput i i1 (.inl i2)
      obtain ⟨k1, k2, k3, _⟩ := link_seg s1' (by omega) (by omega) x.s
      refine ⟨by rw [linkW_len]; exact lw, Seg.app.mpr ⟨x.s, k1, seg_one wB ?_ ?_ (fun _ => ?_) ?_⟩, ?_, ?_⟩
      · rw [k3 _ (by omega) (.inr (by omega)), rd_wr_ne (by omega) (by omega) (by omega), putTags_first (by omega) wB (by omega)]
      · rw [k3 _ (by omega) (.inr (by omega)), rd_wr_ne (by omega) (by omega) (by omega), putTags_last (by omega) wB (by omega)]
      · rw [k3 _ (by omega) (.inr (by omega)), rd_wr_same (by omega) (by omega), eB]
      · exact sB.frame fun i i1 i2 => by rw [k3 _ (by omega) (.inr (by omega)), hput i (by omega) (.inr i1)]
      · rw [nextFree_app, hh', k2]
        rfl
      · show NA (List.map _ (pre ++ _))
        rw [List.map_append]
        exact na_join hna nB
    · rw [usedOf_app, ← uB]
      rfl
  rcases last_or pre with rfl | ⟨ys, y, rfl⟩
  · have e0 : (0 : Int) = x.s := s1
    exact apart (fun z _ q => absurd q (by omega)) trivial
  · obtain ⟨c, t1, g1, g2, g3, g4, g5, g6⟩ := Seg.app.mp s1
    have l4 := t1.le
    have e6 : c + y.w = x.s := g6
    have nay : NA (ys.map (·.u) ++ [y.u]) := by rw [List.map_append] at na1; exact na1
    have ey : rd ws (x.s - 1) = tag y.w y.u := by rw [← g4]; exact congrArg (rd ws) (by omega)
    cases hy : y.u with
    | true =>
      refine apart (fun z hz _ => ?_) ?_
      · rw [← hz, ey, hy, tag_odd]
        decide
      · rw [List.map_append]
        rw [hy] at nay
        show NA (ys.map (·.u) ++ [y.u] ++ [false])
        rw [hy, List.append_assoc]
        exact na_join nay ⟨.inl rfl, trivial⟩
    | false =>
      rw [hy] at nay
      have ef : c = x.s - (rd ws (x.s - 1)).fdiv 2 := by rw [ey, tag_half]; omega
      refine ⟨c, W1 + (x.s - c), ⟨PL, hB, .inl ⟨by omega, by rw [ey, hy, tag_odd]; rfl, ef, rfl, by omega⟩, ⟨by omega, by omega⟩, by omega, by omega, by omega⟩, ys ++ ⟨c, W1 + (x.s - c), false⟩ :: post', ?_, ?_⟩
      · have ne : ¬ c = x.s := by omega
        unfold relW relH
        rw [if_neg ne, if_neg ne]
        have w3 : 3 ≤ W1 + (x.s - c) := by omega
        have hput : ∀ i, 0 ≤ i → i < c ∨ c + (W1 + (x.s - c)) ≤ i → rd (wr (putTags ws c (W1 + (x.s - c)) false) (c + 1) later1) i = rd ws i := fun i i0 hi => by
          rw [rd_wr_ne (by omega) i0 (by omega), putTags_out (by omega) w3 i0 hi]
        have lwp : ((putTags ws c (W1 + (x.s - c)) false).length : Int) = n := by rw [putTags_len]; exact hl
        have lw : ((wr (putTags ws c (W1 + (x.s - c)) false) (c + 1) later1).length : Int) = n := by rw [wr_len]; exact lwp
        have ny : ∀ d, nextFree [y] d = c := fun d => by
          show (if y.u then _ else y.s) = c
          rw [hy]
          exact g1
        rw [ny] at t1
        refine ⟨lw, Seg.app.mpr ⟨c, ?_, seg_one w3 ?_ ?_ (fun _ => ?_) ?_⟩, ?_, ?_⟩
        · show Seg _ 0 ys c c
          exact t1.frame fun i i1 i2 => hput i i1 (.inl i2)
        · rw [rd_wr_ne (by omega) (by omega) (by omega), putTags_first (by omega) w3 (by omega)]
        · rw [rd_wr_ne (by omega) (by omega) (by omega), putTags_last (by omega) w3 (by omega)]
        · rw [rd_wr_same (by omega) (by omega), eB]
        · rw [show c + (W1 + (x.s - c)) = x.s + W1 by omega]
          exact sB.frame fun i i1 i2 => hput i (by omega) (.inr (by omega))
        · rw [nextFree_app, hh', nextFree_app, ny]
          rfl
        · show NA (List.map _ (ys ++ _))
          rw [List.map_append]
          exact na_join nay nB
      · rw [usedOf_app, usedOf_app]
        have e7 : usedOf [y] = [] := by show (if y.u then _ else _) = _; rw [hy]; rfl
        rw [e7, ← uB, List.append_nil]
        rfl

/-! ### the first memory -/
theorem mem_init {n : Int} (hn : 3 ≤ n) : Mem (wr (putTags (List.replicate n.toNat 0) 0 n false) 1 (-1)) 0 n [⟨0, n, false⟩] := by
  have l0 : ((List.replicate n.toNat (0 : Int)).length : Int) = n := by rw [List.length_replicate]; omega
  have l1 : ((putTags (List.replicate n.toNat (0 : Int)) 0 n false).length : Int) = n := by rw [putTags_len]; exact l0
  refine ⟨by rw [wr_len]; exact l1, seg_one hn ?_ ?_ (fun _ => ?_) (by show (0 : Int) + n = n; omega), rfl, trivial⟩
  · rw [rd_wr_ne (by omega) (by omega) (by omega), putTags_first (by omega) hn (by omega)]
  · rw [rd_wr_ne (by omega) (by omega) (by omega), putTags_last (by omega) hn (by omega)]
  · rw [show (0 : Int) + 1 = 1 from rfl, rd_wr_same (by omega) (by omega)]
    rfl

/-! ### the choice -/
def pickStep (pb pw : Bool) (need : Int) (best : Option (Int × Int)) (p : Int × Int) : Option (Int × Int) :=
  if p.2 < need then best else match best with
    | none => some p
    | some b => if pb && decide (p.2 < b.2) then some p else if pw && decide (b.2 < p.2) then some p else some b
def pick (pb pw : Bool) (need : Int) (l : List (Int × Int)) : Option (Int × Int) := l.foldl (pickStep pb pw need) none
theorem pickStep_or (pb pw : Bool) (need : Int) (b : Option (Int × Int)) (p : Int × Int) : pickStep pb pw need b p = b ∨ pickStep pb pw need b p = some p ∧ need ≤ p.2 := by
  unfold pickStep
  by_cases h : p.2 < need
  · rw [if_pos h]; exact .inl rfl
  · rw [if_neg h]
    cases b with
    | none => exact .inr ⟨rfl, by omega⟩
    | some b =>
      show (if (pb && decide (p.2 < b.2)) = true then some p else if (pw && decide (b.2 < p.2)) = true then some p else some b) = _ ∨ (if (pb && decide (p.2 < b.2)) = true then some p else if (pw && decide (b.2 < p.2)) = true then some p else some b) = _ ∧ _
      split
      · exact .inr ⟨rfl, by omega⟩
      · split
        · exact .inr ⟨rfl, by omega⟩
        · exact .inl rfl
theorem pick_go (pb pw : Bool) (need : Int) : ∀ (l : List (Int × Int)) (b : Option (Int × Int)) (p : Int × Int), l.foldl (pickStep pb pw need) b = some p → b = some p ∨ p ∈ l ∧ need ≤ p.2
  | [], _, _, h => .inl h
  | q :: l, b, p, h => by
    rw [List.foldl_cons] at h
    rcases pick_go pb pw need l _ p h with z | ⟨z1, z2⟩
    · rcases pickStep_or pb pw need b q with y | ⟨y, yn⟩
      · exact .inl (y.symm.trans z)
      · have e : q = p := Option.some.inj (y.symm.trans z)
        subst e
        exact .inr ⟨List.mem_cons_self, yn⟩
    · exact .inr ⟨List.mem_cons_of_mem _ z1, z2⟩
theorem pick_mem {pb pw : Bool} {need : Int} {l : List (Int × Int)} {p : Int × Int} (h : pick pb pw need l = some p) : p ∈ l ∧ need ≤ p.2 := by
  rcases pick_go pb pw need l none p h with z | z
  · cases z
  · exact z
theorem free_split : ∀ {as : List Area} {p : Int × Int}, p ∈ freeOf as → ∃ pre x post, as = pre ++ x :: post ∧ x.u = false ∧ x.s = p.1 ∧ x.w = p.2
  | [], _, h => nomatch h
  | x :: xs, p, h => by
    have h' : p ∈ (if x.u then freeOf xs else (x.s, x.w) :: freeOf xs) := h
    have ih : p ∈ freeOf xs → ∃ pre y post, x :: xs = pre ++ y :: post ∧ y.u = false ∧ y.s = p.1 ∧ y.w = p.2 := fun q => by
      obtain ⟨pre, y, post, e, r⟩ := free_split q
      exact ⟨x :: pre, y, post, by rw [e]; rfl, r⟩
    cases hu : x.u with
    | true => rw [hu] at h'; exact ih h'
    | false =>
      rw [hu] at h'
      rcases List.mem_cons.mp h' with rfl | h'
      · exact ⟨[], x, xs, rfl, hu, rfl, rfl⟩
      · exact ih h'
theorem used_split : ∀ {as : List Area} {p : Int × Int}, p ∈ usedOf as → ∃ pre x post, as = pre ++ x :: post ∧ x.u = true ∧ x.s = p.1 ∧ x.w = p.2
  | [], _, h => nomatch h
  | x :: xs, p, h => by
    have h' : p ∈ (if x.u then (x.s, x.w) :: usedOf xs else usedOf xs) := h
    have ih : p ∈ usedOf xs → ∃ pre y post, x :: xs = pre ++ y :: post ∧ y.u = true ∧ y.s = p.1 ∧ y.w = p.2 := fun q => by
      obtain ⟨pre, y, post, e, r⟩ := used_split q
      exact ⟨x :: pre, y, post, by rw [e]; rfl, r⟩
    cases hu : x.u with
    | false => rw [hu] at h'; exact ih h'
    | true =>
      rw [hu] at h'
      rcases List.mem_cons.mp h' with rfl | h'
      · exact ⟨[], x, xs, rfl, hu, rfl, rfl⟩
      · exact ih h'

/-! ### the order of pairs -/
def Lx (p q : Int × Int) : Prop := p.1 < q.1 ∨ (p.1 = q.1 ∧ p.2 ≤ q.2)
theorem sorted_one {l m : List (Int × Int)} (h : l.Perm m) (hl : l.Pairwise Lx) (hm : m.Pairwise Lx) : l = m :=
  h.eq_of_pairwise (fun a b _ _ h1 h2 => by
    have h1 : a.1 < b.1 ∨ (a.1 = b.1 ∧ a.2 ≤ b.2) := h1
    have h2 : b.1 < a.1 ∨ (b.1 = a.1 ∧ b.2 ≤ a.2) := h2
    exact Prod.ext (by omega) (by omega)) hl hm
theorem Seg.used_sorted {ws : List Int} : ∀ {xs : List Area} {a b nf : Int}, Seg ws a xs b nf → (usedOf xs).Pairwise Lx
  | [], _, _, _, _ => .nil
  | x :: xs, a, b, nf, h => by
    obtain ⟨h1, h2, _, _, _, h6⟩ := h
    have ih := h6.used_sorted
    show List.Pairwise Lx (if x.u then (x.s, x.w) :: usedOf xs else usedOf xs)
    cases x.u with
    | false => exact ih
    | true =>
      refine .cons (fun p hp => .inl ?_) ih
      have := h6.used_in p hp
      show x.s < p.1
      omega
/-- sorted(blocks) is the used areas -/
theorem sorted_used {ws : List Int} {hd n : Int} {as : List Area} (M : Mem ws hd n as) {bs sl : List (Int × Int)} (hb : bs.Perm (usedOf as)) (hs : sl.Pairwise Lx) (hp : sl.Perm bs) : sl = usedOf as :=
  sorted_one (hp.trans hb) hs M.seg.used_sorted

/-! ### the piece -/
def pieceGo : List (Int × Int) → Int → Bool
  | [], _ => false
  | p :: r, e => if 0 < p.1 - e ∧ p.1 - e < 3 then true else pieceGo r (p.1 + p.2)
theorem piece_later : ∀ (l1 l2 : List (Int × Int)) (p : Int × Int) (e : Int), pieceGo (l1 ++ p :: l2) e = false → pieceGo l2 (p.1 + p.2) = false
  | [], l2, p, e, h => by
    have h' : (if 0 < p.1 - e ∧ p.1 - e < 3 then true else pieceGo l2 (p.1 + p.2)) = false := h
    split at h'
    · cases h'
    · exact h'
  | q :: l1, l2, p, e, h => by
    have h' : (if 0 < q.1 - e ∧ q.1 - e < 3 then true else pieceGo (l1 ++ p :: l2) (q.1 + q.2)) = false := h
    split at h'
    · cases h'
    · exact piece_later l1 l2 p _ h'
/-- an allocation as the law makes it -/
theorem law_alloc {ws : List Int} {hd n need : Int} {as : List Area} (M : Mem ws hd n as) (hn : 3 ≤ need) {pb pw : Bool} {s w : Int} (hp : pick pb pw need (freeOf as) = some (s, w)) :
    ∃ pre x post, as = pre ++ x :: post ∧ x.u = false ∧ x.s = s ∧ x.w = w ∧ need ≤ w ∧ beforeF (freeOf as) s = lastFree pre (-1) ∧ rd ws (s + 1) = nextFree post (-1) ∧ 0 ≤ s ∧ s + w ≤ n ∧
      (beforeF (freeOf as) s = -1 ∨ 0 ≤ beforeF (freeOf as) s + 1 ∧ beforeF (freeOf as) s + 1 < n) ∧
      ∀ bs sl : List (Int × Int), bs.Perm (usedOf as) → sl.Pairwise Lx → sl.Perm (bs ++ [(s, need)]) → pieceGo (sl ++ [(n, 0)]) 0 = false → (w = need ∨ 3 ≤ w - need) := by
  obtain ⟨hm, hw⟩ := pick_mem hp
  obtain ⟨pre, x, post, rfl, hu, hs, hx⟩ := free_split hm
  obtain ⟨c, s1, h1, h2, h3, h4, h5, s2⟩ := Seg.app.mp M.seg
  have l1 := s1.le
  have l2 := s2.le
  have hs' : x.s = s := hs
  have hx' : x.w = w := hx
  have hcs : c = s := by omega
  subst hcs
  have eb : beforeF (freeOf (pre ++ x :: post)) c = lastFree pre (-1) := before_eq s1 (b := n) (nf' := -1) ⟨h1, h2, h3, h4, h5, s2⟩
  have hl := M.len
  refine ⟨pre, x, post, rfl, hu, hs, hx, hw, eb, h5 hu, by omega, by omega, ?_, fun bs sl hb hsl hpl hpc => ?_⟩
  · rw [eb]
    rcases (link_seg s1 (by omega) (by omega) 0).2.2.2 with ⟨z, _⟩ | ⟨z1, z2, _⟩
    · exact .inl z
    · exact .inr (by omega)
  · have hu2 : usedOf (pre ++ x :: post) = usedOf pre ++ usedOf post := by
      rw [usedOf_app]
      show _ ++ (if x.u then _ else _) = _
      rw [hu]
      rfl
    have s3 : (usedOf pre ++ (c, need) :: usedOf post).Pairwise Lx := by
      have q := M.seg.used_sorted
      rw [hu2] at q
      obtain ⟨q1, q2, q3⟩ := List.pairwise_append.mp q
      refine List.pairwise_append.mpr ⟨q1, .cons (fun p hp => .inl ?_) q2, fun a ha b hb => ?_⟩
      · have := s2.used_in p hp
        show c < p.1
        omega
      · rcases List.mem_cons.mp hb with rfl | hb
        · have := s1.used_in a ha
          exact .inl (by show a.1 < c; omega)
        · exact q3 a ha b hb
    have p3 : (bs ++ [(c, need)]).Perm (usedOf pre ++ (c, need) :: usedOf post) := by
      rw [hu2] at hb
      exact ((hb.append_right _).trans (List.perm_append_singleton _ _)).trans List.perm_middle.symm
    have e3 := sorted_one (hpl.trans p3) hsl s3
    rw [e3, List.append_assoc] at hpc
    have k : pieceGo (usedOf post ++ [(n, 0)]) (c + need) = false := piece_later _ _ _ _ hpc
    -- the next start is c + w
    have nxt : ∃ p r, usedOf post ++ [(n, 0)] = p :: r ∧ p.1 = c + w := by
      cases post with
      | nil =>
        have e : c + x.w = n := s2
        exact ⟨(n, 0), [], rfl, by show n = c + w; omega⟩
      | cons y r =>
        obtain ⟨g1, _⟩ := s2
        have hy : y.u = true := by
          have na := M.na
          unfold NoAdj at na
          rw [List.map_append] at na
          have q : NA (x.u :: y.u :: r.map (·.u)) := na_suf na
          rcases q.1 with z | z
          · rw [hu] at z; cases z
          · exact z
        refine ⟨(y.s, y.w), usedOf r ++ [(n, 0)], ?_, by show y.s = c + w; omega⟩
        show (if y.u then _ else _) ++ _ = _
        rw [hy]
        rfl
    obtain ⟨p, r, e, ep⟩ := nxt
    rw [e] at k
    have k' : (if 0 < p.1 - (c + need) ∧ p.1 - (c + need) < 3 then true else pieceGo r (p.1 + p.2)) = false := k
    split at k'
    · cases k'
    · omega
/-- the used areas behind it -/
theorem law_alloc_used {n need s w : Int} {pre post : List Area} {x : Area} (hu : x.u = false) (hs : x.s = s) (hw : x.w = w) (hr : w = need ∨ 3 ≤ w - need) {bs : List (Int × Int)} (hb : bs.Perm (usedOf (pre ++ x :: post))) :
    (bs ++ [(s, need)]).Perm (usedOf (pre ++ (if 3 ≤ x.w - need then ⟨x.s, need, true⟩ :: ⟨x.s + need, x.w - need, false⟩ :: post else ⟨x.s, x.w, true⟩ :: post))) := by
  have hu2 : usedOf (pre ++ x :: post) = usedOf pre ++ usedOf post := by
    rw [usedOf_app]
    show _ ++ (if x.u then _ else _) = _
    rw [hu]
    rfl
  rw [hu2] at hb
  have p3 : (bs ++ [(s, need)]).Perm (usedOf pre ++ (s, need) :: usedOf post) := ((hb.append_right _).trans (List.perm_append_singleton _ _)).trans List.perm_middle.symm
  rw [usedOf_app]
  by_cases h : 3 ≤ x.w - need
  · rw [if_pos h]
    show List.Perm _ (usedOf pre ++ (x.s, need) :: usedOf post)
    rw [hs]
    exact p3
  · rw [if_neg h]
    show List.Perm _ (usedOf pre ++ (x.s, x.w) :: usedOf post)
    rw [hs, hw, show w = need by omega]
    exact p3
end K23
/-! K23Exc: OutOfMemory.__init__, whose first row is super().__init__(f".."): walked by hand over the library, a promise of the hand layer at its end. -/
namespace K23
open PySem L2
def top (i : Nat) : Stmt := PySem.Challenge.pw_heapgame_k23_whole_policies_on_tagged_wo.main.body.getD i (.Pass ⟨0, 0, 0, 0⟩)
abbrev sOom : Stmt := inClass (top 2) 0

/-! ### ValueError.__init__ bound to an instance, called -/
section
open PySem.W PySem.Calls PyProof.Rows
variable {prog : Program} {w : World} {A : Around} {E : Value → Shared → Prop} {h : Heap} {g : Array GenState} {d : Drawn} {t : Nat} {os : OsState}
variable {nm q : Str} {C N : Addr} {bs bm : List Value} {hdct : Bool} {sn : List Str} {sub : List Value} {ab : Bool} {col : Option Bool} {dd : Option Addr} {k0 k1 k2 k3 k5 : Option Value}
theorem call_bwV {u e t0 : Addr} {rest : List Value} {Q : Value → Shared → Prop}
    (hC : h.get? C = some (excClassObj nm q C N bs bm hdct sn sub ab col dd k0 k1 k2 k3 k5 "ValueError.__new__")) (he : h.get? e = some (HandSPX.excO C t0)) (hu : h.get? u = some (kxs_mw "ValueError.__init__" e)) (hrest : rest.length ≤ sizeLine)
    (hq : ∀ h' t1, (∀ b o, b ≠ e → h.get? b = some o → h'.get? b = some o) → h'.get? e = some (HandSPX.excO C t1) → Q .none ⟨h', g, d, t, os⟩) :
    wpAny (model prog w) A (call (.ref u) rest) Q E ⟨h, g, d, t, os⟩ := by
  refine wpAny_call (codeAny_of_tree ?_)
  show wpAny _ A.in1 (callAny (.ref u) ⟨rest, []⟩) _ _ _
  simp only [callAny]
  refine wpAny_bind (wpAny_load hu ?_)
  simp only [show (Value.type "method-wrapper" == Value.type "method" || Value.type "method-wrapper" == Value.type "builtin_function_or_method" || Value.type "method-wrapper" == Value.type "method-wrapper") = true by decide, if_true]
  refine KFB.if_so (by decide) ?_
  refine wpAny_bind (check_bound_init F.excBase_ValueError.toExcCallFacts hC he rfl ?_)
  refine wpAny_bind (wpAny_pure (wpAny_pure ?_))
  refine ⟨plainId_quiet F.excBase_ValueError.init.plain _, codeAny_builtin F.excBase_ValueError.initEntry ?_⟩
  exact exc_init_tree (cls := .ref C) (t0 := t0) (dv := none) (c2 := .none) (c3 := .none) (b4 := .bool false) he hrest fun h' k e' _ => hq h' _ k e'
end

section
open PySem.W PySem.Calls PyProof.Rows
variable {M : Model} {A : Around} {E : Value → Shared → Prop} {s : Shared}
theorem callWith_bwV {pos : Pos} {u x : Addr} {env : Env} {e : Expr} {rest : List Expr} {Q : Value → Shared → Prop}
    (h : wpAny M A (spliced (backTo pos (starEach (e :: rest) env))) (fun vs s₁ => KxsAt "ValueError.__init__" u x s₁.heap ∧ wpAny M A (call (.ref u) vs) Q E s₁) E s)
    (he : starEach (e :: rest) env = (false, eval e env) :: starEach rest env := by rfl) (hplain : (backTo pos (starEach rest env)).any (·.1) = false := by rfl) :
    wpAny M A (callWith pos (.ref u) [] (backTo pos (starEach (e :: rest) env)) []) Q E s := by
  rw [he] at h ⊢
  refine kxs_callWith (i := "ValueError.__init__") (x := x) (by show (false || (backTo pos (starEach rest env)).any (·.1)) = false; rw [hplain]; rfl) ?_
  exact evalArgs_plain h
end

/-! ### the promise -/
/-- what the written part says of an exception class at C whose __init__, at f, calls super().__init__; cc: the cell of __class__, cda: the code object -/
structure SupTxt (P : Program) (K : PySem.W.Frag) (mg : Str → Option Value) (qual : Str) (st : Stmt) (C f cc cda : Addr) (fd : FuncData) : Prop where
  fn : ∃ (oc : Value) (od : Option Addr) (dV kV doc pm : Value) (an : Option Addr) (ct : Value) (osl : Array (Option Value)),
    fd = PySem.W.fnX "__init__" qual (defArgs st) (defBody st) (defScope st) [("__class__", cc)] dV kV doc pm an (.ref cda) ct ∧ K.lookup f = some ⟨oc, od, .func fd, osl⟩
  hcd : PySem.W.codeIn K (.ref cda) qual = true
  code : ∃ (ccl : Value) (cdd : Option Addr) (vs : Array Value) (ccs : Array (Option Value)) (file : Str) (tf : Tok), K.lookup cda = some ⟨ccl, cdd, .fields vs, ccs⟩ ∧ vs[2]? = some (.str file tf) ∧ ((P.main.file : Str) == file) = true
  cell : ∃ (cl : Value) (cld : Option Addr) (csl : Array (Option Value)), K.lookup cc = some ⟨cl, cld, .cell (some (.ref C)), csl⟩
  ox : OexC K C
  sup : mg "super" = none
  htop : (P.main.scope.names.lookup ("super" : Str)).isSome = false
  any : PySem.W.nsIn K cStatics "thirdparty.any" = some none
  hm : PySem.W.ks_superIn K C C "__init__" = some (some (.builtin "ValueError.__init__"))
  hB : PySem.W.subIn K (.ref C) (.type "ValueError") = some true
  hsub : PySem.W.mroIn K C (.ref C) = some true
  nL : PySem.W.findIn K (.ref C) "length" = some none

/-- OutOfMemory.__init__(e, n) of a fresh exception at e -/
def spOom (C : Addr) : Sp := fun vs H Q _ => ∃ (e : Addr) (n : Int), vs = [.ref e, .int n] ∧ H e = some (exo e C none) ∧ n.natAbs.log2 < 1920 ∧
  ∀ dx : Addr, H dx = none → dx ≠ e → Q .non (upd (upd H dx (exd dx [("length", .int n)])) e (exo e C (some dx)))

theorem pins_one {X : Cx} {σ : L2.St} {H : Hp} {s : Shared} {u : Addr} {o : Obj} {h' : Heap} {t' : Nat} (I : Inv X [] σ H s) (k : ∀ b o, s.heap.get? b = some o → h'.get? b = some o) (hu : s.heap.objs.size ≤ u) (ho : h'.get? u = some o) (hc : ∀ v, o.data ≠ .cell v) :
    Inv X [(u, o)] σ H { s with heap := h', toks := t' } := by
  have J : Inv X [] σ H { s with heap := h', toks := t' } := I.kept k
  refine J.pins_of fun p hp => ?_
  have e : p = (u, o) := by simpa using hp
  subst e
  exact ⟨ho, I.hok.fresh hu, Nat.ne_of_gt (Nat.lt_of_lt_of_le I.lt hu), I.nofs hu, hc⟩

theorem scOom : NdefX.NScope ["self", "length", "__class__"] ["self", "length"] ["__class__"] (defScope sOom) := NdefX.nscope_by (by decide +kernel)
theorem cells_one {K : PySem.W.Frag} {base : Heap} {H : Hp} {h : Heap} {cc C : Addr} {cl : Value} {cld : Option Addr} {csl : Array (Option Value)} (X : K.In base) (bs : ∀ b o, base.get? b = some o → h.get? b = some o ∧ H b = none) (hk : K.lookup cc = some ⟨cl, cld, .cell (some (.ref C)), csl⟩) :
    NdefX.CellsAt [("__class__", cc)] ["__class__"] [some (.ref C)] h H := by
  have e := bs _ _ (X _ _ hk)
  have lk : ∀ {y : Str} {c : Addr}, ([("__class__", cc)] : List (Str × Addr)).lookup y = some c → y = "__class__" ∧ c = cc := fun {y c} z => by
    have q := PySem.mem_of_lookup z
    have q' : (y, c) = (("__class__" : Str), cc) := by simpa using q
    exact ⟨congrArg Prod.fst q', congrArg Prod.snd q'⟩
  refine ⟨rfl, fun y c z => ?_, fun x y c z1 z2 => (lk z1).1.trans (lk z2).1.symm, fun i y hi => ?_⟩
  · obtain ⟨_, rfl⟩ := lk z
    exact ⟨e.2, _, _, e.1, rfl⟩
  · match i, hi with
    | 0, hi =>
      have ey : ("__class__" : Str) = y := Option.some.inj hi
      subst ey
      refine ⟨cc, by simp [List.lookup], fun v hv => ?_⟩
      have ev : V.ref C = v := Option.some.inj (Option.some.inj hv)
      subst ev
      exact ⟨.ref C, rfl, _, e.1, rfl⟩
    | i + 1, hi => simp at hi

section
variable {P : Program} {w : World} {K : PySem.W.Frag} {mg : Str → Option Value} {base : Heap}
theorem ok_oom {f C cc cda : Addr} {fd : FuncData} (T : SupTxt P K mg "OutOfMemory.__init__" sOom C f cc cda fd) : FnOk P w K mg base CX0 1 f fd ["self", "length"] (spOom C) := by
  obtain ⟨oc, od, dV, kV, doc, pm, an, ct, osl, rfl, lk⟩ := T.fn
  obtain ⟨ccl, cdd, vsC, ccs, file, tf, lcode, hvs, hfile⟩ := T.code
  obtain ⟨cl, cld, csl, lcell⟩ := T.cell
  refine ⟨fun vs H Q E h => ?_, fun A outer s H args us vs Q E hr e0 hb r hsp => ?_⟩
  · obtain ⟨e, n, rfl, _⟩ := h
    rfl
  obtain ⟨e, n, rfl, he, hn, k⟩ := hsp
  have KX : K.In s.heap := e0.mod.kin.keeps fun b o q => (e0.bs b o q).1
  have lim : s.heap.NoLimit := e0.mod.nolimit.keeps fun b o q => (e0.bs b o q).1
  obtain ⟨u1, u2, rfl, r1, r2⟩ := vals2 r
  obtain rfl : u1 = Value.ref e := r1
  have S := scOom
  let F : NdefX.NF := ⟨"__init__", "OutOfMemory.__init__", defArgs sOom, defBody sOom, defScope sOom, [("__class__", cc)], cda⟩
  refine PySem.ks_codeAny_call_defAt (binds := (["self", "length"] : List Str).zip [Value.ref e, u2]) hr.depth (KX _ _ lk) rfl lim (PySem.W.codeRec_of KX T.hcd) rfl hb S.nocell (fun x hx => S.par _ (List.of_mem_zip (show (x.1, x.2) ∈ _ from hx)).1) (fun h₀ hns₀ hk₀ => ?_) S.co S.gen S.kind
  have I : Inv (NdefX.ncx CX0 P w K mg base ["self", "length", "__class__"] F f A outer s H E) [] (NdefX.startF ["self", "length", "__class__"] [.ref e, .int n] [some (.ref C)]) H { s with heap := h₀, toks := s.toks + ((["self", "length"] : List Str).zip [Value.ref e, u2]).length } :=
    NdefX.inv_startN S hr.hd e0 rfl (.cons rfl (.cons r2 .nil)) (cells_one e0.mod.kin e0.bs lcell) hns₀ hk₀
  -- what stands in the heap
  have KX0 : K.In h₀ := KX.keeps hk₀
  obtain ⟨t0, hoe⟩ := exo_at I.hok he
  obtain ⟨nm, q, N, bs, bm, sn, sub, ab, col, dd, k0, k1, k2, k3, k5, hC, hbm⟩ := T.ox.cls
  have hcl : PySem.W.clsIn K C = some { name := nm, bases := bs, mro := .ref C :: bm, ns := N, qualname := q, hasDict := true, slotNames := sn, subclasses := sub, abstract := ab, collection := col, hasDel := false } := by unfold PySem.W.clsIn; rw [hC] <;> rfl
  have J : PySem.W.InstAt h₀ e { cls := .ref C, dict := none, data := .fields #[.ref t0, .none, .none, .none, .bool false, .none] } C none := ⟨hoe, rfl, rfl, trivial⟩
  have neC : e ≠ C := PySem.W.ks_ne KX0 J hcl
  obtain ⟨mb, hmb1, hmb2⟩ := I.mod.blt
  -- super()
  refine PySem.ks_wpAt_execs_cons (PySem.ks_wpAt_Expr_any (PySem.ks_wpAt_MethodCall ?_))
  refine PySem.ks_wpAt_super_base (cc := cda) (f := f) rfl rfl rfl rfl (KX0 _ _ lk) rfl rfl rfl (KX0 _ _ lcode) rfl hvs hfile T.htop ?_
  refine PySem.W.ks_loadName_global rfl rfl (PySem.Calls.loadGlobal_builtin (I.mod.glob.keeps I.bk) T.sup (hmb1.keeps I.bk) ((hmb2 _ (by decide +kernel)).trans (show bootBuiltins "super" = some (.type "super") by kernel_rfl)) ⟨rfl, ?_⟩)
  refine wpAny_loadName_free rfl rfl rfl ⟨_, KX0 _ _ lcell, rfl⟩ ?_
  refine wpAny_loadName_local (v := .ref e) rfl rfl hns₀ (by first | rfl | with_unfolding_all rfl | kernel_rfl) ?_
  refine PySem.ks_wpAny_isType_cls (KX0 _ _ hC) rfl ⟨rfl, ?_⟩
  refine PySem.ks_wpAny_call_super (KX0 _ _ hC) rfl hoe rfl (fun c z => by cases z) (PySem.W.looks_mroIn KX0 T.hsub) (fun h1 e1 kk1 => ?_)
  -- .__init__
  have I1 := I.kept (h' := h1) (t' := s.toks + ((["self", "length"] : List Str).zip [Value.ref e, u2]).length) kk1
  have KX1 := KX0.keeps kk1
  refine PySem.W.kxs_getMethod PySem.W.kxs_ValueError e1 (PySem.W.looks_opaque KX1 T.any) (l₀ := .ref C :: bm) (fun A Q E s k q => wpAny_bind ((PySem.W.looks_clsIn KX1 hcl) A _ E s k (wpAny_pure q))) rfl KX1 ?_ ?_ neC (by decide) ?_
  · have z := T.hm
    unfold PySem.W.ks_superIn at z
    rw [hcl] at z
    exact z
  · have J1 : PySem.W.InstAt h1 e { cls := .ref C, dict := none, data := .fields #[.ref t0, .none, .none, .none, .bool false, .none] } C none := ⟨kk1 _ _ hoe, rfl, rfl, trivial⟩
    exact J1.type.andThen (PySem.W.looks_subIn KX1 T.hB)
  -- (f"no room for {length} cells")
  have I2 := pins_one (u := h1.objs.size) (o := PySem.W.kxs_mw "ValueError.__init__" e) (h' := h1.push (PySem.W.kxs_mw "ValueError.__init__" e)) (t' := s.toks + ((["self", "length"] : List Str).zip [Value.ref e, u2]).length + 1) I1
    (fun b o z => Heap.get?_push_of_some _ z) (Nat.le_refl _) (Heap.get?_push_at rfl rfl) (fun v z => by cases z)
  refine callWith_bwV (x := e) ?_
  refine thn ((pa_cons (X := NdefX.ncx CX0 P w K mg base ["self", "length", "__class__"] F f A outer s H E) (pe_joined (PJ.cons pe_str (PJ.cons (pe_fmt (pv 1)) (PJ.cons pe_str PJ.nil)))) pa_nil).run _ _ _ _ _ (fun vs H' => H' = H ∧ ∃ z : Str, vs = [.str z]) I2 ?_) fun us s3 h3 => ?_
  · have l3 := PyProof.Rows.int_text_len_1921 hn
    have l1 : (Str.empty ++ ("no room for " : Str)).length ≤ 100 := by decide +kernel
    have l2 : ((" cells" : Str)).length ≤ 100 := by decide +kernel
    have e1 := strLen_append (Str.empty ++ ("no room for " : Str)) (Str.ofString (toString n))
    have e2 := strLen_append ((Str.empty ++ ("no room for " : Str)) ++ Str.ofString (toString n)) (" cells" : Str)
    have b : (2121 : Nat) ≤ sizeLine := by decide
    refine ⟨_, rfl, Nat.le_trans l1 (Nat.le_trans (by decide) b), _, rfl, .inr ⟨n, rfl, hn, _, rfl, ?_, _, rfl, ?_, rfl, _, rfl⟩⟩
    · exact Nat.le_trans (by rw [e1]; omega) b
    · exact Nat.le_trans (by rw [e2, e1]; omega) b
  obtain ⟨vs, H3, I3, r3, rfl, z, rfl⟩ := h3
  have hu3 := (I3.pin _ (List.mem_append_right _ List.mem_cons_self)).1
  refine ⟨hu3, ?_⟩
  obtain ⟨t3, hoe3⟩ := exo_at I3.hok he
  obtain ⟨s3h, s3g, s3d, s3t, s3o⟩ := s3
  refine call_bwV (I3.kIn _ _ hC) hoe3 hu3 (by rw [← r3.length]; show 1 ≤ sizeLine; decide) (fun h4 t4 k4 e4 => ?_)
  have I4' := I3.write (t' := s3t) (x := e) (e := e) (o := exo e C none) (by rw [he]; exact True.intro) (.inl rfl) k4 ⟨_, e4⟩ (exo_ok e4)
  have eu : upd H3 e (exo e C none) = H3 := by
    funext b
    by_cases hb : b = e
    · rw [hb, upd_same, he]
    · rw [upd_ne hb]
  rw [eu] at I4'
  -- self.length = length
  refine PySem.wpAt_of_wpAny ?_
  refine wpAny_mono ((pss_one (X := NdefX.ncx CX0 P w K mg base ["self", "length", "__class__"] F f A outer s H3 E) (ps_ost (f := "length") (pv 0) (pv 1))).run _ _ _ _ { nx := fun _ H' => Q .non H', rt := Q } I4' ?_) (fun fl s5 hs => ?_) fun u s5 hs => hs
  · exact ⟨_, rfl, _, rfl, e, C, rfl, T.ox, T.nL, .inl ⟨he, fun dx ndx nde => k dx ndx nde⟩⟩
  have fin : ∀ {σ' : L2.St} {H' : Hp} {v : V} {u : Value} {pins : List (Addr × Obj)}, Inv (NdefX.ncx CX0 P w K mg base ["self", "length", "__class__"] F f A outer s H3 E) pins σ' H' s5 → L2.RelV v u → Q v H' → CE outer P w H3 s Q u s5 :=
    fun {σ' H' v u _} J rv q => ⟨v, H', J.os, J.bare, J.base, J.hok, rv, q⟩
  cases fl with
  | ret u =>
    obtain ⟨v, σ', H', J, rv, q⟩ := hs
    exact fin J rv q
  | next =>
    obtain ⟨σ', H', J, q⟩ := hs
    exact fin (v := V.non) (u := Value.none) J rfl q
  | brk =>
    obtain ⟨_, _, _, q⟩ := hs
    exact False.elim q
  | cont =>
    obtain ⟨_, _, _, q⟩ := hs
    exact False.elim q
end
end K23
/-! K23Base: the text by places, the memory as an object, lists of pairs, the promises. -/
namespace K23
open PySem L2
abbrev sInit : Stmt := inClass (top 9) 0
abbrev sPut : Stmt := inClass (top 9) 1
abbrev sWide : Stmt := inClass (top 9) 2
abbrev sUsed : Stmt := inClass (top 9) 3
abbrev sFree : Stmt := inClass (top 9) 4
abbrev sChoose : Stmt := inClass (top 9) 5
abbrev sBefore : Stmt := inClass (top 9) 6
abbrev sLink : Stmt := inClass (top 9) 7
abbrev sAlloc : Stmt := inClass (top 9) 8
abbrev sAreas : Stmt := inClass (top 9) 9
abbrev sFind : Stmt := inClass (top 9) 10
abbrev sRel : Stmt := inClass (top 9) 11
abbrev sLay : Stmt := inClass (top 9) 15
abbrev sGaps : Stmt := top 11
abbrev sPlace : Stmt := top 15
abbrev sCell : Stmt := top 17
abbrev sDigits : Stmt := top 18
abbrev sDraw : Stmt := top 19
abbrev sReq : Stmt := top 25
abbrev sPiece : Stmt := top 26
abbrev sLaw : Stmt := top 27

/-! ### the memory's attributes -/
def fl (n : Int) (pol : Str) (wl : Addr) (hd : Int) : List (Str × V) := [("size", .int n), ("policy", .str pol), ("words", .ref wl), ("head", .int hd)]
theorem lk_eq {f : Str} {v : V} {r : List (Str × V)} : List.lookup f ((f, v) :: r) = some v := by
  simp [List.lookup]
theorem lk_ne {f g : Str} {v : V} {r : List (Str × V)} (h : ¬ g = f) : List.lookup g ((f, v) :: r) = List.lookup g r := by
  have e : (g == f) = false := by simpa using h
  simp [List.lookup, e]
section
variable (n : Int) (pol : Str) (wl : Addr) (hd : Int)
theorem fl_size : (fl n pol wl hd).lookup ("size" : Str) = some (.int n) := lk_eq
theorem fl_policy : (fl n pol wl hd).lookup ("policy" : Str) = some (.str pol) := (lk_ne (by decide +kernel)).trans lk_eq
theorem fl_words : (fl n pol wl hd).lookup ("words" : Str) = some (.ref wl) := (lk_ne (by decide +kernel)).trans ((lk_ne (by decide +kernel)).trans lk_eq)
theorem fl_head : (fl n pol wl hd).lookup ("head" : Str) = some (.int hd) := (lk_ne (by decide +kernel)).trans ((lk_ne (by decide +kernel)).trans ((lk_ne (by decide +kernel)).trans lk_eq))
theorem fl_no {m : Str} (h1 : ¬ m = "size") (h2 : ¬ m = "policy") (h3 : ¬ m = "words") (h4 : ¬ m = "head") : (fl n pol wl hd).lookup m = none :=
  (lk_ne h1).trans ((lk_ne h2).trans ((lk_ne h3).trans (lk_ne h4)))
theorem pf_ne {f g : Str} {v x : V} {r : List (Str × V)} (h : ¬ g = f) : putF f v ((g, x) :: r) = (g, x) :: putF f v r := if_neg h
theorem pf_eq {f : Str} {v x : V} {r : List (Str × V)} : putF f v ((f, x) :: r) = (f, v) :: r := if_pos rfl
theorem fl_put (hd' : Int) : putF "head" (.int hd') (fl n pol wl hd) = fl n pol wl hd' := by
  unfold fl
  rw [pf_ne (by decide +kernel), pf_ne (by decide +kernel), pf_ne (by decide +kernel), pf_eq]
theorem fl_made : putF "head" (.int hd) (putF "words" (.ref wl) (putF "policy" (.str pol) (putF "size" (.int n) []))) = fl n pol wl hd := by
  have a1 : putF "policy" (.str pol) (putF "size" (.int n) []) = [(("size" : Str), V.int n), (("policy" : Str), V.str pol)] := pf_ne (by decide +kernel)
  have a2 : putF "words" (.ref wl) [(("size" : Str), V.int n), (("policy" : Str), V.str pol)] = [(("size" : Str), V.int n), (("policy" : Str), V.str pol), (("words" : Str), V.ref wl)] :=
    (pf_ne (by decide +kernel)).trans (congrArg (_ :: ·) (pf_ne (by decide +kernel)))
  have a3 : putF "head" (.int hd) [(("size" : Str), V.int n), (("policy" : Str), V.str pol), (("words" : Str), V.ref wl)] = [(("size" : Str), V.int n), (("policy" : Str), V.str pol), (("words" : Str), V.ref wl), (("head" : Str), V.int hd)] :=
    (pf_ne (by decide +kernel)).trans (congrArg (_ :: ·) ((pf_ne (by decide +kernel)).trans (congrArg (_ :: ·) (pf_ne (by decide +kernel)))))
  rw [a1, a2, a3]
  rfl
end
theorem fl_len (n : Int) (pol : Str) (wl : Addr) (hd : Int) : (fl n pol wl hd).length < 1000 := by
  show 4 < 1000
  decide
/-- the memory stands at x, its words at wl -/
structure MemAt (C : Addr) (H : Hp) (x wl : Addr) (n : Int) (pol : Str) (ws : List Int) (hd : Int) : Prop where
  ob : ∃ dx, H x = some (.ins C dx (fl n pol wl hd))
  wo : H wl = some (.lst (ws.map V.int))
section
variable {C x wl : Addr} {H H' : Hp} {n hd : Int} {pol : Str} {ws : List Int}
theorem MemAt.ne (M : MemAt C H x wl n pol ws hd) : x ≠ wl := by
  obtain ⟨⟨dx, h⟩, h2⟩ := M
  exact ne_of h h2 (by intro q; cases q)
theorem MemAt.same (M : MemAt C H x wl n pol ws hd) (s : Same H H') : MemAt C H' x wl n pol ws hd := by
  obtain ⟨⟨dx, h⟩, h2⟩ := M
  exact ⟨⟨dx, s _ _ h⟩, s _ _ h2⟩
end
/-- all but the memory is as it was -/
def But (x wl : Addr) (H H' : Hp) : Prop := ∀ b o, H b = some o → b ≠ x → b ≠ wl → H' b = some o
theorem But.of {x wl : Addr} {H H' : Hp} (s : Same H H') : But x wl H H' := fun b o h _ _ => s b o h
theorem But.trans {x wl : Addr} {H H1 H2 : Hp} (a : But x wl H H1) (b : But x wl H1 H2) : But x wl H H2 := fun c o h h1 h2 => b c o (a c o h h1 h2) h1 h2
theorem But.upd {x wl : Addr} {H : Hp} {o : HO} : But x wl H (upd H wl o) := fun b u h _ h2 => by rw [upd_ne h2]; exact h
theorem but_x {x wl : Addr} {H : Hp} {o : HO} : But x wl H (L2.upd H x o) := fun b u h h1 _ => by rw [upd_ne h1]; exact h
/-- words[i] = v -/
theorem set_at {ws : List Int} {i : Int} (h0 : 0 ≤ i) (h1 : i < (ws.length : Int)) : ixN (ws.map V.int).length i = some i.toNat := by
  unfold ixN
  rw [List.length_map, if_pos h0, if_pos h1]
theorem set_map (ws : List Int) (i v : Int) : (ws.map V.int).set i.toNat (.int v) = (wr ws i v).map V.int := by
  unfold wr
  rw [List.map_set]
theorem get_at {ws : List Int} {i : Int} (h0 : 0 ≤ i) (h1 : i < (ws.length : Int)) : atI (ws.map V.int) i = some (.int (rd ws i)) := by
  unfold atI
  rw [set_at h0 h1]
  show (ws.map V.int)[i.toNat]? = _
  rw [List.getElem?_map, rd_at h0 h1]
  rfl
/-- behind a write of the words -/
theorem MemAt.wrt {C x wl : Addr} {H : Hp} {n hd : Int} {pol : Str} {ws : List Int} (M : MemAt C H x wl n pol ws hd) (ws' : List Int) : MemAt C (upd H wl (.lst (ws'.map V.int))) x wl n pol ws' hd := by
  obtain ⟨⟨dx, h⟩, h2⟩ := id M
  exact ⟨⟨dx, by rw [upd_ne M.ne]; exact h⟩, upd_same⟩

/-! ### lists of pairs -/
def P2 (H : Hp) (v : V) (p : Int × Int) : Prop := ∃ t, v = .ref t ∧ H t = some (.tup [.int p.1, .int p.2])
def P3 (H : Hp) (v : V) (a : Area) : Prop := ∃ t, v = .ref t ∧ H t = some (.tup [.int a.s, .int a.w, .bl a.u])
theorem P2.same {H H' : Hp} {v : V} {p : Int × Int} (h : P2 H v p) (s : Same H H') : P2 H' v p := by
  obtain ⟨t, e, q⟩ := h
  exact ⟨t, e, s _ _ q⟩
theorem P3.same {H H' : Hp} {v : V} {p : Area} (h : P3 H v p) (s : Same H H') : P3 H' v p := by
  obtain ⟨t, e, q⟩ := h
  exact ⟨t, e, s _ _ q⟩
theorem ps_same {H H' : Hp} {vs : List V} {ps : List (Int × Int)} (h : Paired (P2 H) vs ps) (s : Same H H') : Paired (P2 H') vs ps := Paired.mapP h fun _ _ q => q.same s
theorem ps_same3 {H H' : Hp} {vs : List V} {ps : List Area} (h : Paired (P3 H) vs ps) (s : Same H H') : Paired (P3 H') vs ps := Paired.mapP h fun _ _ q => q.same s
theorem P2.but {H H' : Hp} {x wl C dx : Addr} {fs : List (Str × V)} {xs : List V} {v : V} {p : Int × Int} (h : P2 H v p) (s : But x wl H H') (hx : H x = some (.ins C dx fs)) (hw : H wl = some (.lst xs)) : P2 H' v p := by
  obtain ⟨t, e, q⟩ := h
  exact ⟨t, e, s _ _ q (ne_of q hx (by intro z; cases z)) (ne_of q hw (by intro z; cases z))⟩
theorem ps_but {C x wl : Addr} {H H' : Hp} {n hd : Int} {pol : Str} {ws : List Int} {vs : List V} {ps : List (Int × Int)} (M : MemAt C H x wl n pol ws hd) (h : Paired (P2 H) vs ps) (s : But x wl H H') : Paired (P2 H') vs ps := by
  obtain ⟨⟨dx, hx⟩, hw⟩ := M
  exact Paired.mapP h fun _ _ q => q.but s hx hw
theorem pa_get {α β : Type} {R : α → β → Prop} : ∀ {xs : List α} {ys : List β} {i : Nat} {x : α}, Paired R xs ys → xs[i]? = some x → ∃ y, ys[i]? = some y ∧ R x y
  | _, _, _, _, .nil, e => by simp at e
  | _, _, 0, _, .cons r _, e => by
    have e' := Option.some.inj e
    subst e'
    exact ⟨_, rfl, r⟩
  | _, _, i + 1, x, .cons _ t, e => by
    obtain ⟨y, h1, h2⟩ := pa_get (i := i) (x := x) t (by simpa using e)
    exact ⟨y, by simpa using h1, h2⟩
theorem take_snoc {α : Type} {l : List α} {i : Nat} {x : α} (h : l[i]? = some x) : l.take (i + 1) = l.take i ++ [x] := by
  rw [List.take_add_one, h]
  rfl
theorem take_all {α : Type} (l : List α) : l.take l.length = l := List.take_length
theorem paired_len {α β : Type} {R : α → β → Prop} {xs : List α} {ys : List β} (h : Paired R xs ys) : xs.length = ys.length := Paired.length h

/-! ### the promises -/
/-- the policy's two bits -/
def pbOf (pol : Str) : Bool := decide (V.str pol = V.str "best")
def pwOf (pol : Str) : Bool := decide (V.str pol = V.str "worst")
def spPut (C : Addr) : Sp := fun vs H Q _ => ∃ (x wl : Addr) (n : Int) (pol : Str) (ws : List Int) (hd a w : Int) (u : Bool), vs = [.ref x, .int a, .int w, .bl u] ∧ MemAt C H x wl n pol ws hd ∧ 0 ≤ a ∧ 1 ≤ w ∧ a + w ≤ (ws.length : Int) ∧
  Q .non (upd H wl (.lst ((putTags ws a w u).map V.int)))
def spWide (C : Addr) : Sp := fun vs H Q _ => ∃ (x wl : Addr) (n : Int) (pol : Str) (ws : List Int) (hd s : Int), vs = [.ref x, .int s] ∧ MemAt C H x wl n pol ws hd ∧ 0 ≤ s ∧ s < (ws.length : Int) ∧ Q (.int ((rd ws s).fdiv 2)) H
def spUsed (C : Addr) : Sp := fun vs H Q _ => ∃ (x wl : Addr) (n : Int) (pol : Str) (ws : List Int) (hd s : Int), vs = [.ref x, .int s] ∧ MemAt C H x wl n pol ws hd ∧ 0 ≤ s ∧ s < (ws.length : Int) ∧ Q (.bl ((rd ws s).fmod 2 == 1)) H
def spFree (C : Addr) : Sp := fun vs H Q _ => ∃ (x wl : Addr) (n : Int) (pol : Str) (ws : List Int) (hd : Int) (ps : List (Int × Int)), vs = [.ref x] ∧ MemAt C H x wl n pol ws hd ∧ FL ws hd ps ∧ ps.length ≤ 1000 ∧
  ∀ (H' : Hp) (l : Addr) (ts : List V), Same H H' → H l = none → H' l = some (.lst ts) → Paired (P2 H') ts ps → Q (.ref l) H'
def spChoose (C : Addr) : Sp := fun vs H Q _ => ∃ (x wl : Addr) (n : Int) (pol : Str) (ws : List Int) (hd need : Int) (ps : List (Int × Int)), vs = [.ref x, .int need] ∧ MemAt C H x wl n pol ws hd ∧ FL ws hd ps ∧ ps.length ≤ 1000 ∧
  (pick (pbOf pol) (pwOf pol) need ps = none → ∀ H' : Hp, Same H H' → Q .non H') ∧
  (∀ p, pick (pbOf pol) (pwOf pol) need ps = some p → ∀ (H' : Hp) (v : V), Same H H' → P2 H' v p → Q v H')
def spBefore (C : Addr) : Sp := fun vs H Q _ => ∃ (x wl : Addr) (n : Int) (pol : Str) (ws : List Int) (hd s : Int) (ps : List (Int × Int)), vs = [.ref x, .int s] ∧ MemAt C H x wl n pol ws hd ∧ FL ws hd ps ∧ ps.length ≤ 1000 ∧
  ∀ H' : Hp, Same H H' → Q (.int (beforeF ps s)) H'
def spLink (C : Addr) : Sp := fun vs H Q _ => ∃ (x wl : Addr) (n : Int) (pol : Str) (ws : List Int) (hd b v : Int), vs = [.ref x, .int b, .int v] ∧ MemAt C H x wl n pol ws hd ∧ (b = -1 ∨ 0 ≤ b + 1 ∧ b + 1 < (ws.length : Int)) ∧
  ∀ H' : Hp, MemAt C H' x wl n pol (linkW ws b v) (linkH hd b v) → But x wl H H' → Q .non H'
def spAlloc (C Co : Addr) : Sp := fun vs H Q E => ∃ (x wl : Addr) (n : Int) (pol : Str) (ws : List Int) (hd len : Int) (as : List Area), vs = [.ref x, .int len] ∧ MemAt C H x wl n pol ws hd ∧ Mem ws hd n as ∧ n ≤ 1000 ∧ 1 ≤ len ∧ len ≤ 1000 ∧
  (pick (pbOf pol) (pwOf pol) (len + 2) (freeOf as) = none → ∀ (H' : Hp) (d : Addr) (fs : List (Str × V)), Same H H' → H' d = some (.xd fs) → E (.ref Co) (some d) H') ∧
  (∀ s w, pick (pbOf pol) (pwOf pol) (len + 2) (freeOf as) = some (s, w) → ∀ H' : Hp,
    MemAt C H' x wl n pol (allocW ws (beforeF (freeOf as) s) s w (len + 2) (rd ws (s + 1))) (allocH hd (beforeF (freeOf as) s) s w (len + 2) (rd ws (s + 1))) → But x wl H H' → Q (.int s) H')
def spAreas (C : Addr) : Sp := fun vs H Q _ => ∃ (x wl : Addr) (n : Int) (pol : Str) (ws : List Int) (hd : Int) (as : List Area), vs = [.ref x] ∧ MemAt C H x wl n pol ws hd ∧ Mem ws hd n as ∧ n ≤ 1000 ∧
  ∀ (H' : Hp) (l : Addr) (ts : List V), Same H H' → H l = none → H' l = some (.lst ts) → Paired (P3 H') ts as → Q (.ref l) H'
def spFind (C : Addr) : Sp := fun vs H Q _ => ∃ (x wl : Addr) (n : Int) (pol : Str) (ws : List Int) (hd : Int) (pre : List Area) (y : Area) (post : List Area), vs = [.ref x, .int y.s] ∧ MemAt C H x wl n pol ws hd ∧ Mem ws hd n (pre ++ y :: post) ∧ y.u = true ∧ n ≤ 1000 ∧
  ∀ H' : Hp, Same H H' → Q (.int y.w) H'
def spRel (C : Addr) : Sp := fun vs H Q _ => ∃ (x wl : Addr) (n : Int) (pol : Str) (ws : List Int) (hd : Int) (pre : List Area) (y : Area) (post : List Area), vs = [.ref x, .int y.s] ∧ MemAt C H x wl n pol ws hd ∧ Mem ws hd n (pre ++ y :: post) ∧ y.u = true ∧ n ≤ 1000 ∧
  ∀ (H' : Hp) (ws' : List Int) (hd' : Int) (as' : List Area), MemAt C H' x wl n pol ws' hd' → Mem ws' hd' n as' → usedOf as' = usedOf pre ++ usedOf post → But x wl H H' → Q .non H'
def spLay (C : Addr) : Sp := fun vs H Q _ => ∃ (x wl : Addr) (n : Int) (pol : Str) (ws : List Int) (hd : Int) (as : List Area), vs = [.ref x] ∧ MemAt C H x wl n pol ws hd ∧ Mem ws hd n as ∧ n ≤ 1000 ∧
  ∀ (H' : Hp) (l : Addr) (ts : List V), Same H H' → H l = none → H' l = some (.lst ts) → Paired (P2 H') ts (usedOf as) → Q (.ref l) H'
def spInit (C : Addr) : Sp := fun vs H Q _ => ∃ (x dx : Addr) (n : Int) (pol : Str), vs = [.ref x, .int n, .str pol] ∧ H x = some (.ins C dx []) ∧ 3 ≤ n ∧ n ≤ 1000 ∧
  ∀ (H' : Hp) (wl : Addr), MemAt C H' x wl n pol (wr (putTags (List.replicate n.toNat 0) 0 n false) 1 (-1)) 0 → H wl = none → (∀ b o, H b = some o → b ≠ x → H' b = some o) → Q .non H'
def spGaps (K : PySem.W.Frag) : Sp := fun vs H Q _ => ∃ (n : Int) (a : Addr) (ts : List V) (ps : List (Int × Int)), vs = [.int n, .ref a] ∧ SqL K H a ts ∧ Paired (P2 H) ts ps ∧ ps.length ≤ 1000 ∧
  ∀ (H' : Hp) (l : Addr) (us : List V), Same H H' → H l = none → H' l = some (.lst us) → Paired (P2 H') us (gapsGo n ps 0) → Q (.ref l) H'
def spPlace (K : PySem.W.Frag) : Sp := fun vs H Q _ => ∃ (n : Int) (a : Addr) (need : Int) (pol : Str) (ts : List V) (ps : List (Int × Int)), vs = [.int n, .ref a, .int need, .str pol, .int 0] ∧ SqL K H a ts ∧ Paired (P2 H) ts ps ∧ ps.length ≤ 1000 ∧ decide (V.str pol = V.str "next") = false ∧
  (pick (pbOf pol) (pwOf pol) need (gapsGo n ps 0) = none → ∀ H' : Hp, Same H H' → Q .non H') ∧
  (∀ s w, pick (pbOf pol) (pwOf pol) need (gapsGo n ps 0) = some (s, w) → ∀ H' : Hp, Same H H' → Q (.int s) H')
def spCell (K : PySem.W.Frag) : Sp := fun vs H Q _ => ∃ (a : Addr) (ns : List Int) (k : Int), vs = [.ref a, .int k] ∧ SqL K H a (ns.map V.int) ∧ 0 ≤ k ∧ ∀ z : Int, Q (.int z) H
def spDigits (K : PySem.W.Frag) : Sp := fun vs H Q _ => ∃ (a : Addr) (ns : List Int), vs = [.ref a, .int 0, .int 63] ∧ SqL K H a (ns.map V.int) ∧
  ∀ (H' : Hp) (l : Addr) (ds : List Int), Same H H' → H l = none → H' l = some (.lst (ds.map V.int)) → Q (.ref l) H'
def spDraw : Sp := fun vs H Q _ => ∃ (b dl : Addr) (ds : List Int) (at_ many : Int), vs = [.ref b, .int many] ∧ H b = some (.lst [.ref dl, .int at_]) ∧ H dl = some (.lst (ds.map V.int)) ∧ 0 ≤ at_ ∧ 0 < many ∧
  ∀ v : Int, 0 ≤ v → v < many → Q (.int v) (upd H b (.lst [.ref dl, .int (at_ + 1)]))
def spReq (C : Addr) : Sp := fun vs H Q _ => ∃ (x wl : Addr) (n : Int) (pol : Str) (ws : List Int) (hd len : Int) (as : List Area), vs = [.ref x, .int len] ∧ MemAt C H x wl n pol ws hd ∧ Mem ws hd n as ∧ n ≤ 1000 ∧ 1 ≤ len ∧ len ≤ 1000 ∧
  (pick (pbOf pol) (pwOf pol) (len + 2) (freeOf as) = none → ∀ H' : Hp, Same H H' → Q .non H') ∧
  (∀ s w, pick (pbOf pol) (pwOf pol) (len + 2) (freeOf as) = some (s, w) → ∀ H' : Hp,
    MemAt C H' x wl n pol (allocW ws (beforeF (freeOf as) s) s w (len + 2) (rd ws (s + 1))) (allocH hd (beforeF (freeOf as) s) s w (len + 2) (rd ws (s + 1))) → But x wl H H' → Q (.int s) H')
def spPiece (K : PySem.W.Frag) : Sp := fun vs H Q _ => ∃ (n : Int) (a : Addr) (ts : List V) (ps : List (Int × Int)), vs = [.int n, .ref a] ∧ SqL K H a ts ∧ Paired (P2 H) ts ps ∧ ps.length ≤ 1000 ∧
  ∀ (H' : Hp) (sl : List (Int × Int)), Same H H' → sl.Perm ps → sl.Pairwise Lx → Q (.bl (pieceGo (sl ++ [(n, 0)]) 0)) H'
def spLaw (K : PySem.W.Frag) : Sp := fun vs H Q _ => ∃ (a : Addr) (ns : List Int), vs = [.ref a] ∧ SqL K H a (ns.map V.int) ∧ ns.length ≤ 63 ∧ ∀ H', Q (.bl true) H'
/-- what the walk asks of the class Tagged, of the constants and of the built-ins, as the top has left them -/
structure Txt (K : PySem.W.Frag) (mg : Str → Option Value) (C : Addr) : Prop where
  cl : Cls K C
  nSi : NoAttr K C "size"
  nPo : NoAttr K C "policy"
  nWo : NoAttr K C "words"
  nHe : NoAttr K C "head"
  mgC : mg "Tagged" = some (.ref C)
  tags : ∃ t, mg "TAGS" = some (.int 2 t)
  least : ∃ t, mg "LEAST" = some (.int 3 t)
  none_ : ∃ t, mg "NONE" = some (.int (-1) t)
  len : mg "len" = none
  range : mg "range" = none
  max : mg "max" = none
  sorted : mg "sorted" = none
  int_ : mg "int" = none
  isi : mg "isinstance" = none
end K23
/-! K23W1: wide, is_used, put_tags, link, free_list, areas. -/
namespace K23
open PySem L2
theorem same_new {H H' : Hp} {l : Addr} {o : HO} (s : Same H H') (hl : H l = none) : Same H (upd H' l o) := fun b u e => by rw [upd_ne (ne_of_none e hl)]; exact s b u e
theorem same_upd {H : Hp} {l : Addr} {o : HO} (hl : H l = none) : Same H (upd H l o) := same_new (Same.refl H) hl
section
variable {P : Program} {w : World} {K : PySem.W.Frag} {mg : Str → Option Value} {base : Heap}
theorem scWide : FnScope ["self", "start"] ["self", "start"] (defScope sWide) := ⟨rfl, rfl, rfl, by decide +kernel, rfl, by decide +kernel, by decide +kernel⟩
theorem ok_wide {f C : Addr} {fd : FuncData} (F : Fun K "wide" "Tagged.wide" sWide f fd) (T : Txt K mg C) : FnOk P w K mg base CX0 1 f fd ["self", "start"] (spWide C) := by
  refine F.ok scWide (fun vs H Q E h => ?_) (fun cdv A outer s H vs Q E hr h => ?_)
  · obtain ⟨x, wl, n, pol, ws, hd, s, rfl, _⟩ := h
    rfl
  · obtain ⟨x, wl, n, pol, ws, hd, a, rfl, M, h0, h1, k⟩ := h
    obtain ⟨⟨dx, hx⟩, hw⟩ := id M
    refine ⟨_, pss_one (ps_ret (pe_op op_fdivN (pe_ix ix_list (pe_fld (pv 0) rfl) (pv 1) (fun _ _ => rfl)) pe_int)), ?_⟩
    exact ⟨_, rfl, x, C, dx, _, _, rfl, hx, T.cl, T.nWo, fl_words _ _ _ _, _, rfl, wl, _, _, _, rfl, rfl, SqL.of hw, get_at h0 h1, _, _, rfl, rfl, ⟨by decide, by decide⟩, k⟩
theorem scUsed : FnScope ["self", "start"] ["self", "start"] (defScope sUsed) := ⟨rfl, rfl, rfl, by decide +kernel, rfl, by decide +kernel, by decide +kernel⟩
theorem ok_used {f C : Addr} {fd : FuncData} (F : Fun K "is_used" "Tagged.is_used" sUsed f fd) (T : Txt K mg C) : FnOk P w K mg base CX0 1 f fd ["self", "start"] (spUsed C) := by
  refine F.ok scUsed (fun vs H Q E h => ?_) (fun cdv A outer s H vs Q E hr h => ?_)
  · obtain ⟨x, wl, n, pol, ws, hd, s, rfl, _⟩ := h
    rfl
  · obtain ⟨x, wl, n, pol, ws, hd, a, rfl, M, h0, h1, k⟩ := h
    obtain ⟨⟨dx, hx⟩, hw⟩ := id M
    refine ⟨_, pss_one (ps_ret (pe_cmpR op_eq (pe_op op_modN (pe_ix ix_list (pe_fld (pv 0) rfl) (pv 1) (fun _ _ => rfl)) pe_int) pe_int (nomark _))), ?_⟩
    refine ⟨_, rfl, x, C, dx, _, _, rfl, hx, T.cl, T.nWo, fl_words _ _ _ _, _, rfl, wl, _, _, _, rfl, rfl, SqL.of hw, get_at h0 h1, _, _, rfl, rfl, (by show (2 : Int) ≠ 0; decide), rfl, ?_⟩
    show Q (V.bl (decide (V.int ((rd ws a).fmod 2) = V.int 1))) H
    rw [dec_int]
    exact k
theorem scPut : FnScope ["self", "start", "wide", "used", "tag"] ["self", "start", "wide", "used"] (defScope sPut) := ⟨rfl, rfl, rfl, by decide +kernel, rfl, by decide +kernel, by decide +kernel⟩
theorem ok_put {f C : Addr} {fd : FuncData} (F : Fun K "put_tags" "Tagged.put_tags" sPut f fd) (T : Txt K mg C) : FnOk P w K mg base CX0 1 f fd ["self", "start", "wide", "used"] (spPut C) := by
  refine F.ok scPut (fun vs H Q E h => ?_) (fun cdv A outer s H vs Q E hr h => ?_)
  · obtain ⟨x, wl, n, pol, ws, hd, a, b, u, rfl, _⟩ := h
    rfl
  · obtain ⟨x, wl, n, pol, ws, hd, a, b, u, rfl, M, h0, h1, h2, k⟩ := h
    obtain ⟨⟨dx, hx⟩, hw⟩ := id M
    refine ⟨_, pss_cons (ps_set (i := 4) scPut.nd rfl (Or.inl rfl) (pe_op op_mul pe_int (pv 2)))
      (pss_cons (ps_if (pt_val (pv 3)) (pss_one (ps_aug (i := 4) scPut.nd rfl (Or.inl rfl) pe_int ip_add)) pss_nil)
      (pss_cons (ps_asg (pv 4) (pg_sub (pe_fld (pv 0) rfl) (pv 1) set_list))
      (pss_one (ps_asg (pv 4) (pg_sub (pe_fld (pv 0) rfl) (pe_op op_sub (pe_op op_add (pv 1) (pv 2)) pe_int) set_list))))), ?_⟩
    have M1 := M.wrt (wr ws a (tag b u))
    obtain ⟨⟨dx1, hx1⟩, hw1⟩ := id M1
    have e1 : upd H wl (.lst ((ws.map V.int).set a.toNat (.int (tag b u)))) = upd H wl (.lst ((wr ws a (tag b u)).map V.int)) := by rw [set_map]
    have e2 : upd (upd H wl (.lst ((wr ws a (tag b u)).map V.int))) wl (.lst (((wr ws a (tag b u)).map V.int).set (a + b - 1).toNat (.int (tag b u)))) = upd H wl (.lst ((putTags ws a b u).map V.int)) := by
      rw [upd_upd, set_map]
      rfl
    have hl := wr_len ws a (tag b u)
    refine ⟨_, rfl, _, _, rfl, rfl, .inl ⟨by decide, by decide⟩, _, rfl, _, rfl, ?_⟩
    cases u with
    | true =>
      refine iteT ⟨_, rfl, _, _, rfl, rfl, _, rfl, _, rfl, x, C, dx, _, _, rfl, hx, T.cl, T.nWo, fl_words _ _ _ _, _, rfl, wl, _, _, _, rfl, rfl, hw, set_at h0 (by omega), ?_⟩
      have e1' : upd H wl (.lst ((ws.map V.int).set a.toNat (.int (2 * b + 1)))) = upd H wl (.lst ((wr ws a (tag b true)).map V.int)) := e1
      rw [e1']
      refine ⟨_, rfl, _, rfl, x, C, dx1, _, _, rfl, hx1, T.cl, T.nWo, fl_words _ _ _ _, _, rfl, _, rfl, _, _, rfl, rfl, _, _, rfl, rfl, wl, _, _, _, rfl, rfl, hw1, set_at (by omega) (by omega), ?_⟩
      exact Eq.mpr (congrArg (Q V.non) e2) k
    | false =>
      refine iteF ⟨_, rfl, _, rfl, x, C, dx, _, _, rfl, hx, T.cl, T.nWo, fl_words _ _ _ _, _, rfl, wl, _, _, _, rfl, rfl, hw, set_at h0 (by omega), ?_⟩
      have et : tag b false = 2 * b := Int.add_zero _
      rw [et] at e1 e2
      have e1' : upd H wl (.lst ((ws.map V.int).set a.toNat (.int (2 * b)))) = upd H wl (.lst ((wr ws a (tag b false)).map V.int)) := by rw [et]; exact e1
      rw [e1']
      refine ⟨_, rfl, _, rfl, x, C, dx1, _, _, rfl, hx1, T.cl, T.nWo, fl_words _ _ _ _, _, rfl, _, rfl, _, _, rfl, rfl, _, _, rfl, rfl, wl, _, _, _, rfl, rfl, hw1, set_at (by omega) (by omega), ?_⟩
      rw [et]
      exact Eq.mpr (congrArg (Q V.non) e2) k
theorem scLink : FnScope ["self", "before", "start"] ["self", "before", "start"] (defScope sLink) := ⟨rfl, rfl, rfl, by decide +kernel, rfl, by decide +kernel, by decide +kernel⟩
theorem ok_link {f C : Addr} {fd : FuncData} (F : Fun K "link" "Tagged.link" sLink f fd) (T : Txt K mg C) : FnOk P w K mg base CX0 1 f fd ["self", "before", "start"] (spLink C) := by
  refine F.ok scLink (fun vs H Q E h => ?_) (fun cdv A outer s H vs Q E hr h => ?_)
  · obtain ⟨x, wl, n, pol, ws, hd, b, v, rfl, _⟩ := h
    rfl
  · obtain ⟨x, wl, n, pol, ws, hd, b, v, rfl, M, hb, k⟩ := h
    obtain ⟨⟨dx, hx⟩, hw⟩ := id M
    obtain ⟨tN, mN⟩ := T.none_
    refine ⟨_, pss_one (ps_if (pt_cmpR op_eq (pv 1) (pe_glob (v := .int (-1)) rfl mN ⟨_, rfl⟩) (nomark _)) (pss_one (ps_fld (pv 0) (pv 2) rfl))
      (pss_one (ps_asg (pv 2) (pg_sub (pe_fld (pv 0) rfl) (pe_op op_add (pv 1) pe_int) set_list)))), ?_⟩
    refine ⟨_, rfl, rfl, _, rfl, ?_⟩
    rw [dec_int]
    by_cases e : b = -1
    · subst e
      refine iteT ⟨_, rfl, _, rfl, x, C, dx, _, rfl, hx, T.cl, T.nHe, fl_len _ _ _ _, ?_⟩
      refine k _ ⟨⟨dx, ?_⟩, ?_⟩ but_x
      · rw [upd_same, fl_put]
        rfl
      · rw [upd_ne M.ne.symm]
        exact hw
    · have e' : (b == -1) = false := by simpa using e
      rw [e']
      have hb' : 0 ≤ b + 1 ∧ b + 1 < (ws.length : Int) := hb.resolve_left e
      refine iteF ⟨_, rfl, _, rfl, x, C, dx, _, _, rfl, hx, T.cl, T.nWo, fl_words _ _ _ _, _, rfl, _, _, rfl, rfl, wl, _, _, _, rfl, rfl, hw, set_at hb'.1 hb'.2, ?_⟩
      rw [set_map]
      have M1 := M.wrt (wr ws (b + 1) v)
      refine k _ ?_ But.upd
      have e1 : linkW ws b v = wr ws (b + 1) v := if_neg e
      have e2 : linkH hd b v = hd := if_neg e
      rw [e1, e2]
      exact M1
theorem scFree : FnScope ["self", "found", "start"] ["self"] (defScope sFree) := ⟨rfl, rfl, rfl, by decide +kernel, rfl, by decide +kernel, by decide +kernel⟩
theorem ok_free {f fW C : Addr} {fd fdW : FuncData} (F : Fun K "free_list" "Tagged.free_list" sFree f fd) (T : Txt K mg C) (FW : Fun K "wide" "Tagged.wide" sWide fW fdW) (bW : Binds K fdW ["self", "start"] []) (mW : Meth K C "wide" fW) :
    FnOk P w K mg base CX0 2 f fd ["self"] (spFree C) := by
  have GW : FnOk P w K mg base CX0 1 fW fdW ["self", "start"] (spWide C) := ok_wide FW T
  refine F.ok scFree (fun vs H Q E h => ?_) (fun cdv A outer s H vs Q E hr h => ?_)
  · obtain ⟨x, wl, n, pol, ws, hd, ps, rfl, _⟩ := h
    rfl
  · obtain ⟨x, wl, n, pol, ws, hd, ps, rfl, M, hF, hlen, k⟩ := h
    obtain ⟨⟨dx, hx⟩, hw⟩ := id M
    obtain ⟨tN, mN⟩ := T.none_
    refine ⟨_, pss_cons (ps_set (i := 1) scFree.nd rfl (Or.inl rfl) (pe_lst pa_nil)) (pss_cons (ps_set (i := 2) scFree.nd rfl (Or.inl rfl) (pe_fld (pv 0) rfl))
      (pss_cons (ps_while PassesOwn.never (pt_cmpR op_ne (pv 2) (pe_glob (v := .int (-1)) rfl mN ⟨_, rfl⟩) (nomark _))
        (pss_cons (ps_expr (pe_bm PySem.F.plainAttrs_list PySem.F.slot_list_append PySem.F.type_list_append mt_append (pv 1) (pa_cons (pe_tup (pa_cons (pv 2) (pa_cons (pe_meth (pv 0) T.cl mW GW hr bW .nil pass0 (pa_cons (pv 2) pa_nil)) pa_nil))) pa_nil)))
        (pss_one (ps_set (i := 2) scFree.nd rfl (Or.inl rfl) (pe_ix ix_list (pe_fld (pv 0) rfl) (pe_op op_add (pv 2) pe_int) (fun _ _ => rfl))))))
      (pss_one (ps_ret (pv 1))))), ?_⟩
    refine ⟨Nat.zero_le _, fun l hl => ?_⟩
    have s0 : Same H (upd H l (.lst [])) := same_upd hl
    refine ⟨_, rfl, x, C, dx, _, _, rfl, s0 _ _ hx, T.cl, T.nHe, fl_head _ _ _ _, ?_⟩
    refine ⟨fun m σ H' => ∃ (st : Int) (done rest : List (Int × Int)) (ts : List V), m = rest.length ∧ ps = done ++ rest ∧ σ = [some (.ref x), some (.ref l), some (.int st)] ∧ Same H H' ∧ H' l = some (.lst ts) ∧ Paired (P2 H') ts done ∧ FL ws st rest,
      ⟨ps.length, hd, [], ps, [], rfl, rfl, rfl, s0, upd_same, .nil, hF⟩, ?_⟩
    rintro m σ H' ⟨st, done, rest, ts, rfl, rfl, rfl, s1, hL, hP, hR⟩
    refine ⟨_, rfl, rfl, _, rfl, ?_⟩
    rw [dec_int]
    cases rest with
    | nil =>
      have e : st = -1 := hR
      subst e
      refine iteF ⟨_, rfl, ?_⟩
      rw [List.append_nil] at k
      exact k _ _ _ s1 hl hL hP
    | cons p r =>
      obtain ⟨e1, h0, h1, e2, hR⟩ := hR
      have e' : (st == -1) = false := by
        have : ¬ st = -1 := by omega
        simpa using this
      rw [e']
      have M1 := M.same s1
      obtain ⟨⟨dx1, hx1⟩, hw1⟩ := id M1
      refine iteT ⟨fun σ' H'' => ∃ m', m' < (p :: r).length ∧ (∃ (st : Int) (done' rest : List (Int × Int)) (ts : List V), m' = rest.length ∧ done ++ p :: r = done' ++ rest ∧ σ' = [some (.ref x), some (.ref l), some (.int st)] ∧ Same H H'' ∧ H'' l = some (.lst ts) ∧ Paired (P2 H'') ts done' ∧ FL ws st rest), fun _ _ z => z, ?_⟩
      refine ⟨_, rfl, .inl ⟨rfl, _, SqL.of hL⟩, _, rfl, _, rfl, x, dx1, _, rfl, hx1, fl_no _ _ _ _ (by decide +kernel) (by decide +kernel) (by decide +kernel) (by decide +kernel), _, rfl, x, wl, n, pol, ws, hd, st, rfl, M1, h0, by omega, ?_⟩
      refine ⟨(by show 2 ≤ sizeLine; decide), fun t ht => ?_⟩
      have hlen2 : ts.length < sizeLine := by
        rw [paired_len hP]
        rw [List.length_append, List.length_cons] at hlen
        exact small1000 (by omega)
      have st1 : Same H' (upd H' t (.tup [.int st, .int ((rd ws st).fdiv 2)])) := same_upd ht
      refine ⟨l, _, _, rfl, rfl, st1 _ _ hL, hlen2, ?_⟩
      have s2 : Same H (upd (upd H' t (.tup [.int st, .int ((rd ws st).fdiv 2)])) l (.lst (ts ++ [.ref t]))) := same_new (s1.trans st1) hl
      have M2 := M.same s2
      obtain ⟨⟨dx2, hx2⟩, hw2⟩ := id M2
      have ntl : t ≠ l := (ne_of_none hL ht).symm
      refine ⟨_, rfl, x, C, dx2, _, _, rfl, hx2, T.cl, T.nWo, fl_words _ _ _ _, _, rfl, _, _, rfl, rfl, wl, _, _, _, rfl, rfl, SqL.of hw2, get_at (by omega) h1, ?_⟩
      refine ⟨r.length, by simp, _, done ++ [p], r, ts ++ [.ref t], rfl, by simp, rfl, s2, upd_same, ?_, hR⟩
      refine Paired.snoc (Paired.mapP hP fun v q ⟨t', e, z⟩ => ⟨t', e, ?_⟩) ⟨t, rfl, ?_⟩
      · rw [upd_ne (ne_of z hL (by intro y; cases y))]
        exact st1 _ _ z
      · rw [upd_ne ntl, upd_same, ← e1, ← e2]
theorem scAreas : FnScope ["self", "found", "start"] ["self"] (defScope sAreas) := ⟨rfl, rfl, rfl, by decide +kernel, rfl, by decide +kernel, by decide +kernel⟩
theorem ok_areas {f fW fU C : Addr} {fd fdW fdU : FuncData} (F : Fun K "areas" "Tagged.areas" sAreas f fd) (T : Txt K mg C) (FW : Fun K "wide" "Tagged.wide" sWide fW fdW) (bW : Binds K fdW ["self", "start"] []) (mW : Meth K C "wide" fW)
    (FU : Fun K "is_used" "Tagged.is_used" sUsed fU fdU) (bU : Binds K fdU ["self", "start"] []) (mU : Meth K C "is_used" fU) : FnOk P w K mg base CX0 2 f fd ["self"] (spAreas C) := by
  have GW : FnOk P w K mg base CX0 1 fW fdW ["self", "start"] (spWide C) := ok_wide FW T
  have GU : FnOk P w K mg base CX0 1 fU fdU ["self", "start"] (spUsed C) := ok_used FU T
  refine F.ok scAreas (fun vs H Q E h => ?_) (fun cdv A outer s H vs Q E hr h => ?_)
  · obtain ⟨x, wl, n, pol, ws, hd, as, rfl, _⟩ := h
    rfl
  · obtain ⟨x, wl, n, pol, ws, hd, as, rfl, M, N, hn, k⟩ := h
    obtain ⟨⟨dx, hx⟩, hw⟩ := id M
    refine ⟨_, pss_cons (ps_set (i := 1) scAreas.nd rfl (Or.inl rfl) (pe_lst pa_nil)) (pss_cons (ps_set (i := 2) scAreas.nd rfl (Or.inl rfl) pe_int)
      (pss_cons (ps_while PassesOwn.never (pt_cmpR op_lt (pv 2) (pe_fld (pv 0) rfl) (nomark _))
        (pss_cons (ps_expr (pe_bm PySem.F.plainAttrs_list PySem.F.slot_list_append PySem.F.type_list_append mt_append (pv 1) (pa_cons (pe_tup (pa_cons (pv 2) (pa_cons (pe_meth (pv 0) T.cl mW GW hr bW .nil pass0 (pa_cons (pv 2) pa_nil))
          (pa_cons (pe_meth (pv 0) T.cl mU GU hr bU .nil pass0 (pa_cons (pv 2) pa_nil)) pa_nil)))) pa_nil)))
        (pss_one (ps_aug (i := 2) scAreas.nd rfl (Or.inl rfl) (pe_meth (pv 0) T.cl mW GW hr bW .nil pass0 (pa_cons (pv 2) pa_nil)) ip_add))))
      (pss_one (ps_ret (pv 1))))), ?_⟩
    refine ⟨Nat.zero_le _, fun l hl => ?_⟩
    have s0 : Same H (upd H l (.lst [])) := same_upd hl
    refine ⟨fun m σ H' => ∃ (st : Int) (done rest : List Area) (ts : List V), m = rest.length ∧ as = done ++ rest ∧ σ = [some (.ref x), some (.ref l), some (.int st)] ∧ Same H H' ∧ H' l = some (.lst ts) ∧ Paired (P3 H') ts done ∧ Seg ws st rest n (-1) ∧ 0 ≤ st,
      ⟨as.length, 0, [], as, [], rfl, rfl, rfl, s0, upd_same, .nil, N.seg, Int.le_refl _⟩, ?_⟩
    rintro m σ H' ⟨st, done, rest, ts, rfl, rfl, rfl, s1, hL, hP, hS, hst⟩
    have M1 := M.same s1
    obtain ⟨⟨dx1, hx1⟩, hw1⟩ := id M1
    refine ⟨_, rfl, _, rfl, x, C, dx1, _, _, rfl, hx1, T.cl, T.nSi, fl_size _ _ _ _, _, _, rfl, rfl, _, rfl, ?_⟩
    cases rest with
    | nil =>
      have e : st = n := hS
      have e' : decide (st < n) = false := decide_eq_false (by omega)
      rw [e']
      refine iteF ⟨_, rfl, ?_⟩
      rw [List.append_nil] at k
      exact k _ _ _ s1 hl hL hP
    | cons p r =>
      have hS0 := hS
      obtain ⟨e1, h3, t1, t2, t3, hS⟩ := hS
      have hle := hS.le
      have hlw := N.len
      have e' : decide (st < n) = true := decide_eq_true (by omega)
      rw [e']
      refine iteT ⟨fun σ' H'' => ∃ m', m' < (p :: r).length ∧ (∃ (st : Int) (done' rest : List Area) (ts : List V), m' = rest.length ∧ done ++ p :: r = done' ++ rest ∧ σ' = [some (.ref x), some (.ref l), some (.int st)] ∧ Same H H'' ∧ H'' l = some (.lst ts) ∧ Paired (P3 H'') ts done' ∧ Seg ws st rest n (-1) ∧ 0 ≤ st), fun _ _ z => z, ?_⟩
      refine ⟨_, rfl, .inl ⟨rfl, _, SqL.of hL⟩, _, rfl, _, rfl, x, dx1, _, rfl, hx1, fl_no _ _ _ _ (by decide +kernel) (by decide +kernel) (by decide +kernel) (by decide +kernel), _, rfl, x, wl, n, pol, ws, hd, st, rfl, M1, hst, by omega, ?_⟩
      refine ⟨_, rfl, x, dx1, _, rfl, hx1, fl_no _ _ _ _ (by decide +kernel) (by decide +kernel) (by decide +kernel) (by decide +kernel), _, rfl, x, wl, n, pol, ws, hd, st, rfl, M1, hst, by omega, ?_⟩
      refine ⟨(by show 3 ≤ sizeLine; decide), fun t ht => ?_⟩
      have hlen2 : ts.length < sizeLine := by
        have q := N.seg.free_len
        rw [List.length_append, List.length_cons] at q
        rw [paired_len hP]
        exact small1000 (by omega)
      rw [t1, tag_half, tag_odd]
      have eu : ((if p.u then (1 : Int) else 0) == 1) = p.u := by cases p.u <;> rfl
      rw [eu]
      have st1 : Same H' (upd H' t (.tup [.int st, .int p.w, .bl p.u])) := same_upd ht
      refine ⟨l, _, _, rfl, rfl, st1 _ _ hL, hlen2, ?_⟩
      have s2 : Same H (upd (upd H' t (.tup [.int st, .int p.w, .bl p.u])) l (.lst (ts ++ [.ref t]))) := same_new (s1.trans st1) hl
      have M2 := M.same s2
      obtain ⟨⟨dx2, hx2⟩, hw2⟩ := id M2
      have ntl : t ≠ l := (ne_of_none hL ht).symm
      refine ⟨_, rfl, _, rfl, x, dx2, _, rfl, hx2, fl_no _ _ _ _ (by decide +kernel) (by decide +kernel) (by decide +kernel) (by decide +kernel), _, rfl, x, wl, n, pol, ws, hd, st, rfl, M2, hst, by omega, ?_⟩
      refine ⟨_, _, rfl, rfl, ?_⟩
      rw [t1, tag_half]
      refine ⟨r.length, by simp, _, done ++ [p], r, ts ++ [.ref t], rfl, by simp, rfl, s2, upd_same, ?_, hS, by show 0 ≤ st + p.w; omega⟩
      refine Paired.snoc (Paired.mapP hP fun v q ⟨t', e, z⟩ => ⟨t', e, ?_⟩) ⟨t, rfl, ?_⟩
      · rw [upd_ne (ne_of z hL (by intro y; cases y))]
        exact st1 _ _ z
      · rw [upd_ne ntl, upd_same, e1]
end
end K23
/-! K23W2: choose, before, find_used, layout. -/
namespace K23
open PySem L2
theorem pk_next {pb pw : Bool} {need : Int} {ps : List (Int × Int)} {i : Nat} {p : Int × Int} (h : ps[i]? = some p) : (ps.take (i + 1)).foldl (pickStep pb pw need) none = pickStep pb pw need ((ps.take i).foldl (pickStep pb pw need) none) p := by
  rw [take_snoc h, List.foldl_append]
  rfl
/-- what the name best holds -/
def BestV (H : Hp) (bv : V) : Option (Int × Int) → Prop
  | none => bv = .non
  | some p => P2 H bv p
theorem BestV.same {H H' : Hp} {bv : V} {o : Option (Int × Int)} (h : BestV H bv o) (s : Same H H') : BestV H' bv o := by
  cases o with
  | none => exact h
  | some p => exact P2.same h s
theorem BestV.notnon {H : Hp} {bv : V} {p : Int × Int} (h : BestV H bv (some p)) : decide (bv = .non) = false := by
  obtain ⟨t, e, _⟩ := h
  subst e
  rfl
section
variable {P : Program} {w : World} {K : PySem.W.Frag} {mg : Str → Option Value} {base : Heap}
theorem scChoose : FnScope ["self", "least", "best", "start", "wide"] ["self", "least"] (defScope sChoose) := ⟨rfl, rfl, rfl, by decide +kernel, rfl, by decide +kernel, by decide +kernel⟩
theorem ok_choose {f fF C : Addr} {fd fdF : FuncData} (F : Fun K "choose" "Tagged.choose" sChoose f fd) (T : Txt K mg C) (GF : FnOk P w K mg base CX0 2 fF fdF ["self"] (spFree C)) (bF : Binds K fdF ["self"] []) (mF : Meth K C "free_list" fF) :
    FnOk P w K mg base CX0 3 f fd ["self", "least"] (spChoose C) := by
  refine F.ok scChoose (fun vs H Q E h => ?_) (fun cdv A outer s H vs Q E hr h => ?_)
  · obtain ⟨x, wl, n, pol, ws, hd, need, ps, rfl, _⟩ := h
    rfl
  · obtain ⟨x, wl, n, pol, ws, hd, need, ps, rfl, M, hF, hlen, kn, ks⟩ := h
    refine ⟨_, pss_cons (ps_set (i := 2) scChoose.nd rfl (Or.inl rfl) pe_non)
      (pss_cons (ps_for PassesOwn.never rfl (pi_list (pe_meth0 (pv 0) T.cl mF GF hr bF .nil pass0)) (pg_tup rfl (pgs_cons (pg_name (i := 3) scChoose.nd rfl (Or.inl rfl)) (pgs_cons (pg_name (i := 4) scChoose.nd rfl (Or.inl rfl)) pgs_nil)))
        (pss_cons (ps_if (pt_cmpR op_lt (pv 4) (pv 1) (nomark _)) (pss_one ps_continue) pss_nil)
        (pss_one (ps_if (pt_cmpR op_isN (pv 2) pe_non (nomark _)) (pss_one (ps_set (i := 2) scChoose.nd rfl (Or.inl rfl) (pe_tup (pa_cons (pv 3) (pa_cons (pv 4) pa_nil)))))
          (pss_one (ps_if (PW.pt (pw_and (pt_cmpR op_eq (pe_fld (pv 0) rfl) pe_str (nomark _)) (pw_and1 (pt_cmpR op_lt (pv 4) (pe_ix ix_tup (pv 2) pe_int (fun _ _ => rfl)) (nomark _)))))
            (pss_one (ps_set (i := 2) scChoose.nd rfl (Or.inl rfl) (pe_tup (pa_cons (pv 3) (pa_cons (pv 4) pa_nil)))))
            (pss_one (ps_if (PW.pt (pw_and (pt_cmpR op_eq (pe_fld (pv 0) rfl) pe_str (nomark _)) (pw_and1 (pt_cmpR op_gt (pv 4) (pe_ix ix_tup (pv 2) pe_int (fun _ _ => rfl)) (nomark _)))))
              (pss_one (ps_set (i := 2) scChoose.nd rfl (Or.inl rfl) (pe_tup (pa_cons (pv 3) (pa_cons (pv 4) pa_nil)))))
              pss_nil))))))))
      (pss_one (ps_ret (pv 2)))), ?_⟩
    obtain ⟨⟨dx, hx⟩, hw⟩ := id M
    refine ⟨_, rfl, x, dx, _, rfl, hx, fl_no _ _ _ _ (by decide +kernel) (by decide +kernel) (by decide +kernel) (by decide +kernel), x, wl, n, pol, ws, hd, ps, rfl, M, hF, hlen, fun H1 l ts s1 hl hL hP => ?_⟩
    have hlen2 : ts.length = ps.length := paired_len hP
    refine ⟨l, rfl, ⟨_, SqL.of hL⟩, for_list (K := K) (a := l) (xs := ts) (fun i σ H' => ∃ (bv : V) (v3 v4 : Option V), σ = [some (.ref x), some (.int need), some bv, v3, v4] ∧ Same H1 H' ∧ BestV H' bv ((ps.take i).foldl (pickStep (pbOf pol) (pwOf pol) need) none))
      ⟨_, none, none, rfl, Same.refl _, rfl⟩ (fun i σ H' _ ⟨_, _, _, _, s2, _⟩ => SqL.of (s2 _ _ hL)) ?_ ?_⟩
    · rintro i v σ H' hi ⟨bv, v3, v4, rfl, s2, hB⟩
      obtain ⟨p, hp, t, rfl, ht⟩ := pa_get hP hi
      have hN := pk_next (pb := pbOf pol) (pw := pwOf pol) (need := need) hp
      refine ⟨t, _, rfl, SqT.of (s2 _ _ ht), rfl, _, _, rfl, _, _, rfl, rfl, ?_⟩
      refine ⟨_, rfl, _, rfl, _, _, rfl, rfl, _, rfl, ?_⟩
      refine ite2 (fun h1 => ?_) (fun h1 => ?_)
      · have h1' : p.2 < need := of_decide_eq_true h1
        refine ⟨bv, _, _, rfl, s2, ?_⟩
        rw [hN]
        unfold pickStep
        rw [if_pos h1']
        exact hB
      · have h1' : ¬ p.2 < need := fun q => h1 (decide_eq_true q)
        have made : ∀ (H3 : Hp), H3 = H' → ∀ tt : Addr, H3 tt = none → Same H1 (upd H3 tt (.tup [.int p.1, .int p.2])) ∧ BestV (upd H3 tt (.tup [.int p.1, .int p.2])) (.ref tt) (some p) := fun H3 e tt ht => by
          subst e
          exact ⟨s2.trans (same_upd ht), tt, rfl, upd_same⟩
        refine ⟨_, rfl, rfl, _, rfl, ?_⟩
        cases hb : (ps.take i).foldl (pickStep (pbOf pol) (pwOf pol) need) none with
        | none =>
          rw [hb] at hB hN
          have eb : bv = .non := hB
          subst eb
          refine iteT ⟨_, rfl, _, rfl, (by show 2 ≤ sizeLine; decide), fun tt htt => ?_⟩
          obtain ⟨m1, m2⟩ := made _ rfl tt htt
          refine ⟨_, _, _, rfl, m1, ?_⟩
          rw [hN]
          unfold pickStep
          rw [if_neg h1']
          exact m2
        | some b =>
          rw [hb] at hB hN
          rw [hB.notnon]
          obtain ⟨tb, rfl, htb⟩ := id hB
          have M1 := M.same (s1.trans s2)
          obtain ⟨⟨dx1, hx1⟩, hw1⟩ := id M1
          have h2 : atI [V.int b.1, V.int b.2] 1 = some (.int b.2) := rfl
          have hN2 : pickStep (pbOf pol) (pwOf pol) need (some b) p = if (pbOf pol && decide (p.2 < b.2)) = true then some p else if (pwOf pol && decide (b.2 < p.2)) = true then some p else some b := by
            unfold pickStep
            rw [if_neg h1']
          rw [hN2] at hN
          have keep : BestV H' (.ref tb) (some b) := hB
          refine iteF ⟨_, rfl, x, C, dx1, _, _, rfl, hx1, T.cl, T.nPo, fl_policy _ _ _ _, rfl, _, rfl, ?_⟩
          cases hpb : pbOf pol with
          | false =>
            have eb : decide (V.str pol = V.str "best") = false := hpb
            rw [eb]
            rw [hpb, Bool.false_and, if_neg Bool.false_ne_true] at hN
            refine iteF (iteF ?_)
            refine ⟨_, rfl, x, C, dx1, _, _, rfl, hx1, T.cl, T.nPo, fl_policy _ _ _ _, rfl, _, rfl, ?_⟩
            cases hpw : pwOf pol with
            | false =>
              have ew : decide (V.str pol = V.str "worst") = false := hpw
              rw [ew]
              refine iteF (iteF ⟨_, _, _, rfl, s2, ?_⟩)
              rw [hpw] at hN
              rw [hN]
              exact keep
            | true =>
              have ew : decide (V.str pol = V.str "worst") = true := hpw
              rw [ew]
              rw [hpw] at hN
              refine iteT ⟨_, rfl, _, rfl, tb, _, _, _, rfl, rfl, SqT.of htb, h2, _, _, rfl, rfl, _, rfl, ?_⟩
              refine ite2 (fun h3 => ?_) (fun h3 => ?_)
              · have e3 : b.2 < p.2 := of_decide_eq_true h3
                refine ⟨_, rfl, _, rfl, (by show 2 ≤ sizeLine; decide), fun tt htt => ?_⟩
                obtain ⟨m1, m2⟩ := made _ rfl tt htt
                refine ⟨_, _, _, rfl, m1, ?_⟩
                rw [hN, decide_eq_true e3]
                exact m2
              · have e3 : ¬ b.2 < p.2 := fun q => h3 (decide_eq_true q)
                refine ⟨_, _, _, rfl, s2, ?_⟩
                rw [hN, decide_eq_false e3]
                exact keep
          | true =>
            have eb : decide (V.str pol = V.str "best") = true := hpb
            rw [eb]
            rw [hpb, Bool.true_and] at hN
            refine iteT ⟨_, rfl, _, rfl, tb, _, _, _, rfl, rfl, SqT.of htb, h2, _, _, rfl, rfl, _, rfl, ?_⟩
            refine ite2 (fun h3 => ?_) (fun h3 => ?_)
            · have e3 : p.2 < b.2 := of_decide_eq_true h3
              refine ⟨_, rfl, _, rfl, (by show 2 ≤ sizeLine; decide), fun tt htt => ?_⟩
              obtain ⟨m1, m2⟩ := made _ rfl tt htt
              refine ⟨_, _, _, rfl, m1, ?_⟩
              rw [hN, decide_eq_true e3]
              exact m2
            · have e3 : ¬ p.2 < b.2 := fun q => h3 (decide_eq_true q)
              rw [decide_eq_false e3, if_neg Bool.false_ne_true] at hN
              refine ⟨_, rfl, x, C, dx1, _, _, rfl, hx1, T.cl, T.nPo, fl_policy _ _ _ _, rfl, _, rfl, ?_⟩
              cases hpw : pwOf pol with
              | false =>
                have ew : decide (V.str pol = V.str "worst") = false := hpw
                rw [ew]
                refine iteF (iteF ⟨_, _, _, rfl, s2, ?_⟩)
                rw [hpw] at hN
                rw [hN]
                exact keep
              | true =>
                have ew : decide (V.str pol = V.str "worst") = true := hpw
                rw [ew]
                rw [hpw] at hN
                refine iteT ⟨_, rfl, _, rfl, tb, _, _, _, rfl, rfl, SqT.of htb, h2, _, _, rfl, rfl, _, rfl, ?_⟩
                refine ite2 (fun h3 => ?_) (fun h3 => ?_)
                · have e3 : b.2 < p.2 := of_decide_eq_true h3
                  refine ⟨_, rfl, _, rfl, (by show 2 ≤ sizeLine; decide), fun tt htt => ?_⟩
                  obtain ⟨m1, m2⟩ := made _ rfl tt htt
                  refine ⟨_, _, _, rfl, m1, ?_⟩
                  rw [hN, decide_eq_true e3]
                  exact m2
                · have e3 : ¬ b.2 < p.2 := fun q => h3 (decide_eq_true q)
                  refine ⟨_, _, _, rfl, s2, ?_⟩
                  rw [hN, decide_eq_false e3]
                  exact keep
    · rintro σ H' ⟨bv, v3, v4, rfl, s2, hB⟩
      rw [hlen2, take_all] at hB
      have s3 := s1.trans s2
      refine ⟨_, rfl, ?_⟩
      show Q bv H'
      cases hb : pick (pbOf pol) (pwOf pol) need ps with
      | none =>
        unfold pick at hb
        rw [hb] at hB
        have e : bv = .non := hB
        subst e
        exact kn (by unfold pick; exact hb) _ s3
      | some p =>
        unfold pick at hb
        rw [hb] at hB
        exact ks p (by unfold pick; exact hb) _ _ s3 hB
theorem scBefore : FnScope ["self", "start", "found", "other", "wide"] ["self", "start"] (defScope sBefore) := ⟨rfl, rfl, rfl, by decide +kernel, rfl, by decide +kernel, by decide +kernel⟩
theorem ok_before {f fF C : Addr} {fd fdF : FuncData} (F : Fun K "before" "Tagged.before" sBefore f fd) (T : Txt K mg C) (GF : FnOk P w K mg base CX0 2 fF fdF ["self"] (spFree C)) (bF : Binds K fdF ["self"] []) (mF : Meth K C "free_list" fF) :
    FnOk P w K mg base CX0 3 f fd ["self", "start"] (spBefore C) := by
  refine F.ok scBefore (fun vs H Q E h => ?_) (fun cdv A outer s H vs Q E hr h => ?_)
  · obtain ⟨x, wl, n, pol, ws, hd, s, ps, rfl, _⟩ := h
    rfl
  · obtain ⟨x, wl, n, pol, ws, hd, st, ps, rfl, M, hF, hlen, k⟩ := h
    obtain ⟨tN, mN⟩ := T.none_
    refine ⟨_, pss_cons (ps_set (i := 2) scBefore.nd rfl (Or.inl rfl) (pe_glob (v := .int (-1)) rfl mN ⟨_, rfl⟩))
      (pss_cons (ps_for PassesOwn.never rfl (pi_list (pe_meth0 (pv 0) T.cl mF GF hr bF .nil pass0)) (pg_tup rfl (pgs_cons (pg_name (i := 3) scBefore.nd rfl (Or.inl rfl)) (pgs_cons (pg_name (i := 4) scBefore.nd rfl (Or.inl rfl)) pgs_nil)))
        (pss_one (ps_if (pt_cmpR op_lt (pv 3) (pv 1) (nomark _)) (pss_one (ps_set (i := 2) scBefore.nd rfl (Or.inl rfl) (pv 3))) pss_nil)))
      (pss_one (ps_ret (pv 2)))), ?_⟩
    obtain ⟨⟨dx, hx⟩, hw⟩ := id M
    refine ⟨_, rfl, x, dx, _, rfl, hx, fl_no _ _ _ _ (by decide +kernel) (by decide +kernel) (by decide +kernel) (by decide +kernel), x, wl, n, pol, ws, hd, ps, rfl, M, hF, hlen, fun H1 l ts s1 hl hL hP => ?_⟩
    have hlen2 : ts.length = ps.length := paired_len hP
    refine ⟨l, rfl, ⟨_, SqL.of hL⟩, for_list (K := K) (a := l) (xs := ts) (fun i σ H' => ∃ (v3 v4 : Option V), σ = [some (.ref x), some (.int st), some (.int (beforeF (ps.take i) st)), v3, v4] ∧ Same H1 H')
      ⟨none, none, rfl, Same.refl _⟩ (fun i σ H' _ ⟨_, _, _, s2⟩ => SqL.of (s2 _ _ hL)) ?_ ?_⟩
    · rintro i v σ H' hi ⟨v3, v4, rfl, s2⟩
      obtain ⟨p, hp, t, rfl, ht⟩ := pa_get hP hi
      have hN : beforeF (ps.take (i + 1)) st = if p.1 < st then p.1 else beforeF (ps.take i) st := by
        unfold beforeF
        rw [take_snoc hp, List.foldl_append]
        rfl
      refine ⟨t, _, rfl, SqT.of (s2 _ _ ht), rfl, _, _, rfl, _, _, rfl, rfl, ?_⟩
      refine ⟨_, rfl, _, rfl, _, _, rfl, rfl, _, rfl, ?_⟩
      refine ite2 (fun h1 => ?_) (fun h1 => ?_)
      · have h1' : p.1 < st := of_decide_eq_true h1
        refine ⟨_, rfl, some (.int p.1), some (.int p.2), ?_, s2⟩
        rw [hN, if_pos h1']
        rfl
      · have h1' : ¬ p.1 < st := fun q => h1 (decide_eq_true q)
        refine ⟨some (.int p.1), some (.int p.2), ?_, s2⟩
        rw [hN, if_neg h1']
        rfl
    · rintro σ H' ⟨v3, v4, rfl, s2⟩
      refine ⟨_, rfl, ?_⟩
      rw [hlen2, take_all]
      exact k _ (s1.trans s2)
theorem scFind : FnScope ["self", "start", "other", "wide", "used"] ["self", "start"] (defScope sFind) := ⟨rfl, rfl, rfl, by decide +kernel, rfl, by decide +kernel, by decide +kernel⟩
theorem ok_find {f fA C : Addr} {fd fdA : FuncData} (F : Fun K "find_used" "Tagged.find_used" sFind f fd) (T : Txt K mg C) (GA : FnOk P w K mg base CX0 2 fA fdA ["self"] (spAreas C)) (bA : Binds K fdA ["self"] []) (mA : Meth K C "areas" fA) :
    FnOk P w K mg base CX0 3 f fd ["self", "start"] (spFind C) := by
  refine F.ok scFind (fun vs H Q E h => ?_) (fun cdv A outer s H vs Q E hr h => ?_)
  · obtain ⟨x, wl, n, pol, ws, hd, pre, y, post, rfl, _⟩ := h
    rfl
  · obtain ⟨x, wl, n, pol, ws, hd, pre, y, post, rfl, M, N, hu, hn, k⟩ := h
    refine ⟨_, pss_cons (ps_for PassesOwn.never rfl (pi_list (pe_meth0 (pv 0) T.cl mA GA hr bA .nil pass0)) (pg_tup rfl (pgs_cons (pg_name (i := 2) scFind.nd rfl (Or.inl rfl)) (pgs_cons (pg_name (i := 3) scFind.nd rfl (Or.inl rfl)) (pgs_cons (pg_name (i := 4) scFind.nd rfl (Or.inl rfl)) pgs_nil))))
        (pss_one (ps_if (PW.pt (pw_and (pt_cmpR op_eq (pv 2) (pv 1) (nomark _)) (pw_and1 (pt_val (pv 4))))) (pss_one (ps_ret (pv 3))) pss_nil)))
      (pss_one ps_never), ?_⟩
    obtain ⟨⟨dx, hx⟩, hw⟩ := id M
    refine ⟨_, rfl, x, dx, _, rfl, hx, fl_no _ _ _ _ (by decide +kernel) (by decide +kernel) (by decide +kernel) (by decide +kernel), x, wl, n, pol, ws, hd, _, rfl, M, N, hn, fun H1 l ts s1 hl hL hP => ?_⟩
    have hlen2 : ts.length = pre.length + (post.length + 1) := by rw [paired_len hP, List.length_append, List.length_cons]
    obtain ⟨c, q1, q2⟩ := Seg.app.mp N.seg
    have hc : y.s = c := q2.1
    refine ⟨l, rfl, ⟨_, SqL.of hL⟩, for_list (K := K) (a := l) (xs := ts) (fun i σ H' => ∃ (v2 v3 v4 : Option V), σ = [some (.ref x), some (.int y.s), v2, v3, v4] ∧ Same H1 H' ∧ i ≤ pre.length)
      ⟨none, none, none, rfl, Same.refl _, Nat.zero_le _⟩ (fun i σ H' _ ⟨_, _, _, _, s2, _⟩ => SqL.of (s2 _ _ hL)) ?_ ?_⟩
    · rintro i v σ H' hi ⟨v2, v3, v4, rfl, s2, hle⟩
      obtain ⟨p, hp, t, rfl, ht⟩ := pa_get hP hi
      refine ⟨t, _, rfl, SqT.of (s2 _ _ ht), rfl, _, _, rfl, _, _, rfl, _, _, rfl, rfl, ?_⟩
      refine ⟨_, rfl, _, rfl, rfl, _, rfl, ?_⟩
      rw [dec_int]
      by_cases hlt : i < pre.length
      · have hm : p ∈ pre := by
          rw [List.getElem?_append_left hlt] at hp
          exact List.mem_of_getElem? hp
        have hin := q1.mem_in p hm
        have e : (p.s == y.s) = false := by
          have : ¬ p.s = y.s := by omega
          simpa using this
        rw [e]
        exact iteF (iteF ⟨_, _, _, rfl, s2, hlt⟩)
      · have ei : i = pre.length := by omega
        rw [ei, List.getElem?_append_right (Nat.le_refl _), Nat.sub_self] at hp
        have ep : y = p := Option.some.inj hp
        subst ep
        have e : (y.s == y.s) = true := by simp
        rw [e]
        refine iteT ⟨_, rfl, _, rfl, ?_⟩
        rw [hu]
        exact iteT ⟨_, rfl, k _ (s1.trans s2)⟩
    · rintro σ H' ⟨v2, v3, v4, rfl, s2, hle⟩
      exfalso
      omega
theorem scLay : FnScope ["self", "start", "wide", "used"] ["self"] (defScope sLay) := ⟨rfl, rfl, rfl, by decide +kernel, rfl, by decide +kernel, by decide +kernel⟩
theorem used_snoc {as : List Area} {i : Nat} {a : Area} (h : as[i]? = some a) : usedOf (as.take (i + 1)) = usedOf (as.take i) ++ (if a.u then [(a.s, a.w)] else []) := by
  rw [take_snoc h, usedOf_app]
  rfl
theorem ok_lay {f fA C : Addr} {fd fdA : FuncData} (F : Fun K "layout" "Tagged.layout" sLay f fd) (T : Txt K mg C) (GA : FnOk P w K mg base CX0 2 fA fdA ["self"] (spAreas C)) (bA : Binds K fdA ["self"] []) (mA : Meth K C "areas" fA) :
    FnOk P w K mg base CX0 3 f fd ["self"] (spLay C) := by
  refine F.ok scLay (fun vs H Q E h => ?_) (fun cdv A outer s H vs Q E hr h => ?_)
  · obtain ⟨x, wl, n, pol, ws, hd, as, rfl, _⟩ := h
    rfl
  · obtain ⟨x, wl, n, pol, ws, hd, as, rfl, M, N, hn, k⟩ := h
    refine ⟨_, pss_one (ps_ret (pe_lc (own := [("start", 1), ("wide", 2), ("used", 3)]) (g := gTup K 3 (gCons (gName 1) (gCons (gName 2) (gCons (gName 3) gNil)))) (tt := tB (tVar 3)) rfl scLay.nd (pi_list (pe_meth0 (pv 0) T.cl mA GA hr bA .nil pass0))
      (blkOk_by (own := [("start", 1), ("wide", 2), ("used", 3)]) (N := ["self", "start", "wide", "used"]) (sc := defScope sLay) (by decide +kernel))
      (fun _ _ _ _ _ => pg_tup rfl (pgs_cons (pg_name (i := 1) scLay.nd rfl (Or.inl rfl)) (pgs_cons (pg_name (i := 2) scLay.nd rfl (Or.inl rfl)) (pgs_cons (pg_name (i := 3) scLay.nd rfl (Or.inl rfl)) pgs_nil))))
      (fun _ _ _ _ _ => pts_one (pt_val (pv 3))) (fun _ _ _ _ _ => pe_tup (pa_cons (pv 1) (pa_cons (pv 2) pa_nil))))), ?_⟩
    obtain ⟨⟨dx, hx⟩, hw⟩ := id M
    refine ⟨_, rfl, x, dx, _, rfl, hx, fl_no _ _ _ _ (by decide +kernel) (by decide +kernel) (by decide +kernel) (by decide +kernel), x, wl, n, pol, ws, hd, _, rfl, M, N, hn, fun H1 l ts s1 hl hL hP => ?_⟩
    have hlen2 : ts.length = as.length := paired_len hP
    refine ⟨l, rfl, ⟨_, SqL.of hL⟩, fun D hD => ?_⟩
    have s0 : Same H1 (upd H1 D (.lst [])) := same_upd hD
    refine lc_list (K := K) (a := l) (xs := ts) (fun i H' => ∃ acc, H' D = some (.lst acc) ∧ Same H1 H' ∧ Paired (P2 H') acc (usedOf (as.take i)))
      ⟨[], upd_same, s0, .nil⟩ (fun i H' _ ⟨_, _, s2, _⟩ => SqL.of (s2 _ _ hL)) ?_ ?_
    · rintro i v H' hi ⟨acc, hA, s2, hU⟩
      obtain ⟨p, hp, t, rfl, ht⟩ := pa_get hP hi
      have hN := used_snoc hp
      refine ⟨t, _, rfl, SqT.of (s2 _ _ ht), rfl, _, _, rfl, _, _, rfl, _, _, rfl, rfl, rfl, ?_⟩
      refine ⟨_, rfl, _, rfl, ?_⟩
      cases hu : p.u with
      | true =>
        rw [hu] at hN
        refine iteT ⟨_, rfl, _, rfl, (by show 2 ≤ sizeLine; decide), fun tt htt => ?_⟩
        have st1 : Same H' (upd H' tt (.tup [.int p.s, .int p.w])) := same_upd htt
        have hz : acc.length < sizeLine := by
          rw [paired_len hU]
          have q1 := usedOf_len (as.take i)
          have q2 : (as.take i).length ≤ as.length := by rw [List.length_take]; exact Nat.min_le_right _ _
          have q3 := N.seg.free_len
          exact small1000 (by omega)
        refine ⟨acc, st1 _ _ hA, hz, acc ++ [.ref tt], upd_same, same_new (s2.trans st1) hD, ?_⟩
        rw [hN]
        have ntd : tt ≠ D := (ne_of_none hA htt).symm
        refine Paired.snoc (Paired.mapP hU fun v q ⟨t', e, z⟩ => ⟨t', e, ?_⟩) ⟨tt, rfl, ?_⟩
        · rw [upd_ne (ne_of z hA (by intro y; cases y))]
          exact st1 _ _ z
        · rw [upd_ne ntd, upd_same]
      | false =>
        rw [hu] at hN
        refine iteF ⟨acc, hA, s2, ?_⟩
        rw [hN]
        show Paired (P2 H') acc (usedOf (as.take i) ++ [])
        rw [List.append_nil]
        exact hU
    · rintro H' ⟨acc, hA, s2, hU⟩
      rw [hlen2, take_all] at hU
      exact k _ D _ (s1.trans s2) (s1.free hD) hA hU
end
end K23
/-! K23W3: allocate, release, __init__. -/
namespace K23
open PySem L2
theorem Mem.fl {ws : List Int} {hd n : Int} {as : List Area} (M : Mem ws hd n as) : FL ws hd (freeOf as) := by
  rw [M.head]
  exact M.seg.fl (Int.le_refl _) (by rw [M.len]; exact Int.le_refl _)
theorem Mem.small {ws : List Int} {hd n : Int} {as : List Area} (M : Mem ws hd n as) (hn : n ≤ 1000) : as.length ≤ 1000 := by
  have q := M.seg.free_len
  omega
theorem Mem.smallF {ws : List Int} {hd n : Int} {as : List Area} (M : Mem ws hd n as) (hn : n ≤ 1000) : (freeOf as).length ≤ 1000 := Nat.le_trans (freeOf_len as) (M.small hn)
theorem log2_small {n : Int} (h1 : 1 ≤ n) (h2 : n ≤ 1000) : n.natAbs.log2 < 1920 := by
  have h3 : n.natAbs ≠ 0 := by omega
  rw [Nat.log2_lt h3]
  have h4 : (2 : Nat) ^ 10 ≤ 2 ^ 1920 := Nat.pow_le_pow_right (by decide) (by decide)
  exact Nat.lt_of_lt_of_le (show n.natAbs < 2 ^ 10 by omega) h4
section
variable {P : Program} {w : World} {K : PySem.W.Frag} {mg : Str → Option Value} {base : Heap}
/-- what raising OutOfMemory asks -/
structure OomTxt (P : Program) (K : PySem.W.Frag) (mg : Str → Option Value) (Co fo cc cda : Addr) (fdo : FuncData) : Prop where
  sup : SupTxt P K mg "OutOfMemory.__init__" sOom Co fo cc cda fdo
  ini : PySem.W.findIn K (.ref Co) "__init__" = some (some (.ref fo))
  typ : PySem.W.typeIn K (.ref fo) = some (.type "function")
  bin : Binds K fdo ["self", "length"] []
  mg_ : mg "OutOfMemory" = some (.ref Co)
theorem scAlloc : FnScope ["self", "length", "least", "found", "start", "wide", "before", "later", "rest", "place"] ["self", "length"] (defScope sAlloc) := ⟨rfl, rfl, rfl, by decide +kernel, rfl, by decide +kernel, by decide +kernel⟩
theorem ok_alloc {f fC fB fL fP C Co fo cc cda : Addr} {fd fdC fdB fdL fdP fdo : FuncData} (F : Fun K "allocate" "Tagged.allocate" sAlloc f fd) (T : Txt K mg C) (O : OomTxt P K mg Co fo cc cda fdo)
    (GC : FnOk P w K mg base CX0 3 fC fdC ["self", "least"] (spChoose C)) (bC : Binds K fdC ["self", "least"] []) (mC : Meth K C "choose" fC)
    (GB : FnOk P w K mg base CX0 3 fB fdB ["self", "start"] (spBefore C)) (bB : Binds K fdB ["self", "start"] []) (mB : Meth K C "before" fB)
    (GL : FnOk P w K mg base CX0 1 fL fdL ["self", "before", "start"] (spLink C)) (bL : Binds K fdL ["self", "before", "start"] []) (mL : Meth K C "link" fL)
    (GP : FnOk P w K mg base CX0 1 fP fdP ["self", "start", "wide", "used"] (spPut C)) (bP : Binds K fdP ["self", "start", "wide", "used"] []) (mP : Meth K C "put_tags" fP) :
    FnOk P w K mg base (L2.CX P w) 4 f fd ["self", "length"] (spAlloc C Co) := by
  have GO : FnOk P w K mg base CX0 1 fo fdo ["self", "length"] (spOom Co) := ok_oom O.sup
  refine F.okX scAlloc (fun vs H Q E h => ?_) (fun cdv A outer s H vs Q E hr h => ?_)
  · obtain ⟨x, wl, n, pol, ws, hd, len, as, rfl, _⟩ := h
    rfl
  · obtain ⟨x, wl, n, pol, ws, hd, len, as, rfl, M, N, hn, hl1, hl2, kn, ks⟩ := h
    obtain ⟨tT, mT⟩ := T.tags
    obtain ⟨tL, mLe⟩ := T.least
    have hr1 : Room 1 _ := hr.mono (by decide)
    have hr2 : Room 2 _ := hr.mono (by decide)
    refine ⟨_, pss_cons (ps_set (i := 2) scAlloc.nd rfl (Or.inl rfl) (pe_op op_add (pv 1) (pe_glob (v := .int 2) rfl mT ⟨_, rfl⟩)))
      (pss_cons (ps_set (i := 3) scAlloc.nd rfl (Or.inl rfl) (pe_meth (pv 0) T.cl mC GC hr bC .nil pass0 (pa_cons (pe_callB (call_max2 rfl) (by rfl) T.max (by decide +kernel) (pa_cons (pv 2) (pa_cons (pe_glob (v := .int 3) rfl mLe ⟨_, rfl⟩) pa_nil))) pa_nil)))
      (pss_cons (ps_if (pt_cmpR op_isN (pv 3) pe_non (nomark _)) (pss_one (ps_raise rfl (takes_of rfl rfl rfl rfl) (pmk_oex O.sup.ox O.ini O.typ GO hr2 O.bin .nil pass0 (by rfl) O.mg_ (pa_cons (pv 1) pa_nil)))) pss_nil)
      (PSs.nox (pss_cons (ps_asg (pv 3) (pg_tup rfl (pgs_cons (pg_name (i := 4) scAlloc.nd rfl (Or.inl rfl)) (pgs_cons (pg_name (i := 5) scAlloc.nd rfl (Or.inl rfl)) pgs_nil))))
      (pss_cons (ps_set (i := 6) scAlloc.nd rfl (Or.inl rfl) (pe_meth (pv 0) T.cl mB GB hr bB .nil pass0 (pa_cons (pv 4) pa_nil)))
      (pss_cons (ps_set (i := 7) scAlloc.nd rfl (Or.inl rfl) (pe_ix ix_list (pe_fld (pv 0) rfl) (pe_op op_add (pv 4) pe_int) (fun _ _ => rfl)))
      (pss_cons (ps_set (i := 8) scAlloc.nd rfl (Or.inl rfl) (pe_op op_sub (pv 5) (pe_callB (call_max2 rfl) (by rfl) T.max (by decide +kernel) (pa_cons (pv 2) (pa_cons (pe_glob (v := .int 3) rfl mLe ⟨_, rfl⟩) pa_nil)))))
      (C8.pss_cut (ps_if (pt_cmpR op_ge (pv 8) (pe_glob (v := .int 3) rfl mLe ⟨_, rfl⟩) (nomark _))
        (pss_cons (ps_aug (i := 5) scAlloc.nd rfl (Or.inl rfl) (pv 8) ip_sub)
        (pss_cons (ps_expr (pe_meth (pv 0) T.cl mP GP hr1 bP .nil pass0 (pa_cons (pe_op op_add (pv 4) (pv 5)) (pa_cons (pv 8) (pa_cons pe_bl pa_nil)))))
        (pss_cons (ps_asg (pv 7) (pg_sub (pe_fld (pv 0) rfl) (pe_op op_add (pe_op op_add (pv 4) (pv 5)) pe_int) set_list))
        (pss_one (ps_set (i := 7) scAlloc.nd rfl (Or.inl rfl) (pe_op op_add (pv 4) (pv 5))))))) pss_nil)
      (pss_cons (ps_expr (pe_meth (pv 0) T.cl mL GL hr1 bL .nil pass0 (pa_cons (pv 6) (pa_cons (pv 7) pa_nil))))
      (pss_cons (ps_expr (pe_meth (pv 0) T.cl mP GP hr1 bP .nil pass0 (pa_cons (pv 4) (pa_cons (pv 5) (pa_cons pe_bl pa_nil)))))
      (pss_cons (ps_for PassesOwn.never rfl (pi_range2 (by rfl) T.range (pa_cons (pe_op op_add (pv 4) pe_int) (pa_cons (pe_op op_sub (pe_op op_add (pv 4) (pv 5)) pe_int) pa_nil))) (pg_name (i := 9) scAlloc.nd rfl (Or.inl rfl))
        (pss_one (ps_asg pe_int (pg_sub (pe_fld (pv 0) rfl) (pv 9) set_list))))
      (pss_one (ps_ret (pv 4)))))))))))))), ?_⟩
    obtain ⟨⟨dx, hx⟩, hw⟩ := id M
    have emax : (if (3 : Int) > len + 2 then (3 : Int) else len + 2) = len + 2 := if_neg (by omega)
    refine ⟨_, rfl, _, _, rfl, rfl, _, rfl, x, dx, _, rfl, hx, fl_no _ _ _ _ (by decide +kernel) (by decide +kernel) (by decide +kernel) (by decide +kernel), _, rfl, _, _, rfl, ?_⟩
    refine ⟨x, wl, n, pol, ws, hd, len + 2, freeOf as, congrArg (fun z => [V.ref x, V.int z]) emax, M, N.fl, N.smallF hn, fun hp H1 s1 => ?_, fun p hp H1 v s1 hv => ?_⟩
    · -- nothing fits
      refine ⟨_, rfl, rfl, _, rfl, iteT ⟨_, rfl, (by show 1 ≤ 1000; decide), fun a na => ⟨a, len, rfl, upd_same, log2_small hl1 hl2, fun de nde nda => ?_⟩⟩⟩
      have nde' : H1 de = none := by
        rw [upd_ne nda] at nde
        exact nde
      refine ⟨rfl, de, _, upd_same, (by rw [upd_ne nda, upd_same]), nde', kn hp _ _ _ (fun b o e => ?_) upd_same⟩
      have e1 := s1 b o e
      have nb : b ≠ a := ne_of_none e1 na
      have nb2 : b ≠ de := ne_of_none e1 nde'
      rw [upd_ne nb2, del_ne nb, upd_ne nb, upd_ne nb2, upd_ne nb]
      exact e1
    · -- an area
      obtain ⟨st, wi⟩ := p
      obtain ⟨tt, rfl, ht⟩ := hv
      obtain ⟨pre, y, post, eas, hu, hs, hwi, hneed, hbef, hlat, hst, hend, hb, _⟩ := law_alloc N (need := len + 2) (by omega) hp
      have hlw := N.len
      have M1 := M.same s1
      obtain ⟨⟨dx1, hx1⟩, hw1⟩ := id M1
      refine ⟨_, rfl, rfl, _, rfl, iteF ?_⟩
      refine ⟨_, rfl, tt, _, rfl, SqT.of ht, rfl, _, _, rfl, _, _, rfl, rfl, ?_⟩
      -- before
      refine ⟨_, rfl, x, dx1, _, rfl, hx1, fl_no _ _ _ _ (by decide +kernel) (by decide +kernel) (by decide +kernel) (by decide +kernel), _, rfl, x, wl, n, pol, ws, hd, st, freeOf as, rfl, M1, N.fl, N.smallF hn, fun H2 s2 => ?_⟩
      have M2 := M.same (s1.trans s2)
      obtain ⟨⟨dx2, hx2⟩, hw2⟩ := id M2
      -- later, rest
      refine ⟨_, rfl, x, C, dx2, _, _, rfl, hx2, T.cl, T.nWo, fl_words _ _ _ _, _, rfl, _, _, rfl, rfl, wl, _, _, _, rfl, rfl, SqL.of hw2, get_at (by omega) (by omega), ?_⟩
      refine ⟨_, rfl, _, rfl, _, _, rfl, _, _, rfl, rfl, ?_⟩
      have s12 : Same H H2 := s1.trans s2
      rw [emax]
      refine ⟨fun σ' H' => ∃ (later' wide' : Int) (ws1 : List Int), σ' = [some (.ref x), some (.int len), some (.int (len + 2)), some (.ref tt), some (.int st), some (.int wide'), some (.int (beforeF (freeOf as) st)), some (.int later'), some (.int (wi - (len + 2))), none] ∧
        MemAt C H' x wl n pol ws1 hd ∧ But x wl H H' ∧ (ws1.length : Int) = n ∧ (3 ≤ wi - (len + 2) ∧ ws1 = wr (putTags ws (st + (len + 2)) (wi - (len + 2)) false) (st + (len + 2) + 1) (rd ws (st + 1)) ∧ later' = st + (len + 2) ∧ wide' = len + 2 ∨ ¬ 3 ≤ wi - (len + 2) ∧ ws1 = ws ∧ later' = rd ws (st + 1) ∧ wide' = wi), ?_, ?_⟩
      · refine ⟨_, rfl, _, _, rfl, rfl, _, rfl, ?_⟩
        refine ite2 (fun h3 => ?_) (fun h3 => ?_)
        · have e3 : 3 ≤ wi - (len + 2) := of_decide_eq_true h3
          have ew : wi - (wi - (len + 2)) = len + 2 := by omega
          refine ⟨_, rfl, _, rfl, _, _, rfl, rfl, ?_⟩
          refine ⟨_, rfl, x, dx2, _, rfl, hx2, fl_no _ _ _ _ (by decide +kernel) (by decide +kernel) (by decide +kernel) (by decide +kernel), _, rfl, _, rfl, _, _, rfl, rfl, _, rfl, x, wl, n, pol, ws, hd, st + (len + 2), wi - (len + 2), false,
            congrArg (fun z => [V.ref x, V.int (st + z), V.int (wi - (len + 2)), V.bl false]) ew, M2, by omega, by omega, by omega, ?_⟩
          have M3 := M2.wrt (putTags ws (st + (len + 2)) (wi - (len + 2)) false)
          have lp := putTags_len ws (st + (len + 2)) (wi - (len + 2)) false
          obtain ⟨⟨dx3, hx3⟩, hw3⟩ := id M3
          have hset : ixN ((putTags ws (st + (len + 2)) (wi - (len + 2)) false).map V.int).length (st + (wi - (wi - (len + 2))) + 1) = some (st + (len + 2) + 1).toNat := by
            rw [ew]
            exact set_at (by omega) (by omega)
          refine ⟨_, rfl, _, rfl, x, C, dx3, _, _, rfl, hx3, T.cl, T.nWo, fl_words _ _ _ _, _, rfl, _, rfl, _, _, rfl, rfl, _, _, rfl, rfl, wl, _, _, _, rfl, rfl, hw3, hset, ?_⟩
          rw [set_map, upd_upd]
          refine ⟨_, rfl, _, rfl, _, _, rfl, rfl, ?_⟩
          refine ⟨_, _, _, rfl, M2.wrt _, (But.of s12).trans But.upd, ?_, .inl ⟨e3, rfl, congrArg (st + ·) ew, ew⟩⟩
          rw [wr_len, lp]
          exact hlw
        · have e3 : ¬ 3 ≤ wi - (len + 2) := fun q => h3 (decide_eq_true q)
          exact ⟨_, _, _, rfl, M2, But.of s12, hlw, .inr ⟨e3, rfl, rfl, rfl⟩⟩
      · rintro σ' H3 ⟨later', wide', ws1, rfl, M3, B3, hl3, hc⟩
        obtain ⟨⟨dx3, hx3⟩, hw3⟩ := id M3
        have hw2' : 3 ≤ wide' ∧ st + wide' ≤ n := by
          rcases hc with ⟨h1, _, _, h4⟩ | ⟨h1, _, _, h4⟩ <;> omega
        -- link
        refine ⟨_, rfl, x, dx3, _, rfl, hx3, fl_no _ _ _ _ (by decide +kernel) (by decide +kernel) (by decide +kernel) (by decide +kernel), _, rfl, _, rfl, x, wl, n, pol, ws1, hd, _, _, rfl, M3, (by rw [hl3]; exact hb), fun H4 M4 B4 => ?_⟩
        obtain ⟨⟨dx4, hx4⟩, hw4⟩ := id M4
        have ll := linkW_len ws1 (beforeF (freeOf as) st) later'
        -- put_tags
        refine ⟨_, rfl, x, dx4, _, rfl, hx4, fl_no _ _ _ _ (by decide +kernel) (by decide +kernel) (by decide +kernel) (by decide +kernel), _, rfl, _, rfl, x, wl, n, pol, _, _, _, _, true, rfl, M4, by omega, by omega, by omega, ?_⟩
        have lp := putTags_len (linkW ws1 (beforeF (freeOf as) st) later') st wide' true
        generalize hW : putTags (linkW ws1 (beforeF (freeOf as) st) later') st wide' true = W at lp
        -- the zeros
        have en : (st + wide' - 1 - (st + 1)).toNat = (wide' - 2).toNat := by
          have : st + wide' - 1 - (st + 1) = wide' - 2 := by omega
          rw [this]
        refine ⟨_, rfl, _, _, rfl, rfl, _, rfl, _, rfl, _, _, rfl, rfl, _, _, rfl, rfl, st + 1, st + wide' - 1, rfl, ⟨by omega, by omega, by omega, by omega⟩, ?_⟩
        rw [en]
        refine for_range (lo := st + 1) (n := (wide' - 2).toNat) (fun i σ H' => ∃ v9 : Option V, σ = [some (.ref x), some (.int len), some (.int (len + 2)), some (.ref tt), some (.int st), some (.int wide'), some (.int (beforeF (freeOf as) st)), some (.int later'), some (.int (wi - (len + 2))), v9] ∧
          H' = upd H4 wl (.lst ((zero W (st + 1) i).map V.int))) ⟨none, rfl, rfl⟩ ?_ ?_
        · rintro i σ H' hi ⟨v9, rfl, rfl⟩
          have M5 := M4.wrt (zero W (st + 1) i)
          obtain ⟨⟨dx5, hx5⟩, hw5⟩ := id M5
          have lz := zero_len W (st + 1) i
          refine ⟨_, rfl, x, C, dx5, _, _, rfl, hx5, T.cl, T.nWo, fl_words _ _ _ _, _, rfl, wl, _, _, _, rfl, rfl, hw5, set_at (by omega) (by omega), ?_⟩
          rw [set_map, upd_upd]
          exact ⟨_, rfl, rfl⟩
        · rintro σ H' ⟨v9, rfl, rfl⟩
          refine ⟨_, rfl, ?_⟩
          have M5 := M4.wrt (zero W (st + 1) (wide' - 2).toNat)
          refine ks st wi hp _ ?_ (B3.trans (B4.trans But.upd))
          rcases hc with ⟨h1, h2, h3, h4⟩ | ⟨h1, h2, h3, h4⟩
          · have e1 : allocW ws (beforeF (freeOf as) st) st wi (len + 2) (rd ws (st + 1)) = zero W (st + 1) (wide' - 2).toNat := by
              unfold allocW
              rw [if_pos h1, ← hW, h2, h3, h4]
            have e2 : allocH hd (beforeF (freeOf as) st) st wi (len + 2) (rd ws (st + 1)) = linkH hd (beforeF (freeOf as) st) later' := by
              unfold allocH
              rw [if_pos h1, h3]
            rw [e1, e2]
            exact M5
          · have e1 : allocW ws (beforeF (freeOf as) st) st wi (len + 2) (rd ws (st + 1)) = zero W (st + 1) (wide' - 2).toNat := by
              unfold allocW
              rw [if_neg h1, ← hW, h2, h3, h4]
            have e2 : allocH hd (beforeF (freeOf as) st) st wi (len + 2) (rd ws (st + 1)) = linkH hd (beforeF (freeOf as) st) later' := by
              unfold allocH
              rw [if_neg h1, h3]
            rw [e1, e2]
            exact M5
theorem scRel : FnScope ["self", "start", "wide", "before", "later", "first"] ["self", "start"] (defScope sRel) := ⟨rfl, rfl, rfl, by decide +kernel, rfl, by decide +kernel, by decide +kernel⟩
theorem ok_rel {f fF fB fL fP fW C : Addr} {fd fdF fdB fdL fdP fdW : FuncData} (F : Fun K "release" "Tagged.release" sRel f fd) (T : Txt K mg C)
    (GF : FnOk P w K mg base CX0 3 fF fdF ["self", "start"] (spFind C)) (bF : Binds K fdF ["self", "start"] []) (mF : Meth K C "find_used" fF)
    (GB : FnOk P w K mg base CX0 3 fB fdB ["self", "start"] (spBefore C)) (bB : Binds K fdB ["self", "start"] []) (mB : Meth K C "before" fB)
    (GL : FnOk P w K mg base CX0 1 fL fdL ["self", "before", "start"] (spLink C)) (bL : Binds K fdL ["self", "before", "start"] []) (mL : Meth K C "link" fL)
    (GP : FnOk P w K mg base CX0 1 fP fdP ["self", "start", "wide", "used"] (spPut C)) (bP : Binds K fdP ["self", "start", "wide", "used"] []) (mP : Meth K C "put_tags" fP)
    (GW : FnOk P w K mg base CX0 1 fW fdW ["self", "start"] (spWide C)) (bW : Binds K fdW ["self", "start"] []) (mW : Meth K C "wide" fW) :
    FnOk P w K mg base CX0 4 f fd ["self", "start"] (spRel C) := by
  refine F.ok scRel (fun vs H Q E h => ?_) (fun cdv A outer s H vs Q E hr h => ?_)
  · obtain ⟨x, wl, n, pol, ws, hd, pre, y, post, rfl, _⟩ := h
    rfl
  · obtain ⟨x, wl, n, pol, ws, hd, pre, y, post, rfl, M, N, hu, hn, k⟩ := h
    obtain ⟨tN, mN⟩ := T.none_
    have hr1 : Room 1 _ := hr.mono (by decide)
    refine ⟨_, pss_cons (ps_set (i := 2) scRel.nd rfl (Or.inl rfl) (pe_meth (pv 0) T.cl mF GF hr bF .nil pass0 (pa_cons (pv 1) pa_nil)))
      (pss_cons (ps_set (i := 3) scRel.nd rfl (Or.inl rfl) (pe_meth (pv 0) T.cl mB GB hr bB .nil pass0 (pa_cons (pv 1) pa_nil)))
      (pss_cons (ps_set (i := 4) scRel.nd rfl (Or.inl rfl) (pe_fld (pv 0) rfl))
      (C8.pss_cut (ps_if (pt_cmpR op_ne (pv 3) (pe_glob (v := .int (-1)) rfl mN ⟨_, rfl⟩) (nomark _)) (pss_one (ps_set (i := 4) scRel.nd rfl (Or.inl rfl) (pe_ix ix_list (pe_fld (pv 0) rfl) (pe_op op_add (pv 3) pe_int) (fun _ _ => rfl)))) pss_nil)
      (C8.pss_cut (ps_if (pt_cmpR op_eq (pv 4) (pe_op op_add (pv 1) (pv 2)) (nomark _))
        (pss_cons (ps_aug (i := 2) scRel.nd rfl (Or.inl rfl) (pe_meth (pv 0) T.cl mW GW hr1 bW .nil pass0 (pa_cons (pv 4) pa_nil)) ip_add)
        (pss_one (ps_set (i := 4) scRel.nd rfl (Or.inl rfl) (pe_ix ix_list (pe_fld (pv 0) rfl) (pe_op op_add (pv 4) pe_int) (fun _ _ => rfl))))) pss_nil)
      (pss_cons (ps_set (i := 5) scRel.nd rfl (Or.inl rfl) (pv 1))
      (C8.pss_cut (ps_if (PW.pt (pw_and (pt_cmpR op_gt (pv 1) pe_int (nomark _)) (pw_and1 (pt_cmpR op_eq (pe_op op_modN (pe_ix ix_list (pe_fld (pv 0) rfl) (pe_op op_sub (pv 1) pe_int) (fun _ _ => rfl)) pe_int) pe_int (nomark _)))))
        (pss_cons (ps_set (i := 5) scRel.nd rfl (Or.inl rfl) (pe_op op_sub (pv 1) (pe_op op_fdivN (pe_ix ix_list (pe_fld (pv 0) rfl) (pe_op op_sub (pv 1) pe_int) (fun _ _ => rfl)) pe_int)))
        (pss_one (ps_aug (i := 2) scRel.nd rfl (Or.inl rfl) (pe_op op_sub (pv 1) (pv 5)) ip_add))) pss_nil)
      (pss_cons (ps_expr (pe_meth (pv 0) T.cl mP GP hr1 bP .nil pass0 (pa_cons (pv 5) (pa_cons (pv 2) (pa_cons pe_bl pa_nil)))))
      (pss_cons (ps_asg (pv 4) (pg_sub (pe_fld (pv 0) rfl) (pe_op op_add (pv 5) pe_int) set_list))
      (pss_one (ps_if (pt_cmpR op_eq (pv 5) (pv 1) (nomark _)) (pss_one (ps_expr (pe_meth (pv 0) T.cl mL GL hr1 bL .nil pass0 (pa_cons (pv 3) (pa_cons (pv 1) pa_nil))))) pss_nil)))))))))), ?_⟩
    obtain ⟨⟨dx, hx⟩, hw⟩ := id M
    obtain ⟨later0, W1, later1, first, W2, PL, as', N', hU⟩ := release_mem N hu
    have hlw := N.len
    have hst := PL.st
    obtain ⟨c, q1, q2⟩ := Seg.app.mp N.seg
    have hc : y.s = c := q2.1
    have eb : beforeF (freeOf (pre ++ y :: post)) y.s = lastFree pre (-1) := by
      rw [hc]
      exact before_eq q1 q2
    -- wide, before, later
    refine ⟨_, rfl, x, dx, _, rfl, hx, fl_no _ _ _ _ (by decide +kernel) (by decide +kernel) (by decide +kernel) (by decide +kernel), _, rfl, x, wl, n, pol, ws, hd, pre, y, post, rfl, M, N, hu, hn, fun H1 s1 => ?_⟩
    have M1 := M.same s1
    obtain ⟨⟨dx1, hx1⟩, hw1⟩ := id M1
    refine ⟨_, rfl, x, dx1, _, rfl, hx1, fl_no _ _ _ _ (by decide +kernel) (by decide +kernel) (by decide +kernel) (by decide +kernel), _, rfl, x, wl, n, pol, ws, hd, y.s, _, rfl, M1, N.fl, N.smallF hn, fun H2 s2 => ?_⟩
    rw [eb]
    have M2 := M.same (s1.trans s2)
    obtain ⟨⟨dx2, hx2⟩, hw2⟩ := id M2
    have s12 := s1.trans s2
    refine ⟨_, rfl, x, C, dx2, _, _, rfl, hx2, T.cl, T.nHe, fl_head _ _ _ _, ?_⟩
    refine ⟨fun σ' H' => σ' = [some (.ref x), some (.int y.s), some (.int y.w), some (.int (lastFree pre (-1))), some (.int later0), none] ∧ H' = H2, ?_, ?_⟩
    · refine ⟨_, rfl, rfl, _, rfl, ?_⟩
      rw [dec_int]
      rcases PL.link with ⟨h1, h2⟩ | ⟨h1, h2, h3, h4⟩
      · rw [h1, h2]
        exact iteF ⟨rfl, rfl⟩
      · have e : (lastFree pre (-1) == -1) = false := by simpa using h1
        rw [e]
        refine iteT ⟨_, rfl, x, C, dx2, _, _, rfl, hx2, T.cl, T.nWo, fl_words _ _ _ _, _, rfl, _, _, rfl, rfl, wl, _, _, _, rfl, rfl, SqL.of hw2, get_at h2 (by omega), ?_⟩
        rw [h4]
        exact ⟨rfl, rfl⟩
    rintro σ' Ha ⟨rfl, rfl⟩
    refine ⟨fun σ' H' => σ' = [some (.ref x), some (.int y.s), some (.int W1), some (.int (lastFree pre (-1))), some (.int later1), none] ∧ H' = Ha, ?_, ?_⟩
    · refine ⟨_, rfl, _, rfl, _, rfl, _, _, rfl, rfl, rfl, _, rfl, ?_⟩
      rw [dec_int]
      rcases PL.next with ⟨h1, h2, h3, h4, h5⟩ | ⟨h1, h2, h3⟩
      · have e : (later0 == y.s + y.w) = true := by simpa using h1
        rw [e]
        refine iteT ⟨_, rfl, _, rfl, x, dx2, _, rfl, hx2, fl_no _ _ _ _ (by decide +kernel) (by decide +kernel) (by decide +kernel) (by decide +kernel), _, rfl, x, wl, n, pol, ws, hd, later0, rfl, M2, h2, by omega, ?_⟩
        refine ⟨_, _, rfl, rfl, ?_⟩
        refine ⟨_, rfl, x, C, dx2, _, _, rfl, hx2, T.cl, T.nWo, fl_words _ _ _ _, _, rfl, _, _, rfl, rfl, wl, _, _, _, rfl, rfl, SqL.of hw2, get_at (by omega) (by omega), ?_⟩
        rw [h4, h5]
        exact ⟨rfl, rfl⟩
      · have e : (later0 == y.s + y.w) = false := by simpa using h1
        rw [e]
        refine iteF ?_
        rw [h2, h3]
        exact ⟨rfl, rfl⟩
    rintro σ' Hb ⟨rfl, rfl⟩
    refine ⟨_, rfl, ?_⟩
    refine ⟨fun σ' H' => σ' = [some (.ref x), some (.int y.s), some (.int W2), some (.int (lastFree pre (-1))), some (.int later1), some (.int first)] ∧ H' = Hb, ?_, ?_⟩
    · refine ⟨_, rfl, _, _, rfl, rfl, _, rfl, ?_⟩
      rcases PL.prev with ⟨h1, h2, h3, h4, h5⟩ | ⟨h1, h2, h3⟩
      · have e : decide (0 < y.s) = true := decide_eq_true h1
        rw [e]
        refine iteT ⟨_, rfl, x, C, dx2, _, _, rfl, hx2, T.cl, T.nWo, fl_words _ _ _ _, _, rfl, _, _, rfl, rfl, wl, _, _, _, rfl, rfl, SqL.of hw2, get_at (by omega) (by omega), _, _, rfl, rfl, (by show (2 : Int) ≠ 0; decide), rfl, _, rfl, ?_⟩
        rw [dec_int, h2]
        refine iteT ⟨_, rfl, _, rfl, x, C, dx2, _, _, rfl, hx2, T.cl, T.nWo, fl_words _ _ _ _, _, rfl, _, _, rfl, rfl, wl, _, _, _, rfl, rfl, SqL.of hw2, get_at (by omega) (by omega), _, _, rfl, rfl, ⟨by decide, by decide⟩, _, _, rfl, rfl, ?_⟩
        refine ⟨_, rfl, _, rfl, _, rfl, _, _, rfl, rfl, _, _, rfl, rfl, ?_⟩
        rw [h4, h3]
        exact ⟨rfl, rfl⟩
      · by_cases h0 : 0 < y.s
        · have e : decide (0 < y.s) = true := decide_eq_true h0
          rw [e]
          refine iteT ⟨_, rfl, x, C, dx2, _, _, rfl, hx2, T.cl, T.nWo, fl_words _ _ _ _, _, rfl, _, _, rfl, rfl, wl, _, _, _, rfl, rfl, SqL.of hw2, get_at (by omega) (by omega), _, _, rfl, rfl, (by show (2 : Int) ≠ 0; decide), rfl, _, rfl, ?_⟩
          have e2 : ((rd ws (y.s - 1)).fmod 2 == 0) = false := by simpa using h1 h0
          rw [dec_int, e2]
          refine iteF ?_
          rw [h2, h3]
          exact ⟨rfl, rfl⟩
        · have e : decide (0 < y.s) = false := decide_eq_false h0
          rw [e]
          refine iteF (iteF ?_)
          rw [h2, h3]
          exact ⟨rfl, rfl⟩
    rintro σ' Hc ⟨rfl, rfl⟩
    -- put_tags(first, wide, False); words[first + 1] = later
    have p1 := PL.f0
    have p2 := PL.w3
    have p3 := PL.fin
    refine ⟨_, rfl, x, dx2, _, rfl, hx2, fl_no _ _ _ _ (by decide +kernel) (by decide +kernel) (by decide +kernel) (by decide +kernel), _, rfl, _, rfl, x, wl, n, pol, ws, hd, first, W2, false, rfl, M2, p1, by omega, by omega, ?_⟩
    have M3 := M2.wrt (putTags ws first W2 false)
    have lp := putTags_len ws first W2 false
    obtain ⟨⟨dx3, hx3⟩, hw3⟩ := id M3
    refine ⟨_, rfl, _, rfl, x, C, dx3, _, _, rfl, hx3, T.cl, T.nWo, fl_words _ _ _ _, _, rfl, _, _, rfl, rfl, wl, _, _, _, rfl, rfl, hw3, set_at (by omega) (by omega), ?_⟩
    rw [set_map, upd_upd]
    have M4 := M2.wrt (wr (putTags ws first W2 false) (first + 1) later1)
    have lr := wr_len (putTags ws first W2 false) (first + 1) later1
    obtain ⟨⟨dx4, hx4⟩, hw4⟩ := id M4
    have B4 : But x wl H (upd Hc wl (.lst ((wr (putTags ws first W2 false) (first + 1) later1).map V.int))) := (But.of s12).trans But.upd
    refine ⟨_, rfl, _, rfl, rfl, _, rfl, ?_⟩
    rw [dec_int]
    by_cases hf : first = y.s
    · have e : (first == y.s) = true := by simpa using hf
      rw [e]
      refine iteT ⟨_, rfl, x, dx4, _, rfl, hx4, fl_no _ _ _ _ (by decide +kernel) (by decide +kernel) (by decide +kernel) (by decide +kernel), _, rfl, _, rfl, x, wl, n, pol, _, hd, lastFree pre (-1), y.s, rfl, M4, ?_, fun H5 M5 B5 => ?_⟩
      · rcases PL.link with ⟨h1, h2⟩ | ⟨h1, h2, h3, h4⟩
        · exact .inl h1
        · exact .inr ⟨h2, by omega⟩
      · refine k H5 _ _ as' ?_ N' hU (B4.trans B5)
        unfold relW relH
        rw [if_pos hf, if_pos hf]
        exact M5
    · have e : (first == y.s) = false := by simpa using hf
      rw [e]
      refine iteF (k _ _ _ as' ?_ N' hU B4)
      unfold relW relH
      rw [if_neg hf, if_neg hf]
      exact M4
theorem scInit : FnScope ["self", "size", "policy", "place"] ["self", "size", "policy"] (defScope sInit) := ⟨rfl, rfl, rfl, by decide +kernel, rfl, by decide +kernel, by decide +kernel⟩
theorem ok_init {f fP C : Addr} {fd fdP : FuncData} (F : Fun K "__init__" "Tagged.__init__" sInit f fd) (T : Txt K mg C)
    (GP : FnOk P w K mg base CX0 1 fP fdP ["self", "start", "wide", "used"] (spPut C)) (bP : Binds K fdP ["self", "start", "wide", "used"] []) (mP : Meth K C "put_tags" fP) :
    FnOk P w K mg base CX0 2 f fd ["self", "size", "policy"] (spInit C) := by
  refine F.ok scInit (fun vs H Q E h => ?_) (fun cdv A outer s H vs Q E hr h => ?_)
  · obtain ⟨x, dx, n, pol, rfl, _⟩ := h
    rfl
  · obtain ⟨x, dx, n, pol, rfl, hx, hn, hn2, k⟩ := h
    obtain ⟨tN, mN⟩ := T.none_
    refine ⟨_, pss_cons (ps_fld (pv 0) (pv 1) rfl) (pss_cons (ps_fld (pv 0) (pv 2) rfl)
      (pss_cons (ps_fld (pv 0) (pe_lc (own := [("place", 3)]) (g := gName 3) (tt := tYes) rfl scInit.nd (pi_range1 (by rfl) T.range (pa_cons (pv 1) pa_nil))
        (blkOk_by (own := [("place", 3)]) (N := ["self", "size", "policy", "place"]) (sc := defScope sInit) (by decide +kernel)) (fun _ _ _ _ _ => pg_name (i := 3) scInit.nd rfl (Or.inl rfl)) (fun _ _ _ _ _ => pts_nil) (fun _ _ _ _ _ => pe_int)) rfl)
      (pss_cons (ps_fld (pv 0) pe_int rfl)
      (pss_cons (ps_expr (pe_meth (pv 0) T.cl mP GP hr bP .nil pass0 (pa_cons pe_int (pa_cons (pv 1) (pa_cons pe_bl pa_nil)))))
      (pss_one (ps_asg (pe_glob (v := .int (-1)) rfl mN ⟨_, rfl⟩) (pg_sub (pe_fld (pv 0) rfl) pe_int set_list))))))), ?_⟩
    refine ⟨_, rfl, _, rfl, x, C, dx, [], rfl, hx, T.cl, T.nSi, (by show 0 < 1000; decide), ?_⟩
    refine ⟨_, rfl, _, rfl, x, C, dx, _, rfl, upd_same, T.cl, T.nPo, (by show 1 < 1000; decide), ?_⟩
    rw [upd_upd]
    refine ⟨_, rfl, n, rfl, by omega, by omega, fun D hD => ?_⟩
    have nDx : D ≠ x := fun e => by
      rw [e, upd_same] at hD
      cases hD
    have hD0 : H D = none := by
      rw [upd_ne nDx] at hD
      exact hD
    refine lc_range (lo := 0) (n := n.toNat) (fun i H' => H' = upd (upd H x (.ins C dx (putF "policy" (.str pol) (putF "size" (.int n) [])))) D (.lst (List.replicate i (V.int 0)))) rfl ?_ ?_
    · rintro i H' hi rfl
      refine ⟨rfl, _, upd_same, ?_, ?_⟩
      · rw [List.length_replicate]
        exact small1000 (by omega)
      · rw [upd_upd, ← List.replicate_succ']
    · rintro H' rfl
      have z1 : (putF "policy" (.str pol) (putF "size" (.int n) [])).length ≤ 2 := Nat.le_trans (length_putF _ _ _) (Nat.succ_le_succ (length_putF _ _ _))
      have z2 : (putF "words" (.ref D) (putF "policy" (.str pol) (putF "size" (.int n) []))).length ≤ 3 := Nat.le_trans (length_putF _ _ _) (Nat.succ_le_succ z1)
      refine ⟨_, rfl, x, C, dx, _, rfl, (upd_ne nDx.symm).trans upd_same, T.cl, T.nWo, Nat.lt_of_le_of_lt z1 (by decide), ?_⟩
      refine ⟨_, rfl, x, C, dx, _, rfl, upd_same, T.cl, T.nHe, Nat.lt_of_le_of_lt z2 (by decide), ?_⟩
      rw [upd_upd, fl_made]
      have el : (List.replicate n.toNat (V.int 0)) = (List.replicate n.toNat (0 : Int)).map V.int := by rw [List.map_replicate]
      rw [el]
      generalize hG : upd (upd (upd H x (.ins C dx (putF "policy" (.str pol) (putF "size" (.int n) [])))) D (.lst ((List.replicate n.toNat (0 : Int)).map V.int))) x (.ins C dx (fl n pol D 0)) = G
      have MG : MemAt C G x D n pol (List.replicate n.toNat 0) 0 := by
        rw [← hG]
        exact ⟨⟨dx, upd_same⟩, (upd_ne nDx).trans upd_same⟩
      have BG : ∀ b o, H b = some o → b ≠ x → G b = some o := fun b o e hb => by
        rw [← hG, upd_ne hb, upd_ne (ne_of_none e hD0), upd_ne hb]
        exact e
      obtain ⟨⟨dg, hgx⟩, hgw⟩ := id MG
      have l0 : ((List.replicate n.toNat (0 : Int)).length : Int) = n := by
        rw [List.length_replicate]
        omega
      refine ⟨_, rfl, x, dg, _, rfl, hgx, fl_no _ _ _ _ (by decide +kernel) (by decide +kernel) (by decide +kernel) (by decide +kernel), _, rfl, x, D, n, pol, _, 0, 0, n, false, rfl, MG, by omega, by omega, by omega, ?_⟩
      have M2 := MG.wrt (putTags (List.replicate n.toNat 0) 0 n false)
      have lp := putTags_len (List.replicate n.toNat 0) 0 n false
      obtain ⟨⟨dh, hhx⟩, hhw⟩ := id M2
      refine ⟨_, rfl, x, C, dh, _, _, rfl, hhx, T.cl, T.nWo, fl_words _ _ _ _, D, _, _, _, rfl, rfl, hhw, set_at (by omega) (by omega), ?_⟩
      rw [set_map, upd_upd]
      refine k _ D (MG.wrt _) hD0 fun b o e hb => ?_
      rw [upd_ne (ne_of_none e hD0)]
      exact BG b o e hb
end
end K23
/-! K23W4: gaps, place_block. -/
namespace K23
open PySem L2
section
variable {P : Program} {w : World} {K : PySem.W.Frag} {mg : Str → Option Value} {base : Heap}
theorem scGaps : FnScope ["size", "layout", "found", "end", "start", "length"] ["size", "layout"] (defScope sGaps) := ⟨rfl, rfl, rfl, by decide +kernel, rfl, by decide +kernel, by decide +kernel⟩
theorem gaps_step {n : Int} {ps : List (Int × Int)} {i : Nat} {p : Int × Int} {e : Int} (h : ps[i]? = some p) : gapsGo n (ps.drop i) e = (if e < p.1 then [(e, p.1 - e)] else []) ++ gapsGo n (ps.drop (i + 1)) (p.1 + p.2) := by
  obtain ⟨hlt, rfl⟩ := List.getElem?_eq_some_iff.mp h
  rw [List.drop_eq_getElem_cons hlt]
  rfl
theorem ok_gaps {f : Addr} {fd : FuncData} (F : Fun K "gaps" "gaps" sGaps f fd) : FnOk P w K mg base CX0 1 f fd ["size", "layout"] (spGaps K) := by
  refine F.ok scGaps (fun vs H Q E h => ?_) (fun cdv A outer s H vs Q E hr h => ?_)
  · obtain ⟨n, a, ts, ps, rfl, _⟩ := h
    rfl
  · obtain ⟨n, a, ts, ps, rfl, hS, hP, hlen, k⟩ := h
    refine ⟨_, pss_cons (ps_set (i := 2) scGaps.nd rfl (Or.inl rfl) (pe_lst pa_nil)) (pss_cons (ps_set (i := 3) scGaps.nd rfl (Or.inl rfl) pe_int)
      (pss_cons (ps_for PassesOwn.never rfl (pi_list (pv 1)) (pg_tup rfl (pgs_cons (pg_name (i := 4) scGaps.nd rfl (Or.inl rfl)) (pgs_cons (pg_name (i := 5) scGaps.nd rfl (Or.inl rfl)) pgs_nil)))
        (C8.pss_cut (ps_if (pt_cmpR op_gt (pv 4) (pv 3) (nomark _))
          (pss_one (ps_expr (pe_bm PySem.F.plainAttrs_list PySem.F.slot_list_append PySem.F.type_list_append mt_append (pv 2) (pa_cons (pe_tup (pa_cons (pv 3) (pa_cons (pe_op op_sub (pv 4) (pv 3)) pa_nil))) pa_nil)))) pss_nil)
        (pss_one (ps_set (i := 3) scGaps.nd rfl (Or.inl rfl) (pe_op op_add (pv 4) (pv 5))))))
      (pss_cons (ps_if (pt_cmpR op_lt (pv 3) (pv 0) (nomark _))
          (pss_one (ps_expr (pe_bm PySem.F.plainAttrs_list PySem.F.slot_list_append PySem.F.type_list_append mt_append (pv 2) (pa_cons (pe_tup (pa_cons (pv 3) (pa_cons (pe_op op_sub (pv 0) (pv 3)) pa_nil))) pa_nil)))) pss_nil)
      (pss_one (ps_ret (pv 2)))))), ?_⟩
    refine ⟨Nat.zero_le _, fun l hl => ?_⟩
    have s0 : Same H (upd H l (.lst [])) := same_upd hl
    have hlen2 : ts.length = ps.length := paired_len hP
    -- an append of a pair
    have app : ∀ (H1 : Hp) (us : List V) (acc : List (Int × Int)) (t : Addr) (p : Int × Int), Same H H1 → H1 l = some (.lst us) → Paired (P2 H1) us acc → H1 t = none →
        Same H (upd (upd H1 t (.tup [.int p.1, .int p.2])) l (.lst (us ++ [.ref t]))) ∧ (upd H1 t (.tup [.int p.1, .int p.2])) l = some (.lst us) ∧ Paired (P2 (upd (upd H1 t (.tup [.int p.1, .int p.2])) l (.lst (us ++ [.ref t])))) (us ++ [.ref t]) (acc ++ [p]) := fun H1 us acc t p s1 hL hU ht => by
      have st1 : Same H1 (upd H1 t (.tup [.int p.1, .int p.2])) := same_upd ht
      have ntl : t ≠ l := (ne_of_none hL ht).symm
      refine ⟨same_new (s1.trans st1) hl, st1 _ _ hL, Paired.snoc (Paired.mapP hU fun v q ⟨t', e, z⟩ => ⟨t', e, ?_⟩) ⟨t, rfl, ?_⟩⟩
      · rw [upd_ne (ne_of z hL (by intro y; cases y))]
        exact st1 _ _ z
      · rw [upd_ne ntl, upd_same]
    refine ⟨_, rfl, a, rfl, ⟨_, s0.seq hS⟩, for_list (K := K) (a := a) (xs := ts) (fun i σ H' => ∃ (e : Int) (us : List V) (acc : List (Int × Int)) (v4 v5 : Option V), σ = [some (.int n), some (.ref a), some (.ref l), some (.int e), v4, v5] ∧ Same H H' ∧ H' l = some (.lst us) ∧ Paired (P2 H') us acc ∧ acc.length ≤ i ∧ gapsGo n ps 0 = acc ++ gapsGo n (ps.drop i) e)
      ⟨0, [], [], none, none, rfl, s0, upd_same, .nil, Nat.zero_le _, rfl⟩ (fun i σ H' _ ⟨_, _, _, _, _, _, s2, _⟩ => s2.seq hS) ?_ ?_⟩
    · rintro i v σ H' hi ⟨e, us, acc, v4, v5, rfl, s1, hL, hU, hz, hg⟩
      obtain ⟨p, hp, t, rfl, ht⟩ := pa_get hP hi
      have hi2 : i < ps.length := (List.getElem?_eq_some_iff.mp hp).1
      rw [gaps_step hp] at hg
      refine ⟨t, _, rfl, SqT.of (s1 _ _ ht), rfl, _, _, rfl, _, _, rfl, rfl, ?_⟩
      refine ⟨fun σ' H'' => ∃ (us' : List V) (acc' : List (Int × Int)), σ' = [some (.int n), some (.ref a), some (.ref l), some (.int e), some (.int p.1), some (.int p.2)] ∧ Same H H'' ∧ H'' l = some (.lst us') ∧ Paired (P2 H'') us' acc' ∧ acc'.length ≤ i + 1 ∧ gapsGo n ps 0 = acc' ++ gapsGo n (ps.drop (i + 1)) (p.1 + p.2), ?_, ?_⟩
      · refine ⟨_, rfl, _, rfl, _, _, rfl, rfl, _, rfl, ?_⟩
        refine ite2 (fun h1 => ?_) (fun h1 => ?_)
        · have e1 : e < p.1 := of_decide_eq_true h1
          rw [if_pos e1] at hg
          refine ⟨_, rfl, .inl ⟨rfl, _, SqL.of hL⟩, _, rfl, _, rfl, _, rfl, _, _, rfl, rfl, (by show 2 ≤ sizeLine; decide), fun tt htt => ?_⟩
          obtain ⟨m1, m2, m3⟩ := app H' us acc tt (e, p.1 - e) s1 hL hU htt
          refine ⟨l, _, _, rfl, rfl, m2, (by rw [paired_len hU]; exact small1000 (by omega)), ?_⟩
          refine ⟨_, acc ++ [(e, p.1 - e)], rfl, m1, upd_same, m3, (by rw [List.length_append, List.length_singleton]; omega), ?_⟩
          rw [hg, List.append_assoc]
        · have e1 : ¬ e < p.1 := fun q => h1 (decide_eq_true q)
          rw [if_neg e1] at hg
          exact ⟨us, acc, rfl, s1, hL, hU, by omega, hg⟩
      · rintro σ' H'' ⟨us', acc', rfl, s2, hL2, hU2, hz2, hg2⟩
        refine ⟨_, rfl, _, rfl, _, _, rfl, rfl, ?_⟩
        exact ⟨_, us', acc', _, _, rfl, s2, hL2, hU2, hz2, hg2⟩
    · rintro σ H' ⟨e, us, acc, v4, v5, rfl, s1, hL, hU, hz, hg⟩
      rw [hlen2, List.drop_length] at hg
      have hg' : gapsGo n ps 0 = acc ++ (if e < n then [(e, n - e)] else []) := hg
      refine ⟨_, rfl, _, rfl, _, _, rfl, rfl, _, rfl, ?_⟩
      refine ite2 (fun h1 => ?_) (fun h1 => ?_)
      · have e1 : e < n := of_decide_eq_true h1
        rw [if_pos e1] at hg'
        refine ⟨_, rfl, .inl ⟨rfl, _, SqL.of hL⟩, _, rfl, _, rfl, _, rfl, _, _, rfl, rfl, (by show 2 ≤ sizeLine; decide), fun tt htt => ?_⟩
        obtain ⟨m1, m2, m3⟩ := app H' us acc tt (e, n - e) s1 hL hU htt
        refine ⟨l, _, _, rfl, rfl, m2, (by rw [paired_len hU]; exact small1000 (by omega)), ?_⟩
        refine ⟨_, rfl, ?_⟩
        refine k _ l _ m1 hl upd_same ?_
        rw [hg']
        exact m3
      · have e1 : ¬ e < n := fun q => h1 (decide_eq_true q)
        rw [if_neg e1, List.append_nil] at hg'
        refine ⟨_, rfl, ?_⟩
        refine k _ l _ s1 hl hL ?_
        rw [hg']
        exact hU
theorem scPlace : FnScope ["size", "layout", "length", "policy", "cursor", "best", "start", "wide"] ["size", "layout", "length", "policy", "cursor"] (defScope sPlace) := ⟨rfl, rfl, rfl, by decide +kernel, rfl, by decide +kernel, by decide +kernel⟩
theorem ok_place {f fG : Addr} {fd fdG : FuncData} (F : FunD K "place_block" "place_block" (defArgs sPlace) (defBody sPlace) (defScope sPlace) [.int 0] [] f fd) (FG : Fun K "gaps" "gaps" sGaps fG fdG) (bG : Binds K fdG ["size", "layout"] []) (mG : mg "gaps" = some (.ref fG)) :
    FnOk P w K mg base CX0 2 f fd ["size", "layout", "length", "policy", "cursor"] (spPlace K) := by
  have GG : FnOk P w K mg base CX0 1 fG fdG ["size", "layout"] (spGaps K) := ok_gaps FG
  refine F.ok scPlace (fun vs H Q E h => ?_) (fun cdv A outer s H vs Q E hr h => ?_)
  · obtain ⟨n, a, need, pol, ts, ps, rfl, _⟩ := h
    rfl
  · obtain ⟨n, a, need, pol, ts, ps, rfl, hS, hP, hlen, hnx, kn, ks⟩ := h
    refine ⟨_, PSs.nox (pss_cons (ps_if (pt_cmpR op_eq (pv 3) pe_str (nomark _)) pss_never pss_nil)
      (pss_cons (ps_set (i := 5) scPlace.nd rfl (Or.inl rfl) pe_non)
      (pss_cons (ps_for PassesOwn.never rfl (pi_list (pe_call GG hr (by rfl) mG FG.kp bG .nil pass0 (pa_cons (pv 0) (pa_cons (pv 1) pa_nil)))) (pg_tup rfl (pgs_cons (pg_name (i := 6) scPlace.nd rfl (Or.inl rfl)) (pgs_cons (pg_name (i := 7) scPlace.nd rfl (Or.inl rfl)) pgs_nil)))
        (pss_cons (ps_if (pt_cmpR op_lt (pv 7) (pv 2) (nomark _)) (pss_one ps_continue) pss_nil)
        (pss_one (ps_if (pt_cmpR op_isN (pv 5) pe_non (nomark _)) (pss_one (ps_set (i := 5) scPlace.nd rfl (Or.inl rfl) (pe_tup (pa_cons (pv 6) (pa_cons (pv 7) pa_nil)))))
          (pss_one (ps_if (PW.pt (pw_and (pt_cmpR op_eq (pv 3) pe_str (nomark _)) (pw_and1 (pt_cmpR op_lt (pv 7) (pe_ix ix_tup (pv 5) pe_int (fun _ _ => rfl)) (nomark _)))))
            (pss_one (ps_set (i := 5) scPlace.nd rfl (Or.inl rfl) (pe_tup (pa_cons (pv 6) (pa_cons (pv 7) pa_nil)))))
            (pss_one (ps_if (PW.pt (pw_and (pt_cmpR op_eq (pv 3) pe_str (nomark _)) (pw_and1 (pt_cmpR op_gt (pv 7) (pe_ix ix_tup (pv 5) pe_int (fun _ _ => rfl)) (nomark _)))))
              (pss_one (ps_set (i := 5) scPlace.nd rfl (Or.inl rfl) (pe_tup (pa_cons (pv 6) (pa_cons (pv 7) pa_nil)))))
              pss_nil))))))))
      (pss_cons (ps_if (pt_cmpR op_isN (pv 5) pe_non (nomark _)) (pss_one (ps_ret pe_non)) pss_nil)
      (pss_one (ps_ret (pe_ix ix_tup (pv 5) pe_int (fun _ _ => rfl)))))))), ?_⟩
    refine ⟨_, rfl, rfl, _, rfl, ?_⟩
    rw [hnx]
    refine iteF ?_
    refine ⟨_, rfl, _, rfl, n, a, ts, ps, rfl, hS, hP, hlen, fun H1 l us s1 hl hL hU => ?_⟩
    generalize hqs : gapsGo n ps 0 = qs at hU kn ks
    have hlen2 : us.length = qs.length := paired_len hU
    refine ⟨l, rfl, ⟨_, SqL.of hL⟩, for_list (K := K) (a := l) (xs := us) (fun i σ H' => ∃ (bv : V) (v3 v4 : Option V), σ = [some (.int n), some (.ref a), some (.int need), some (.str pol), some (.int 0), some bv, v3, v4] ∧ Same H1 H' ∧ BestV H' bv ((qs.take i).foldl (pickStep (pbOf pol) (pwOf pol) need) none))
      ⟨_, none, none, rfl, Same.refl _, rfl⟩ (fun i σ H' _ ⟨_, _, _, _, s2, _⟩ => SqL.of (s2 _ _ hL)) ?_ ?_⟩
    · rintro i v σ H' hi ⟨bv, v3, v4, rfl, s2, hB⟩
      obtain ⟨p, hp, t, rfl, ht⟩ := pa_get hU hi
      have hN := pk_next (pb := pbOf pol) (pw := pwOf pol) (need := need) hp
      refine ⟨t, _, rfl, SqT.of (s2 _ _ ht), rfl, _, _, rfl, _, _, rfl, rfl, ?_⟩
      refine ⟨_, rfl, _, rfl, _, _, rfl, rfl, _, rfl, ?_⟩
      refine ite2 (fun h1 => ?_) (fun h1 => ?_)
      · have h1' : p.2 < need := of_decide_eq_true h1
        refine ⟨bv, _, _, rfl, s2, ?_⟩
        rw [hN]
        unfold pickStep
        rw [if_pos h1']
        exact hB
      · have h1' : ¬ p.2 < need := fun q => h1 (decide_eq_true q)
        have made : ∀ (H3 : Hp), H3 = H' → ∀ tt : Addr, H3 tt = none → Same H1 (upd H3 tt (.tup [.int p.1, .int p.2])) ∧ BestV (upd H3 tt (.tup [.int p.1, .int p.2])) (.ref tt) (some p) := fun H3 e tt ht => by
          subst e
          exact ⟨s2.trans (same_upd ht), tt, rfl, upd_same⟩
        refine ⟨_, rfl, rfl, _, rfl, ?_⟩
        cases hb : (qs.take i).foldl (pickStep (pbOf pol) (pwOf pol) need) none with
        | none =>
          rw [hb] at hB hN
          have eb : bv = .non := hB
          subst eb
          refine iteT ⟨_, rfl, _, rfl, (by show 2 ≤ sizeLine; decide), fun tt htt => ?_⟩
          obtain ⟨m1, m2⟩ := made _ rfl tt htt
          refine ⟨_, _, _, rfl, m1, ?_⟩
          rw [hN]
          unfold pickStep
          rw [if_neg h1']
          exact m2
        | some b =>
          rw [hb] at hB hN
          rw [hB.notnon]
          obtain ⟨tb, rfl, htb⟩ := id hB
          have h2 : atI [V.int b.1, V.int b.2] 1 = some (.int b.2) := rfl
          have hN2 : pickStep (pbOf pol) (pwOf pol) need (some b) p = if (pbOf pol && decide (p.2 < b.2)) = true then some p else if (pwOf pol && decide (b.2 < p.2)) = true then some p else some b := by
            unfold pickStep
            rw [if_neg h1']
          rw [hN2] at hN
          have keep : BestV H' (.ref tb) (some b) := hB
          refine iteF ⟨_, rfl, rfl, _, rfl, ?_⟩
          cases hpb : pbOf pol with
          | false =>
            have eb : decide (V.str pol = V.str "best") = false := hpb
            rw [eb]
            rw [hpb, Bool.false_and, if_neg Bool.false_ne_true] at hN
            refine iteF (iteF ?_)
            refine ⟨_, rfl, rfl, _, rfl, ?_⟩
            cases hpw : pwOf pol with
            | false =>
              have ew : decide (V.str pol = V.str "worst") = false := hpw
              rw [ew]
              refine iteF (iteF ⟨_, _, _, rfl, s2, ?_⟩)
              rw [hpw] at hN
              rw [hN]
              exact keep
            | true =>
              have ew : decide (V.str pol = V.str "worst") = true := hpw
              rw [ew]
              rw [hpw] at hN
              refine iteT ⟨_, rfl, _, rfl, tb, _, _, _, rfl, rfl, SqT.of htb, h2, _, _, rfl, rfl, _, rfl, ?_⟩
              refine ite2 (fun h3 => ?_) (fun h3 => ?_)
              · have e3 : b.2 < p.2 := of_decide_eq_true h3
                refine ⟨_, rfl, _, rfl, (by show 2 ≤ sizeLine; decide), fun tt htt => ?_⟩
                obtain ⟨m1, m2⟩ := made _ rfl tt htt
                refine ⟨_, _, _, rfl, m1, ?_⟩
                rw [hN, decide_eq_true e3]
                exact m2
              · have e3 : ¬ b.2 < p.2 := fun q => h3 (decide_eq_true q)
                refine ⟨_, _, _, rfl, s2, ?_⟩
                rw [hN, decide_eq_false e3]
                exact keep
          | true =>
            have eb : decide (V.str pol = V.str "best") = true := hpb
            rw [eb]
            rw [hpb, Bool.true_and] at hN
            refine iteT ⟨_, rfl, _, rfl, tb, _, _, _, rfl, rfl, SqT.of htb, h2, _, _, rfl, rfl, _, rfl, ?_⟩
            refine ite2 (fun h3 => ?_) (fun h3 => ?_)
            · have e3 : p.2 < b.2 := of_decide_eq_true h3
              refine ⟨_, rfl, _, rfl, (by show 2 ≤ sizeLine; decide), fun tt htt => ?_⟩
              obtain ⟨m1, m2⟩ := made _ rfl tt htt
              refine ⟨_, _, _, rfl, m1, ?_⟩
              rw [hN, decide_eq_true e3]
              exact m2
            · have e3 : ¬ p.2 < b.2 := fun q => h3 (decide_eq_true q)
              rw [decide_eq_false e3, if_neg Bool.false_ne_true] at hN
              refine ⟨_, rfl, rfl, _, rfl, ?_⟩
              cases hpw : pwOf pol with
              | false =>
                have ew : decide (V.str pol = V.str "worst") = false := hpw
                rw [ew]
                refine iteF (iteF ⟨_, _, _, rfl, s2, ?_⟩)
                rw [hpw] at hN
                rw [hN]
                exact keep
              | true =>
                have ew : decide (V.str pol = V.str "worst") = true := hpw
                rw [ew]
                rw [hpw] at hN
                refine iteT ⟨_, rfl, _, rfl, tb, _, _, _, rfl, rfl, SqT.of htb, h2, _, _, rfl, rfl, _, rfl, ?_⟩
                refine ite2 (fun h3 => ?_) (fun h3 => ?_)
                · have e3 : b.2 < p.2 := of_decide_eq_true h3
                  refine ⟨_, rfl, _, rfl, (by show 2 ≤ sizeLine; decide), fun tt htt => ?_⟩
                  obtain ⟨m1, m2⟩ := made _ rfl tt htt
                  refine ⟨_, _, _, rfl, m1, ?_⟩
                  rw [hN, decide_eq_true e3]
                  exact m2
                · have e3 : ¬ b.2 < p.2 := fun q => h3 (decide_eq_true q)
                  refine ⟨_, _, _, rfl, s2, ?_⟩
                  rw [hN, decide_eq_false e3]
                  exact keep
    · rintro σ H' ⟨bv, v3, v4, rfl, s2, hB⟩
      rw [hlen2, take_all] at hB
      have s3 := s1.trans s2
      refine ⟨_, rfl, rfl, _, rfl, ?_⟩
      cases hb : pick (pbOf pol) (pwOf pol) need qs with
      | none =>
        unfold pick at hb
        rw [hb] at hB
        have e : bv = .non := hB
        subst e
        exact iteT (kn (by unfold pick; exact hb) _ s3)
      | some p =>
        unfold pick at hb
        rw [hb] at hB
        rw [hB.notnon]
        obtain ⟨tb, rfl, htb⟩ := id hB
        exact iteF ⟨_, rfl, tb, _, _, _, rfl, rfl, SqT.of htb, rfl, ks p.1 p.2 (by unfold pick; exact hb) _ s3⟩
end
end K23
/-! K23W5: the law's helpers: _law_cell, _law_digits, _law_draw, _law_request, _law_piece. -/
namespace K23
open PySem L2
section
variable {P : Program} {w : World} {K : PySem.W.Frag} {mg : Str → Option Value} {base : Heap}
theorem scCell : FnScope ["_law_script", "_law_k"] ["_law_script", "_law_k"] (defScope sCell) := ⟨rfl, rfl, rfl, by decide +kernel, rfl, by decide +kernel, by decide +kernel⟩
theorem ok_cell {f : Addr} {fd : FuncData} (F : Fun K "_law_cell" "_law_cell" sCell f fd) (hlen : mg "len" = none) : FnOk P w K mg base CX0 1 f fd ["_law_script", "_law_k"] (spCell K) := by
  refine F.ok scCell (fun vs H Q E h => ?_) (fun cdv A outer s H vs Q E hr h => ?_)
  · obtain ⟨a, ns, k, rfl, _⟩ := h
    rfl
  · obtain ⟨a, ns, k, rfl, hS, h0, q⟩ := h
    refine ⟨_, pss_cons (ps_if (pt_cmpR op_lt (pv 1) (pe_callB call_len_seq (by rfl) hlen PySem.boot_len (pa_cons (pv 0) pa_nil)) (nomark _)) (pss_one (ps_ret (pe_ix ix_list (pv 0) (pv 1) (fun _ _ => rfl)))) pss_nil) (pss_one (ps_ret pe_int)), ?_⟩
    refine ⟨_, rfl, _, rfl, a, _, rfl, .inl hS, _, _, rfl, rfl, _, rfl, ?_⟩
    refine ite2 (fun h1 => ?_) (fun h1 => ?_)
    · have e1 : k < ((ns.map V.int).length : Int) := of_decide_eq_true h1
      rw [List.length_map] at e1
      exact ⟨_, rfl, _, rfl, a, _, _, _, rfl, rfl, hS, get_at h0 e1, q _⟩
    · exact q 0
theorem scDigits : FnScope ["_law_script", "_law_first", "_law_last", "_law_digits_here", "_law_k", "_law_cell_here", "_law_turn", "_law_seed"] ["_law_script", "_law_first", "_law_last"] (defScope sDigits) := ⟨rfl, rfl, rfl, by decide +kernel, rfl, by decide +kernel, by decide +kernel⟩
theorem ok_digits {f fC : Addr} {fd fdC : FuncData} (F : Fun K "_law_digits" "_law_digits" sDigits f fd) (FC : Fun K "_law_cell" "_law_cell" sCell fC fdC) (bC : Binds K fdC ["_law_script", "_law_k"] []) (mC : mg "_law_cell" = some (.ref fC))
    (hlen : mg "len" = none) (hrange : mg "range" = none) (hint : mg "int" = none) : FnOk P w K mg base CX0 2 f fd ["_law_script", "_law_first", "_law_last"] (spDigits K) := by
  have GC : FnOk P w K mg base CX0 1 fC fdC ["_law_script", "_law_k"] (spCell K) := ok_cell FC hlen
  refine F.ok scDigits (fun vs H Q E h => ?_) (fun cdv A outer s H vs Q E hr h => ?_)
  · obtain ⟨a, ns, rfl, _⟩ := h
    rfl
  · obtain ⟨a, ns, rfl, hS, k⟩ := h
    refine ⟨_, pss_cons (ps_set (i := 3) scDigits.nd rfl (Or.inl rfl) (pe_lst pa_nil))
      (pss_cons (ps_for PassesOwn.never rfl (pi_range2 (by rfl) hrange (pa_cons (pv 1) (pa_cons (pv 2) pa_nil))) (pg_name (i := 4) scDigits.nd rfl (Or.inl rfl))
        (pss_cons (ps_set (i := 5) scDigits.nd rfl (Or.inl rfl) (pe_call GC hr (by rfl) mC FC.kp bC .nil pass0 (pa_cons (pv 0) (pa_cons (pv 4) pa_nil))))
        (C8.pss_cut (ps_if (pt_cmpR op_lt (pv 5) pe_int (nomark _)) (pss_one (ps_set (i := 5) scDigits.nd rfl (Or.inl rfl) (pe_op op_sub pe_int (pe_op op_mul pe_int (pv 5))))) pss_nil)
        (pss_one (ps_if (pt_cmpR op_ge (pv 5) (pe_op op_pow pe_int pe_int) (nomark _))
          (pss_one (ps_for PassesOwn.never rfl (pi_range1 (by rfl) hrange (pa_cons pe_int pa_nil)) (pg_name (i := 6) scDigits.nd rfl (Or.inl rfl))
            (pss_one (ps_if (pt_cmpR op_gt (pv 5) pe_int (nomark _))
              (pss_cons (ps_expr (pe_bm PySem.F.plainAttrs_list PySem.F.slot_list_append PySem.F.type_list_append mt_append (pv 3) (pa_cons (pe_op op_mod (pe_callTy call_int1 (by rfl) hint (by decide +kernel) (pa_cons (pv 5) pa_nil)) pe_int) pa_nil)))
              (pss_one (ps_set (i := 5) scDigits.nd rfl (Or.inl rfl) (pe_op op_fdivN (pv 5) pe_int)))) pss_nil))))
          (pss_cons (ps_set (i := 7) scDigits.nd rfl (Or.inl rfl) (pe_op op_mod (pe_callTy call_int1 (by rfl) hint (by decide +kernel) (pa_cons (pe_op op_add (pe_op op_add (pe_op op_mul (pv 5) pe_int) (pe_op op_mul (pv 4) pe_int)) pe_int) pa_nil)) pe_int))
          (pss_one (ps_for PassesOwn.never rfl (pi_range1 (by rfl) hrange (pa_cons pe_int pa_nil)) (pg_name (i := 6) scDigits.nd rfl (Or.inl rfl))
            (pss_cons (ps_set (i := 7) scDigits.nd rfl (Or.inl rfl) (pe_op op_mod (pe_callTy call_int1 (by rfl) hint (by decide +kernel) (pa_cons (pe_op op_add (pe_op op_add (pe_op op_mul (pv 7) pe_int) (pe_op op_mul pe_int (pv 6))) pe_int) pa_nil)) pe_int))
            (pss_one (ps_expr (pe_bm PySem.F.plainAttrs_list PySem.F.slot_list_append PySem.F.type_list_append mt_append (pv 3) (pa_cons (pe_op op_mod (pe_callTy call_int1 (by rfl) hint (by decide +kernel) (pa_cons (pe_op op_fdivN (pv 7) pe_int) pa_nil)) pe_int) pa_nil)))))))))))))
      (pss_one (ps_ret (pv 3)))), ?_⟩
    refine ⟨Nat.zero_le _, fun l hl => ?_⟩
    have s0 : Same H (upd H l (.lst [])) := same_upd hl
    -- an append of a digit
    have app : ∀ (H1 : Hp) (ds : List Int) (d : Int), Same H H1 → H1 l = some (.lst (ds.map V.int)) → Same H (upd H1 l (.lst (ds.map V.int ++ [.int d]))) ∧ (upd H1 l (.lst (ds.map V.int ++ [.int d]))) l = some (.lst ((ds ++ [d]).map V.int)) := fun H1 ds d s1 hL => by
      refine ⟨same_new s1 hl, ?_⟩
      rw [upd_same, List.map_append]
      rfl
    have fits : ∀ (ds : List Int), ds.length ≤ 100 * 63 → (ds.map V.int).length < sizeLine := fun ds h => by
      rw [List.length_map]
      exact Nat.lt_of_le_of_lt h (by decide)
    refine ⟨_, rfl, _, rfl, 0, 63, rfl, ⟨by decide, by decide, by decide, by decide⟩, ?_⟩
    refine for_range (lo := 0) (n := (63 - 0 : Int).toNat) (fun i σ H' => ∃ (ds : List Int) (v4 v5 v6 v7 : Option V), σ = [some (.ref a), some (.int 0), some (.int 63), some (.ref l), v4, v5, v6, v7] ∧ Same H H' ∧ H' l = some (.lst (ds.map V.int)) ∧ ds.length ≤ 100 * i)
      ⟨[], none, none, none, none, rfl, s0, upd_same, Nat.zero_le _⟩ ?_ ?_
    · rintro i σ H' hi ⟨ds, v4, v5, v6, v7, rfl, s1, hL, hz⟩
      have hi' : i < 63 := hi
      refine ⟨_, rfl, _, rfl, a, ns, _, rfl, s1.seq hS, by omega, fun z => ?_⟩
      refine ⟨fun σ' H'' => ∃ c : Int, σ' = [some (.ref a), some (.int 0), some (.int 63), some (.ref l), some (.int (0 + (i : Int))), some (.int c), v6, v7] ∧ H'' = H', ?_, ?_⟩
      · refine ⟨_, rfl, _, _, rfl, rfl, _, rfl, ?_⟩
        refine ite2 (fun h1 => ?_) (fun h1 => ?_)
        · exact ⟨_, rfl, _, _, rfl, rfl, .inl ⟨by decide, by decide⟩, _, _, rfl, rfl, _, rfl, rfl⟩
        · exact ⟨_, rfl, rfl⟩
      rintro σ' Ha ⟨c, rfl, rfl⟩
      refine ⟨_, rfl, _, _, rfl, rfl, ⟨by decide, by decide, by decide⟩, _, _, rfl, rfl, _, rfl, ?_⟩
      refine ite2 (fun h1 => ?_) (fun h1 => ?_)
      · -- a great number
        refine ⟨60, rfl, by decide, by decide, ?_⟩
        refine for_range (lo := 0) (n := (60 : Int).toNat) (fun j σ H'' => ∃ (ds' : List Int) (c' : Int) (v6' : Option V), σ = [some (.ref a), some (.int 0), some (.int 63), some (.ref l), some (.int (0 + (i : Int))), some (.int c'), v6', v7] ∧ Same H H'' ∧ H'' l = some (.lst (ds'.map V.int)) ∧ ds'.length ≤ 100 * i + j)
          ⟨ds, c, v6, rfl, s1, hL, hz⟩ ?_ ?_
        · rintro j σ H'' hj ⟨ds', c', v6', rfl, s2, hL2, hz2⟩
          have hj' : j < 60 := hj
          refine ⟨_, rfl, _, _, rfl, rfl, _, rfl, ?_⟩
          refine ite2 (fun h2 => ?_) (fun h2 => ?_)
          · refine ⟨_, rfl, .inl ⟨rfl, _, SqL.of hL2⟩, _, rfl, .inl ⟨_, rfl, _, _, rfl, rfl, (by show (0 : Int) < 1000; decide), ?_⟩⟩
            obtain ⟨m1, m2⟩ := app H'' ds' (c' % 1000) s2 hL2
            refine ⟨l, _, _, rfl, rfl, hL2, fits ds' (by omega), ?_⟩
            refine ⟨_, rfl, _, _, rfl, rfl, ⟨by decide, by decide⟩, ?_⟩
            refine ⟨ds' ++ [c' % 1000], _, _, rfl, m1, m2, ?_⟩
            rw [List.length_append, List.length_singleton]
            omega
          · exact ⟨ds', c', _, rfl, s2, hL2, by omega⟩
        · rintro σ H'' ⟨ds', c', v6', rfl, s2, hL2, hz2⟩
          have hz3 : ds'.length ≤ 100 * i + 60 := hz2
          exact ⟨ds', _, _, _, _, rfl, s2, hL2, by omega⟩
      · -- a small number
        refine ⟨_, rfl, _, _, rfl, rfl, .inr ⟨by decide, by decide⟩, _, rfl, _, _, rfl, rfl, .inr ⟨by decide, by decide⟩, _, _, rfl, rfl, _, _, rfl, rfl, .inl ⟨_, rfl, _, _, rfl, rfl, (by show (0 : Int) < 2147483647; decide), ?_⟩⟩
        refine ⟨12, rfl, by decide, by decide, ?_⟩
        refine for_range (lo := 0) (n := (12 : Int).toNat) (fun j σ H'' => ∃ (ds' : List Int) (sd : Int) (v6' : Option V), σ = [some (.ref a), some (.int 0), some (.int 63), some (.ref l), some (.int (0 + (i : Int))), some (.int c), v6', some (.int sd)] ∧ Same H H'' ∧ H'' l = some (.lst (ds'.map V.int)) ∧ ds'.length ≤ 100 * i + j)
          ⟨ds, _, v6, rfl, s1, hL, hz⟩ ?_ ?_
        · rintro j σ H'' hj ⟨ds', sd, v6', rfl, s2, hL2, hz2⟩
          have hj' : j < 12 := hj
          refine ⟨_, rfl, _, _, rfl, rfl, .inr ⟨by decide, by decide⟩, _, rfl, _, _, rfl, rfl, .inl ⟨by decide, by decide⟩, _, _, rfl, rfl, _, _, rfl, rfl, .inl ⟨_, rfl, _, _, rfl, rfl, (by show (0 : Int) < 2147483647; decide), ?_⟩⟩
          refine ⟨_, rfl, .inl ⟨rfl, _, SqL.of hL2⟩, _, rfl, _, _, rfl, rfl, ⟨by decide, by decide⟩, .inl ⟨_, rfl, _, _, rfl, rfl, (by show (0 : Int) < 1000; decide), ?_⟩⟩
          obtain ⟨m1, m2⟩ := app H'' ds' ((((sd * 16807 + 7 * (0 + (j : Int)) + 1) % 2147483647).fdiv 997) % 1000) s2 hL2
          refine ⟨l, _, _, rfl, rfl, hL2, fits ds' (by omega), ?_⟩
          refine ⟨ds' ++ [(((sd * 16807 + 7 * (0 + (j : Int)) + 1) % 2147483647).fdiv 997) % 1000], _, _, rfl, m1, m2, ?_⟩
          rw [List.length_append, List.length_singleton]
          omega
        · rintro σ H'' ⟨ds', sd, v6', rfl, s2, hL2, hz2⟩
          have hz3 : ds'.length ≤ 100 * i + 12 := hz2
          exact ⟨ds', _, _, _, _, rfl, s2, hL2, by omega⟩
    · rintro σ H' ⟨ds, v4, v5, v6, v7, rfl, s1, hL, hz⟩
      exact ⟨_, rfl, k _ l ds s1 hl hL⟩
theorem scDraw : FnScope ["_law_box", "_law_many", "_law_at"] ["_law_box", "_law_many"] (defScope sDraw) := ⟨rfl, rfl, rfl, by decide +kernel, rfl, by decide +kernel, by decide +kernel⟩
theorem ok_draw {f : Addr} {fd : FuncData} (F : Fun K "_law_draw" "_law_draw" sDraw f fd) (hlen : mg "len" = none) (hint : mg "int" = none) : FnOk P w K mg base CX0 1 f fd ["_law_box", "_law_many"] spDraw := by
  refine F.ok scDraw (fun vs H Q E h => ?_) (fun cdv A outer s H vs Q E hr h => ?_)
  · obtain ⟨b, dl, ds, at_, many, rfl, _⟩ := h
    rfl
  · obtain ⟨b, dl, ds, at_, many, rfl, hb, hd, h0, h1, k⟩ := h
    refine ⟨_, pss_cons (ps_set (i := 2) scDraw.nd rfl (Or.inl rfl) (pe_ix ix_list (pv 0) pe_int (fun _ _ => rfl)))
      (pss_cons (ps_asg (pe_op op_add (pv 2) pe_int) (pg_sub (pv 0) pe_int set_list))
      (pss_cons (ps_if (pt_cmpR op_lt (pv 2) (pe_callB call_len_seq (by rfl) hlen PySem.boot_len (pa_cons (pe_ix ix_list (pv 0) pe_int (fun _ _ => rfl)) pa_nil)) (nomark _))
        (pss_one (ps_ret (pe_op op_mod (pe_callTy call_int1 (by rfl) hint (by decide +kernel) (pa_cons (pe_ix ix_list (pe_ix ix_list (pv 0) pe_int (fun _ _ => rfl)) (pv 2) (fun _ _ => rfl)) pa_nil)) (pv 1)))) pss_nil)
      (pss_one (ps_ret pe_int)))), ?_⟩
    have ndb : dl ≠ b := by
      refine ne_of hd hb fun q => ?_
      have q' : ds.map V.int = [V.ref dl, V.int at_] := by injection q
      cases ds with
      | nil => cases q'
      | cons d r =>
        have q2 : V.int d = V.ref dl := (List.cons.inj q').1
        cases q2
    refine ⟨_, rfl, b, _, _, _, rfl, rfl, SqL.of hb, rfl, ?_⟩
    refine ⟨_, rfl, _, _, rfl, rfl, _, rfl, b, _, _, 1, rfl, rfl, hb, rfl, ?_⟩
    have hb1 : (upd H b (.lst ([V.ref dl, V.int at_].set 1 (V.int (at_ + 1))))) b = some (.lst [V.ref dl, V.int (at_ + 1)]) := upd_same
    have hd1 : (upd H b (.lst ([V.ref dl, V.int at_].set 1 (V.int (at_ + 1))))) dl = some (.lst (ds.map V.int)) := by
      rw [upd_ne ndb]
      exact hd
    refine ⟨_, rfl, _, rfl, b, _, _, _, rfl, rfl, SqL.of hb1, rfl, dl, _, rfl, .inl (SqL.of hd1), _, _, rfl, rfl, _, rfl, ?_⟩
    refine ite2 (fun h2 => ?_) (fun h2 => ?_)
    · have e2 : at_ < ((ds.map V.int).length : Int) := of_decide_eq_true h2
      rw [List.length_map] at e2
      refine ⟨_, rfl, b, _, _, _, rfl, rfl, SqL.of hb1, rfl, _, rfl, dl, _, _, _, rfl, rfl, SqL.of hd1, get_at h0 e2, .inl ⟨_, rfl, _, rfl, _, _, rfl, rfl, h1, ?_⟩⟩
      exact k _ (Int.emod_nonneg _ (by omega)) (Int.emod_lt_of_pos _ h1)
    · exact k 0 (Int.le_refl _) h1
end
end K23
/-! K23W6: _law_request, _law_piece. -/
namespace K23
open PySem L2
/-! ### o.m(e, ..) where what is raised is wished for at the caller's slots -/
section
variable {X : Cx} {CX : CXT} {k : Nat} {f C : Addr} {fd : FuncData} {ps : List Str} {sp : Sp} {E : L2.St → XK} {m : Str} {pos apos : Pos} {e o : Expr} {es : List Expr} {ta : TE} {t : TA}
def tMethP (C : Addr) (m : Str) (sp : Sp) (E : L2.St → XK) (ta : TE) (t : TA) : TE := fun σ H Q => ta σ H fun x H1 => ∃ a dx fs, x = .ref a ∧ H1 a = some (.ins C dx fs) ∧ fs.lookup m = none ∧ t σ H1 fun vs H2 => sp (x :: vs) H2 Q (E σ)
theorem pe_methP {pl : Sem Bool} (he : PE X o ta) (c : Cls X.K C) (hm : Meth X.K C m f) (F : FnOk X.prog X.w X.K X.mg X.base CX k f fd ps sp) (hr : Room k X.A) (hb : Binds X.K fd ps []) (hx : ∀ σ, PassesAt CX X σ (E σ)) (ha : PA X (e :: es) t)
    (hst : starEach (e :: es) X.env = (false, eval e X.env) :: starEach es X.env := by rfl) (hpl : (backTo pos (starEach es X.env)).any (·.1) = false := by rfl)
    (ht : eval (.Call (.Attribute o m apos) (e :: es) [] pos) X.env = (do
      let ov ← eval o X.env
      standAt apos.atName
      let (f, first) ← holding [ov] (getMethod ov m pl)
      callWith pos f first (backTo pos (starEach (e :: es) X.env)) (backToKw pos (keywordEach [] X.env))) := by rfl) :
    PE X (.Call (.Attribute o m apos) (e :: es) [] pos) (tMethP C m sp E ta t) := by
  refine ⟨fun pins s σ H Q I h => ?_⟩
  refine PySem.W.methodCall_KW (pl := pl) (thn (he.run pins s σ H _ I h) fun u s1 ⟨x, H1, I1, rx, a, dx, fs, ex, ea, l, q⟩ => ?_) ht
  subst ex
  obtain rfl : u = Value.ref a := rx
  refine getmeth_ok I1 ea c hm l ?_
  refine PySem.W.callWith_K (first := [.ref a]) (h₀ := X.base) I.ok.mod.kin hm.kp (thn (ha.run pos pins s1 σ H1 _ I1 q) fun us s2 ⟨vs, H2, I2, r, q2⟩ => ⟨I2.kIn, ?_⟩) hst hpl
  exact run_fnS (us := .ref a :: us) (vs := .ref a :: vs) F hr hb (hx σ) I2 (.cons rfl r) q2
end
/-! ### isinstance(e, c), e the exception that the suite holds, its dict tracked -/
def rIsED (K : PySem.W.Frag) (D a : Addr) (cls : Value) (d : Option Addr) : List V → Hp → VK → Prop := fun xs H Q => ∃ (c : V) (cv : Value) (b : Bool) (dd : Addr) (fs : List (Str × V)), xs = [.ref a, c] ∧ (∀ u, RelV c u → u = cv) ∧ cls = .ref D ∧ d = some dd ∧ H dd = some (.xd fs) ∧
  PySem.W.kitOne K (.ref D) cv = some b ∧ Q (.bl b) H
theorem call_isED {X : Cx} {a D : Addr} {cls : Value} {d : Option Addr} {oe : Obj} {pn : List (Addr × Obj)} (C : ExcC X.K D) (hz : Zc cls d oe) (hf : ∃ vs, oe.data = .fields vs) : CallR (X.suite a ((a, oe) :: pn)) (.builtin "isinstance") (rIsED X.K D a cls d) := by
  intro pins s σ H xs us Q I r h
  obtain ⟨c, cv, b, dd, fs, rfl, hcv, rfl, rfl, hx, e, q⟩ := h
  cases r with
  | cons rx rr =>
    cases rr with
    | cons rt rr =>
      cases rr
      cases rx
      have ec := hcv _ rt
      subst ec
      obtain ⟨hget, _⟩ := I.pin (a, oe) (List.mem_append.mpr (.inl List.mem_cons_self))
      obtain ⟨vs, hv⟩ := hf
      have hx' : ObjOk X.prog X.w H s.heap dd (.xd fs) := I.hok dd _ hx
      obtain ⟨mA, hns, hr⟩ := hx'
      obtain ⟨od, ho, hl⟩ := lookIn_ns hns
      have J : PySem.W.InstAt s.heap a oe D (some od) := ⟨hget, hz.1, by unfold PySem.W.notCls; rw [hv] <;> rfl, by rw [hz.2]; exact ho⟩
      have hcl : (PySem.W.clsIn X.K D).isSome = true := by
        obtain ⟨cd, hc, _⟩ := PySem.W.any_some C.hd
        rw [hc]
        rfl
      exact PySem.W.kia_one (PySem.W.kitx_exc hcl C.hg C.hk C.hs C.ha C.hn C.ht C.hm) I.kIn J e (fun z => nomatch z) fun tk => ⟨.bl b, H, I.kept (t' := tk) fun _ _ z => z, rfl, q⟩
section
variable {P : Program} {w : World} {K : PySem.W.Frag} {mg : Str → Option Value} {base : Heap}
/-- what catching OutOfMemory asks -/
structure ReqTxt (K : PySem.W.Frag) (mg : Str → Option Value) (Co Ch : Addr) : Prop where
  exC : ExcC K Co
  exm : PySem.W.exmOne K (.ref Co) (.ref Ch) = some true
  kit : PySem.W.kitOne K (.ref Co) (.ref Co) = some true
  mgH : mg "HeapgameError" = some (.ref Ch)
  mgO : mg "OutOfMemory" = some (.ref Co)
theorem scReq : FnScope ["_law_memory", "_law_length", "e"] ["_law_memory", "_law_length"] (defScope sReq) := ⟨rfl, rfl, rfl, by decide +kernel, rfl, by decide +kernel, by decide +kernel⟩
theorem ok_req {f fA C Co Ch : Addr} {fd fdA : FuncData} (F : Fun K "_law_request" "_law_request" sReq f fd) (T : Txt K mg C) (R : ReqTxt K mg Co Ch) (GA : FnOk P w K mg base (L2.CX P w) 4 fA fdA ["self", "length"] (spAlloc C Co)) (bA : Binds K fdA ["self", "length"] []) (mA : Meth K C "allocate" fA) :
    FnOk P w K mg base CX0 5 f fd ["_law_memory", "_law_length"] (spReq C) := by
  refine F.ok scReq (fun vs H Q E h => ?_) (fun cdv A outer s H vs Q E hr h => ?_)
  · obtain ⟨x, wl, n, pol, ws, hd, len, as, rfl, _⟩ := h
    rfl
  · obtain ⟨x, wl, n, pol, ws, hd, len, as, rfl, M, N, hn, hl1, hl2, kn, ks⟩ := h
    refine ⟨_, pss_one (ps_try_as (i := 2) (c := .ref Ch) rfl rfl scReq.nd rfl rfl ⟨rfl, by decide, .inl R.mgH⟩ takes0
      (fun W pn xe tk _ => pss_one (ps_ret (pe_methP (E := WE W) (pv 0) T.cl mA GA hr bA (fun σ => passAt tk σ) (pa_cons (pv 1) pa_nil))))
      (fun a oe cls d pn hz hf => pss_cons (ps_if (pt_not (pt_val (pe_callB (call_isED R.exC hz hf) (by rfl) T.isi (by decide +kernel) (pa_cons (pv 2) (pa_cons (pe_glob (v := .ref Co) rfl R.mgO rfl) pa_nil))))) (pss_one (ps_ret (pe_un un_neg pe_int))) pss_nil)
        (pss_one (ps_ret pe_non)))), ?_⟩
    obtain ⟨⟨dx, hx⟩, hw⟩ := id M
    refine ⟨_, rfl, x, dx, _, rfl, hx, fl_no _ _ _ _ (by decide +kernel) (by decide +kernel) (by decide +kernel) (by decide +kernel), _, rfl, x, wl, n, pol, ws, hd, len, as, rfl, M, N, hn, hl1, hl2, fun hp H1 d fs s1 hdd => ?_, fun st wi hp H1 M1 B1 => ks st wi hp H1 M1 B1⟩
    refine ⟨true, R.exm, fun _ a na => ?_, fun q => Bool.noConfusion q⟩
    refine ⟨_, rfl, .ref Co, .ref Co, true, d, fs, rfl, fun u hu => hu, rfl, rfl, hdd, R.kit, _, rfl, ?_⟩
    exact iteF (kn hp H1 s1)
/-! ### sorted of a list of pairs -/
/-- the pair that stands at a reference -/
def kOf (H : Hp) : V → Int × Int
  | .ref t => match H t with
    | some (.tup [.int a, .int b]) => (a, b)
    | _ => (0, 0)
  | _ => (0, 0)
theorem kOf_of {H : Hp} {v : V} {p : Int × Int} (h : P2 H v p) : kOf H v = p := by
  obtain ⟨t, rfl, e⟩ := h
  show (match H t with
    | some (.tup [.int a, .int b]) => (a, b)
    | _ => (0, 0)) = p
  rw [e]
theorem kOf_map {H : Hp} : ∀ {vs : List V} {ps : List (Int × Int)}, Paired (P2 H) vs ps → vs.map (kOf H) = ps
  | _, _, .nil => rfl
  | _, _, .cons h t => by
    rw [List.map_cons, kOf_of h, kOf_map t]
theorem kOf_all {H : Hp} : ∀ {vs : List V} {ps : List (Int × Int)}, Paired (P2 H) vs ps → ∀ v ∈ vs, P2 H v (kOf H v)
  | _, _, .nil, v, hv => nomatch hv
  | _, _, .cons h t, v, hv => by
    rcases List.mem_cons.mp hv with rfl | hv
    · rw [kOf_of h]
      exact h
    · exact kOf_all t v hv
theorem paired_map {H : Hp} {k : V → Int × Int} : ∀ {ys : List V}, (∀ v ∈ ys, P2 H v (k v)) → Paired (P2 H) ys (ys.map k)
  | [], _ => .nil
  | y :: ys, h => .cons (h y List.mem_cons_self) (paired_map fun v hv => h v (List.mem_cons_of_mem _ hv))
/-- what sorted hands back -/
theorem sorted_of {H : Hp} {ts ys : List V} {ps : List (Int × Int)} (hP : Paired (P2 H) ts ps) (h1 : SrtO.Srtd (ltP (kOf H)) ys) (h2 : SrtO.Stb (ltP (kOf H)) ys ts) :
    ∃ sl : List (Int × Int), Paired (P2 H) ys sl ∧ sl.Perm ps ∧ sl.Pairwise Lx := by
  refine ⟨ys.map (kOf H), paired_map fun v hv => kOf_all hP v (h2.perm.mem_iff.mp hv), ?_, ?_⟩
  · rw [← kOf_map hP]
    exact h2.perm.map _
  · refine List.pairwise_map.mpr (h1.imp fun {x y} h => ?_)
    have q := SrtO.lexB_no.mp (show SrtO.lexB (kOf H y) (kOf H x) = false from h)
    show (kOf H x).1 < (kOf H y).1 ∨ ((kOf H x).1 = (kOf H y).1 ∧ (kOf H x).2 ≤ (kOf H y).2)
    omega
theorem sort_asks {H : Hp} {ts : List V} {ps : List (Int × Int)} (hP : Paired (P2 H) ts ps) : ∀ x ∈ ts, ∃ t, x = V.ref t ∧ H t = some (.tup [.int (kOf H x).1, .int (kOf H x).2]) := fun x hx => kOf_all hP x hx
theorem scPiece : FnScope ["_law_size", "_law_blocks", "_law_at", "_law_block"] ["_law_size", "_law_blocks"] (defScope sPiece) := ⟨rfl, rfl, rfl, by decide +kernel, rfl, by decide +kernel, by decide +kernel⟩
theorem piece_step {ps : List (Int × Int)} {i : Nat} {p : Int × Int} {e : Int} (h : ps[i]? = some p) : pieceGo (ps.drop i) e = if 0 < p.1 - e ∧ p.1 - e < 3 then true else pieceGo (ps.drop (i + 1)) (p.1 + p.2) := by
  obtain ⟨hlt, rfl⟩ := List.getElem?_eq_some_iff.mp h
  rw [List.drop_eq_getElem_cons hlt]
  rfl
theorem ok_piece {f : Addr} {fd : FuncData} (F : Fun K "_law_piece" "_law_piece" sPiece f fd) (hsorted : mg "sorted" = none) : FnOk P w K mg base CX0 1 f fd ["_law_size", "_law_blocks"] (spPiece K) := by
  refine F.ok scPiece (fun vs H Q E h => ?_) (fun cdv A outer s H vs Q E hr h => ?_)
  · obtain ⟨n, a, ts, ps, rfl, _⟩ := h
    rfl
  · obtain ⟨n, a, ts, ps, rfl, hS, hP, hlen, k⟩ := h
    refine ⟨_, pss_cons (ps_set (i := 2) scPiece.nd rfl (Or.inl rfl) pe_int)
      (pss_cons (ps_for PassesOwn.never rfl (pi_list (pe_op op_cat (pe_callB cr_sortedPO (by rfl) hsorted (by decide +kernel) (pa_cons (pv 1) pa_nil)) (pe_lst (pa_cons (pe_tup (pa_cons (pv 0) (pa_cons pe_int pa_nil))) pa_nil)))) (pg_name (i := 3) scPiece.nd rfl (Or.inl rfl))
        (pss_cons (ps_if (pt_chain op_lt op_lt pe_int (pe_op op_sub (pe_ix ix_tup (pv 3) pe_int (fun _ _ => rfl)) (pv 2)) pe_int) (pss_one (ps_ret pe_bl)) pss_nil)
        (pss_one (ps_set (i := 2) scPiece.nd rfl (Or.inl rfl) (pe_op op_add (pe_ix ix_tup (pv 3) pe_int (fun _ _ => rfl)) (pe_ix ix_tup (pv 3) pe_int (fun _ _ => rfl)))))))
      (pss_one (ps_ret pe_bl))), ?_⟩
    have hlen2 : ts.length = ps.length := paired_len hP
    refine ⟨_, rfl, a, ts, kOf H, rfl, hS, sort_asks hP, fun ys p h1 h2 hp => ?_⟩
    obtain ⟨sl, hY, hperm, hsrt⟩ := sorted_of hP h1 h2
    have s1 : Same H (upd H p (.lst ys)) := same_upd hp
    refine ⟨_, rfl, (by show 2 ≤ sizeLine; decide), fun tt htt => ?_⟩
    have s2 : Same (upd H p (.lst ys)) (upd (upd H p (.lst ys)) tt (.tup [.int n, .int 0])) := same_upd htt
    refine ⟨(by show 1 ≤ sizeLine; decide), fun q hq => ?_⟩
    have s3 : Same (upd (upd H p (.lst ys)) tt (.tup [.int n, .int 0])) (upd (upd (upd H p (.lst ys)) tt (.tup [.int n, .int 0])) q (.lst [.ref tt])) := same_upd hq
    have hyl : ys.length = sl.length := paired_len hY
    have hsl : sl.length = ps.length := hperm.length_eq
    refine ⟨p, q, ys, [.ref tt], rfl, rfl, s3 _ _ (s2 _ _ upd_same), upd_same, ?_, fun l hl => ?_⟩
    · rw [List.length_singleton]
      have := small1000 (n := 1000) (Nat.le_refl _)
      omega
    generalize hG : upd (upd (upd H p (.lst ys)) tt (.tup [.int n, .int 0])) q (.lst [.ref tt]) = G at s3 hl
    have sG : Same H G := s1.trans (s2.trans s3)
    have hGt : G tt = some (.tup [.int n, .int 0]) := s3 _ _ upd_same
    have sL : Same G (upd G l (.lst (ys ++ [.ref tt]))) := same_upd hl
    generalize hG2 : upd G l (.lst (ys ++ [.ref tt])) = G2 at sL
    have hL : G2 l = some (.lst (ys ++ [.ref tt])) := by rw [← hG2]; exact upd_same
    have hA : Paired (P2 G2) (ys ++ [.ref tt]) (sl ++ [(n, 0)]) := Paired.snoc (ps_same hY (sG.trans sL)) ⟨tt, rfl, sL _ _ hGt⟩
    have sH : Same H G2 := sG.trans sL
    have hend := k G2 sl sH hperm hsrt
    generalize hps : sl ++ [(n, 0)] = qs at hA hend
    have hlq : (ys ++ [V.ref tt]).length = qs.length := paired_len hA
    refine ⟨l, rfl, ⟨_, SqL.of hL⟩, for_list (K := K) (a := l) (xs := ys ++ [.ref tt]) (fun i σ H' => ∃ (e : Int) (v3 : Option V), σ = [some (.int n), some (.ref a), some (.int e), v3] ∧ H' = G2 ∧ pieceGo qs 0 = pieceGo (qs.drop i) e)
      ⟨0, none, rfl, rfl, rfl⟩ (fun i σ H' _ ⟨_, _, _, e, _⟩ => by rw [e]; exact SqL.of hL) ?_ ?_⟩
    · rintro i v σ H' hi ⟨e, v3, rfl, rfl, hg⟩
      obtain ⟨pp, hpp, t, rfl, ht⟩ := pa_get hA hi
      rw [piece_step hpp] at hg
      refine ⟨_, rfl, t, _, _, _, rfl, rfl, SqT.of ht, rfl, _, rfl, _, _, rfl, rfl, _, _, rfl, rfl, _, rfl, ?_⟩
      by_cases c1 : 0 < pp.1 - e
      · have d1 : decide (0 < pp.1 - e) = true := decide_eq_true c1
        rw [d1]
        refine iteT ⟨_, _, rfl, rfl, _, rfl, ?_⟩
        by_cases c2 : pp.1 - e < 3
        · have d2 : decide (pp.1 - e < 3) = true := decide_eq_true c2
          rw [d2]
          rw [if_pos ⟨c1, c2⟩] at hg
          rw [hg] at hend
          exact iteT hend
        · have d2 : decide (pp.1 - e < 3) = false := decide_eq_false c2
          rw [d2]
          rw [if_neg fun z => c2 z.2] at hg
          refine iteF ?_
          refine ⟨_, rfl, t, _, _, _, rfl, rfl, SqT.of ht, rfl, _, rfl, t, _, _, _, rfl, rfl, SqT.of ht, rfl, _, _, rfl, rfl, ?_⟩
          exact ⟨_, _, rfl, rfl, hg⟩
      · have d1 : decide (0 < pp.1 - e) = false := decide_eq_false c1
        rw [d1]
        rw [if_neg fun z => c1 z.1] at hg
        refine iteF ⟨_, rfl, iteF ?_⟩
        refine ⟨_, rfl, t, _, _, _, rfl, rfl, SqT.of ht, rfl, _, rfl, t, _, _, _, rfl, rfl, SqT.of ht, rfl, _, _, rfl, rfl, ?_⟩
        exact ⟨_, _, rfl, rfl, hg⟩
    · rintro σ H' ⟨e, v3, rfl, rfl, hg⟩
      rw [hlq, List.drop_length] at hg
      have hg' : pieceGo qs 0 = false := hg
      rw [hg'] at hend
      exact hend
end
end K23
/-! K23W7: the law. -/
namespace K23
open PySem L2
/-! ### pairs as data -/
def dP (p : Int × Int) : PyData := .tuple [.int p.1, .int p.2]
theorem dp_all {K : PySem.W.Frag} {H : Hp} : ∀ {vs : List V} {ps : List (Int × Int)}, Paired (P2 H) vs ps → DpAll K H vs (ps.map dP)
  | _, _, .nil => .nil
  | _, _, .cons h t => by
    obtain ⟨a, rfl, e⟩ := h
    exact .cons (.tup (SqT.of e) (.cons (.int _) (.cons (.int _) .nil))) (dp_all t)
theorem dp_lay : ∀ ps : List (Int × Int), PyData.canLayAll0 (ps.map dP) = true
  | [] => by simp [PyData.canLayAll0]
  | p :: ps => by
    have ih := dp_lay ps
    rw [List.map_cons]
    simp [PyData.canLayAll0, PyData.canLay0, dP, ih]
theorem dp_depth : ∀ ps : List (Int × Int), PyData.depthAll (ps.map dP) ≤ 1
  | [] => by simp [PyData.depthAll]
  | p :: ps => by
    have ih := dp_depth ps
    rw [List.map_cons]
    simp only [PyData.depthAll, PyData.depth, dP]
    omega
theorem dp_shaped (ps : List (Int × Int)) : SeqAt.shaped (.list (ps.map dP)) = true := by
  unfold SeqAt.shaped
  have h1 : (PyData.list (ps.map dP)).canLay0 = true := by
    simp only [PyData.canLay0]
    exact dp_lay ps
  have h2 : (PyData.list (ps.map dP)).depth ≤ 64 := by
    have := dp_depth ps
    simp only [PyData.depth]
    omega
  rw [h1, decide_eq_true h2]
  rfl
theorem dp_eqv (ps : List (Int × Int)) : PyData.eqv (.list (ps.map dP)) (.list (ps.map dP)) = true := SeqAt.eqv_refl _ (SeqAt.canLay_of_shaped (dp_shaped ps))
/-! ### an item taken out -/
theorem perm_erase {α : Type} : ∀ {l : List α} {k : Nat} {x : α}, l[k]? = some x → l.Perm (x :: l.eraseIdx k)
  | [], _, _, h => by simp at h
  | a :: l, 0, x, h => by
    have e : a = x := Option.some.inj h
    subst e
    exact .refl _
  | a :: l, k + 1, x, h => by
    have ih := perm_erase (l := l) (k := k) (by simpa using h)
    exact (ih.cons a).trans (.swap _ _ _)
theorem paired_erase {α β : Type} {R : α → β → Prop} : ∀ {xs : List α} {ys : List β} (k : Nat), Paired R xs ys → Paired R (xs.eraseIdx k) (ys.eraseIdx k)
  | _, _, _, .nil => .nil
  | _, _, 0, .cons _ t => t
  | _, _, k + 1, .cons r t => .cons r (paired_erase k t)
/-! ### the law's state -/
/-- the addresses: the box, its digits, the blocks, the memory, its words -/
structure Ds (bx dl bl wl : Addr) : Prop where
  xw : bx ≠ wl
  lw : bl ≠ wl
  dw : dl ≠ wl
  xl : bx ≠ bl
  xd : bx ≠ dl
  dl_ : dl ≠ bl
structure LW (C : Addr) (H : Hp) (bx dl bl x wl : Addr) (n : Int) (pol : Str) (ds : List Int) (at_ : Int) (ws : List Int) (hd : Int) (bs : List V) (ps : List (Int × Int)) (as : List Area) : Prop where
  box : H bx = some (.lst [.ref dl, .int at_])
  a0 : 0 ≤ at_
  dig : H dl = some (.lst (ds.map V.int))
  mem : MemAt C H x wl n pol ws hd
  inv : Mem ws hd n as
  blk : H bl = some (.lst bs)
  prs : Paired (P2 H) bs ps
  prm : ps.Perm (usedOf as)
section
variable {C : Addr} {H H' : Hp} {bx dl bl x wl : Addr} {n : Int} {pol : Str} {ds : List Int} {at_ : Int} {ws : List Int} {hd : Int} {bs : List V} {ps : List (Int × Int)} {as : List Area}
theorem LW.same (L : LW C H bx dl bl x wl n pol ds at_ ws hd bs ps as) (s : Same H H') : LW C H' bx dl bl x wl n pol ds at_ ws hd bs ps as :=
  ⟨s _ _ L.box, L.a0, s _ _ L.dig, L.mem.same s, L.inv, s _ _ L.blk, ps_same L.prs s, L.prm⟩
/-- a list of ours, not the words, is written -/
theorem prs_upd {l : Addr} {xs ys : List V} (h : H l = some (.lst xs)) (p : Paired (P2 H) bs ps) : Paired (P2 (upd H l (.lst ys))) bs ps :=
  Paired.mapP p fun _ _ ⟨t, e, z⟩ => ⟨t, e, by rw [upd_ne (ne_of z h (by intro y; cases y))]; exact z⟩
theorem mem_upd {l : Addr} {xs ys : List V} (h : H l = some (.lst xs)) (hw : l ≠ wl) (M : MemAt C H x wl n pol ws hd) : MemAt C (upd H l (.lst ys)) x wl n pol ws hd := by
  obtain ⟨⟨dx, h1⟩, h2⟩ := M
  exact ⟨⟨dx, by rw [upd_ne (ne_of h1 h (by intro y; cases y))]; exact h1⟩, by rw [upd_ne hw.symm]; exact h2⟩
theorem LW.drawn (L : LW C H bx dl bl x wl n pol ds at_ ws hd bs ps as) (D : Ds bx dl bl wl) : LW C (upd H bx (.lst [.ref dl, .int (at_ + 1)])) bx dl bl x wl n pol ds (at_ + 1) ws hd bs ps as :=
  ⟨upd_same, by have := L.a0; omega, by rw [upd_ne D.xd.symm]; exact L.dig, mem_upd L.box D.xw L.mem, L.inv, by rw [upd_ne D.xl.symm]; exact L.blk, prs_upd L.box L.prs, L.prm⟩
/-- behind a call of the memory -/
theorem LW.did (L : LW C H bx dl bl x wl n pol ds at_ ws hd bs ps as) (D : Ds bx dl bl wl) (B : But x wl H H') {ws' : List Int} {hd' : Int} {as' : List Area} {bs' : List V} {ps' : List (Int × Int)} (M : MemAt C H' x wl n pol ws' hd') (N : Mem ws' hd' n as') (hb : H bl = some (.lst bs'))
    (hp : Paired (P2 H) bs' ps') (hm : ps'.Perm (usedOf as')) : LW C H' bx dl bl x wl n pol ds at_ ws' hd' bs' ps' as' := by
  obtain ⟨⟨dx, h1⟩, h2⟩ := id L.mem
  have nx : ∀ {l : Addr} {xs : List V}, H l = some (.lst xs) → l ≠ x := fun {l xs} q => ne_of q h1 (by intro y; cases y)
  exact ⟨B _ _ L.box (nx L.box) D.xw, L.a0, B _ _ L.dig (nx L.dig) D.dw, M, N, B _ _ hb (nx hb) D.lw, ps_but L.mem hp B, hm⟩
/-- a block has been made -/
theorem LW.grown (L : LW C H bx dl bl x wl n pol ds at_ ws hd bs ps as) (D : Ds bx dl bl wl) (B : But x wl H H') {ws' : List Int} {hd' : Int} {as' : List Area} (M : MemAt C H' x wl n pol ws' hd') (N : Mem ws' hd' n as') {t : Addr} {p : Int × Int} (ht : H' t = none)
    (hm : (ps ++ [p]).Perm (usedOf as')) : LW C (upd (upd H' t (.tup [.int p.1, .int p.2])) bl (.lst (bs ++ [.ref t]))) bx dl bl x wl n pol ds at_ ws' hd' (bs ++ [.ref t]) (ps ++ [p]) as' := by
  obtain ⟨⟨dx, h1⟩, h2⟩ := id L.mem
  have nx : ∀ {l : Addr} {xs : List V}, H l = some (.lst xs) → l ≠ x := fun {l xs} q => ne_of q h1 (by intro y; cases y)
  have s1 : Same H' (upd H' t (.tup [.int p.1, .int p.2])) := same_upd ht
  have b1 := s1 _ _ (B _ _ L.box (nx L.box) D.xw)
  have d1 := s1 _ _ (B _ _ L.dig (nx L.dig) D.dw)
  have l1 := s1 _ _ (B _ _ L.blk (nx L.blk) D.lw)
  have p1 := ps_same (ps_but L.mem L.prs B) s1
  have ntl : t ≠ bl := (ne_of_none (B _ _ L.blk (nx L.blk) D.lw) ht).symm
  exact ⟨(upd_ne D.xl).trans b1, L.a0, (upd_ne D.dl_).trans d1, mem_upd l1 D.lw (M.same s1), N, upd_same, Paired.snoc (prs_upd l1 p1) ⟨t, rfl, (upd_ne ntl).trans upd_same⟩, hm⟩
/-- a block has been taken out and released -/
theorem LW.shrunk (L : LW C H bx dl bl x wl n pol ds at_ ws hd bs ps as) (D : Ds bx dl bl wl) (k : Nat) (B : But x wl (upd H bl (.lst (bs.eraseIdx k))) H') {ws' : List Int} {hd' : Int} {as' : List Area} (M : MemAt C H' x wl n pol ws' hd') (N : Mem ws' hd' n as')
    (hm : (ps.eraseIdx k).Perm (usedOf as')) : LW C H' bx dl bl x wl n pol ds at_ ws' hd' (bs.eraseIdx k) (ps.eraseIdx k) as' := by
  have M0 := mem_upd (ys := bs.eraseIdx k) L.blk D.lw L.mem
  obtain ⟨⟨dx, h1⟩, h2⟩ := id M0
  have b1 : (upd H bl (.lst (bs.eraseIdx k))) bx = some (.lst [.ref dl, .int at_]) := (upd_ne D.xl).trans L.box
  have d1 : (upd H bl (.lst (bs.eraseIdx k))) dl = some (.lst (ds.map V.int)) := (upd_ne D.dl_).trans L.dig
  have l1 : (upd H bl (.lst (bs.eraseIdx k))) bl = some (.lst (bs.eraseIdx k)) := upd_same
  have p1 := prs_upd (ys := bs.eraseIdx k) L.blk (paired_erase k L.prs)
  have nx : ∀ {l : Addr} {xs : List V}, (upd H bl (.lst (bs.eraseIdx k))) l = some (.lst xs) → l ≠ x := fun {l xs} q => ne_of q h1 (by intro y; cases y)
  exact ⟨B _ _ b1 (nx b1) D.xw, L.a0, B _ _ d1 (nx d1) D.dw, M, N, B _ _ l1 (nx l1) D.lw, ps_but M0 p1 B, hm⟩
theorem LW.small (L : LW C H bx dl bl x wl n pol ds at_ ws hd bs ps as) (hn : n ≤ 1000) : ps.length ≤ 900 := by
  have q1 := L.prm.length_eq
  have q2 := usedOf_len as
  have q3 := L.inv.seg.free_len
  omega
end
section
variable {P : Program} {w : World} {K : PySem.W.Frag} {mg : Str → Option Value} {base : Heap}
/-- what the law's for promises of a turn's start -/
def LInv (C : Addr) (a bx dl bl x wl : Addr) (n : Int) (pol : Str) (ds : List Int) (σ : L2.St) (H : Hp) : Prop := ∃ (at_ : Int) (ws : List Int) (hd : Int) (bs : List V) (ps : List (Int × Int)) (as : List Area) (v6 v7 v8 v9 : Option V),
  σ = [some (.ref a), some (.ref bx), some (.int n), some (.str pol), some (.ref x), some (.ref bl), v6, v7, v8, v9] ∧ LW C H bx dl bl x wl n pol ds at_ ws hd bs ps as
theorem scLaw : FnScope ["_law_script", "_law_box", "_law_size", "_law_policy", "_law_memory", "_law_blocks", "_law_turn", "_law_block", "_law_length", "_law_start"] ["_law_script"] (defScope sLaw) := ⟨rfl, rfl, rfl, by decide +kernel, rfl, by decide +kernel, by decide +kernel⟩
theorem ok_law {f C fD fW fI fP fQ fR fL fY : Addr} {fd fdD fdW fdI fdP fdQ fdR fdL fdY : FuncData} {dsP : List Value} (F : Fun K "law" "law" sLaw f fd) (T : Txt K mg C)
    (GD : FnOk P w K mg base CX0 2 fD fdD ["_law_script", "_law_first", "_law_last"] (spDigits K)) (bD : Binds K fdD ["_law_script", "_law_first", "_law_last"] []) (mD : mg "_law_digits" = some (.ref fD)) (kD : PySem.W.keepIn K (.ref fD) = true)
    (GW : FnOk P w K mg base CX0 1 fW fdW ["_law_box", "_law_many"] spDraw) (bW : Binds K fdW ["_law_box", "_law_many"] []) (mW : mg "_law_draw" = some (.ref fW)) (kW : PySem.W.keepIn K (.ref fW) = true)
    (MI : Mk K C fI) (GI : FnOk P w K mg base CX0 2 fI fdI ["self", "size", "policy"] (spInit C)) (bI : Binds K fdI ["self", "size", "policy"] [])
    (GP : FnOk P w K mg base CX0 2 fP fdP ["size", "layout", "length", "policy", "cursor"] (spPlace K)) (bP : Binds K fdP ["size", "layout", "length", "policy", "cursor"] dsP) (rP : Vals [.int 0] dsP) (mP : mg "place_block" = some (.ref fP)) (kP : PySem.W.keepIn K (.ref fP) = true)
    (GQ : FnOk P w K mg base CX0 1 fQ fdQ ["_law_size", "_law_blocks"] (spPiece K)) (bQ : Binds K fdQ ["_law_size", "_law_blocks"] []) (mQ : mg "_law_piece" = some (.ref fQ)) (kQ : PySem.W.keepIn K (.ref fQ) = true)
    (GR : FnOk P w K mg base CX0 5 fR fdR ["_law_memory", "_law_length"] (spReq C)) (bR : Binds K fdR ["_law_memory", "_law_length"] []) (mR : mg "_law_request" = some (.ref fR)) (kR : PySem.W.keepIn K (.ref fR) = true)
    (GL : FnOk P w K mg base CX0 4 fL fdL ["self", "start"] (spRel C)) (bL : Binds K fdL ["self", "start"] []) (mL : Meth K C "release" fL)
    (GY : FnOk P w K mg base CX0 3 fY fdY ["self"] (spLay C)) (bY : Binds K fdY ["self"] []) (mY : Meth K C "layout" fY) : FnOk P w K mg base CX0 6 f fd ["_law_script"] (spLaw K) := by
  refine F.ok scLaw (fun vs H Q E h => ?_) (fun cdv A outer s H vs Q E hr h => ?_)
  · obtain ⟨a, ns, rfl, _⟩ := h
    rfl
  · obtain ⟨a, ns, rfl, hS, hlen, k⟩ := h
    have hr1 : Room 1 _ := hr.mono (by decide)
    have hr2 : Room 2 _ := hr.mono (by decide)
    have hr3 : Room 3 _ := hr.mono (by decide)
    have hr4 : Room 4 _ := hr.mono (by decide)
    refine ⟨_, pss_cons (ps_set (i := 1) scLaw.nd rfl (Or.inl rfl) (pe_lst (pa_cons (pe_call GD hr2 (by rfl) mD kD bD .nil pass0 (pa_cons (pv 0) (pa_cons pe_int (pa_cons pe_int pa_nil)))) (pa_cons pe_int pa_nil))))
      (pss_cons (ps_set (i := 2) scLaw.nd rfl (Or.inl rfl) (pe_op op_add pe_int (pe_call GW hr1 (by rfl) mW kW bW .nil pass0 (pa_cons (pv 1) (pa_cons pe_int pa_nil)))))
      (pss_cons (ps_set (i := 3) scLaw.nd rfl (Or.inl rfl) (pe_ix ix_list (pe_lst (pa_cons pe_str (pa_cons pe_str (pa_cons pe_str pa_nil)))) (pe_call GW hr1 (by rfl) mW kW bW .nil pass0 (pa_cons (pv 1) (pa_cons pe_int pa_nil))) (fun _ _ => rfl)))
      (pss_cons (ps_set (i := 4) scLaw.nd rfl (Or.inl rfl) (pe_make MI GI hr3 (by rfl) T.mgC bI .nil pass0 (pa_cons (pv 2) (pa_cons (pv 3) pa_nil))))
      (pss_cons (ps_set (i := 5) scLaw.nd rfl (Or.inl rfl) (pe_lst pa_nil))
      (pss_cons (ps_for PassesOwn.never rfl (pi_range1 (by rfl) T.range (pa_cons (pe_call GW hr1 (by rfl) mW kW bW .nil pass0 (pa_cons (pv 1) (pa_cons pe_int pa_nil))) pa_nil)) (pg_name (i := 6) scLaw.nd rfl (Or.inl rfl))
        (C8.pss_cut (ps_if (PW.pt (pw_and (pt_cmpR op_gt (pe_callB call_len_seq (by rfl) T.len PySem.boot_len (pa_cons (pv 5) pa_nil)) pe_int (nomark _)) (pw_and1 (pt_cmpR op_eq (pe_call GW hr1 (by rfl) mW kW bW .nil pass0 (pa_cons (pv 1) (pa_cons pe_int pa_nil))) pe_int (nomark _)))))
          (pss_cons (ps_set (i := 7) scLaw.nd rfl (Or.inl rfl) (pe_bm PySem.F.plainAttrs_list PySem.F.slot_list_pop PySem.F.type_list_pop mt_popAt (pv 5) (pa_cons (pe_op op_mod (pe_callTy call_int1 (by rfl) T.int_ (by decide +kernel) (pa_cons (pe_call GW hr1 (by rfl) mW kW bW .nil pass0 (pa_cons (pv 1) (pa_cons pe_int pa_nil))) pa_nil)) (pe_callB call_len_seq (by rfl) T.len PySem.boot_len (pa_cons (pv 5) pa_nil))) pa_nil)))
          (pss_one (ps_expr (pe_meth (pv 4) T.cl mL GL hr4 bL .nil pass0 (pa_cons (pe_ix ix_tup (pv 7) pe_int (fun _ _ => rfl)) pa_nil)))))
          (pss_cons (ps_set (i := 8) scLaw.nd rfl (Or.inl rfl) (pe_op op_add pe_int (pe_call GW hr1 (by rfl) mW kW bW .nil pass0 (pa_cons (pv 1) (pa_cons pe_int pa_nil)))))
          (pss_cons (ps_set (i := 9) scLaw.nd rfl (Or.inl rfl) (pe_call GP hr2 (by rfl) mP kP bP rP pass0 (pa_cons (pv 2) (pa_cons (pe_callB cr_sortedPO (by rfl) T.sorted (by decide +kernel) (pa_cons (pv 5) pa_nil)) (pa_cons (pe_op op_add (pv 8) pe_int) (pa_cons (pv 3) pa_nil))))))
          (pss_cons (ps_if (PW.pt (pw_and (pt_cmpR op_notN (pv 9) pe_non (nomark _)) (pw_and1 (pt_val (pe_call GQ hr1 (by rfl) mQ kQ bQ .nil pass0 (pa_cons (pv 2) (pa_cons (pe_op op_cat (pv 5) (pe_lst (pa_cons (pe_tup (pa_cons (pv 9) (pa_cons (pe_op op_add (pv 8) pe_int) pa_nil))) pa_nil))) pa_nil))))))) (pss_one (ps_ret pe_bl)) pss_nil)
          (pss_cons (ps_if (pt_cmpR op_ne (pe_call GR hr (by rfl) mR kR bR .nil pass0 (pa_cons (pv 4) (pa_cons (pv 8) pa_nil))) (pv 9) (nomark _)) (pss_one (ps_ret pe_bl)) pss_nil)
          (pss_one (ps_if (pt_cmpR op_notN (pv 9) pe_non (nomark _)) (pss_one (ps_expr (pe_bm PySem.F.plainAttrs_list PySem.F.slot_list_append PySem.F.type_list_append mt_append (pv 5) (pa_cons (pe_tup (pa_cons (pv 9) (pa_cons (pe_op op_add (pv 8) pe_int) pa_nil))) pa_nil)))) pss_nil)))))))
        (pss_one (ps_if (pt_cmpR (op_neD hr.units) (pe_meth0 (pv 4) T.cl mY GY hr3 bY .nil pass0) (pe_callB cr_sortedPO (by rfl) T.sorted (by decide +kernel) (pa_cons (pv 5) pa_nil)) (nomark _)) (pss_one (ps_ret pe_bl)) pss_nil))))
      (pss_one (ps_ret pe_bl))))))), ?_⟩
    refine ⟨_, rfl, a, ns, rfl, hS, fun H1 dl ds s1 hdl0 hdl => ?_⟩
    refine ⟨(by show 2 ≤ sizeLine; decide), fun bx hbx => ?_⟩
    have nbd : bx ≠ dl := (ne_of_none hdl hbx).symm
    -- size
    have b2 : (upd H1 bx (.lst [V.ref dl, V.int 0])) bx = some (.lst [V.ref dl, V.int 0]) := upd_same
    have d2 : (upd H1 bx (.lst [V.ref dl, V.int 0])) dl = some (.lst (ds.map V.int)) := (upd_ne nbd.symm).trans hdl
    refine ⟨_, rfl, bx, dl, ds, 0, 35, rfl, b2, d2, Int.le_refl _, by decide, fun v1 v10 v11 => ⟨_, _, rfl, rfl, ?_⟩⟩
    rw [upd_upd]
    -- policy
    refine ⟨(by show 3 ≤ sizeLine; decide), fun p3 hp3 => ?_⟩
    have b3 : (upd H1 bx (.lst [V.ref dl, V.int (0 + 1)])) bx = some (.lst [V.ref dl, V.int (0 + 1)]) := upd_same
    have d3 : (upd H1 bx (.lst [V.ref dl, V.int (0 + 1)])) dl = some (.lst (ds.map V.int)) := (upd_ne nbd.symm).trans hdl
    have s4 : Same (upd H1 bx (.lst [V.ref dl, V.int (0 + 1)])) (upd (upd H1 bx (.lst [V.ref dl, V.int (0 + 1)])) p3 (.lst [V.str "first", V.str "best", V.str "worst"])) := same_upd hp3
    have np3 : p3 ≠ bx := (ne_of_none b3 hp3).symm
    refine ⟨_, rfl, bx, dl, ds, 0 + 1, 3, rfl, s4 _ _ b3, s4 _ _ d3, by decide, by decide, fun v2 v20 v21 => ?_⟩
    obtain ⟨pol, hpol, hnx⟩ : ∃ pol : Str, atI [V.str "first", V.str "best", V.str "worst"] v2 = some (V.str pol) ∧ decide (V.str pol = V.str "next") = false := by
      have e : v2 = 0 ∨ v2 = 1 ∨ v2 = 2 := by omega
      rcases e with rfl | rfl | rfl
      · exact ⟨"first", rfl, by decide +kernel⟩
      · exact ⟨"best", rfl, by decide +kernel⟩
      · exact ⟨"worst", rfl, by decide +kernel⟩
    generalize hH5 : upd (upd (upd H1 bx (.lst [V.ref dl, V.int (0 + 1)])) p3 (.lst [V.str "first", V.str "best", V.str "worst"])) bx (.lst [V.ref dl, V.int (0 + 1 + 1)]) = H5
    have b5 : H5 bx = some (.lst [V.ref dl, V.int 2]) := by rw [← hH5]; exact upd_same
    have d5 : H5 dl = some (.lst (ds.map V.int)) := by rw [← hH5, upd_ne nbd.symm]; exact s4 _ _ d3
    have p5 : H5 p3 = some (.lst [V.str "first", V.str "best", V.str "worst"]) := by rw [← hH5, upd_ne np3]; exact upd_same
    refine ⟨p3, _, _, _, rfl, rfl, SqL.of p5, hpol, ?_⟩
    -- Tagged(size, policy)
    refine ⟨_, rfl, _, rfl, fun x dx nx ndx nex => ?_⟩
    have b6 : (upd (upd H5 dx (.own x)) x (.ins C dx [])) bx = some (.lst [V.ref dl, V.int 2]) := by
      rw [upd_ne (ne_of_none b5 nx), upd_ne (ne_of_none b5 ndx)]
      exact b5
    have d6 : (upd (upd H5 dx (.own x)) x (.ins C dx [])) dl = some (.lst (ds.map V.int)) := by
      rw [upd_ne (ne_of_none d5 nx), upd_ne (ne_of_none d5 ndx)]
      exact d5
    have hn1 : 3 ≤ 6 + v1 := by omega
    have hn2 : 6 + v1 ≤ 1000 := by omega
    refine ⟨x, dx, 6 + v1, pol, rfl, upd_same, hn1, hn2, fun H7 wl M7 hwl k7 => ⟨rfl, ?_⟩⟩
    have nbx : bx ≠ x := ne_of_none b5 nx
    have ndlx : dl ≠ x := ne_of_none d5 nx
    have b7 := k7 _ _ b6 nbx
    have d7 := k7 _ _ d6 ndlx
    have nbw : bx ≠ wl := ne_of_none b6 hwl
    have ndw : dl ≠ wl := ne_of_none d6 hwl
    generalize hws : wr (putTags (List.replicate (6 + v1).toNat 0) 0 (6 + v1) false) 1 (-1) = ws0 at M7
    have N0 : Mem ws0 0 (6 + v1) [⟨0, 6 + v1, false⟩] := by
      rw [← hws]
      exact mem_init hn1
    -- blocks = []
    refine ⟨Nat.zero_le _, fun bl hbl => ?_⟩
    have s8 : Same H7 (upd H7 bl (.lst [])) := same_upd hbl
    have D : Ds bx dl bl wl := ⟨nbw, (ne_of_none M7.wo hbl).symm, ndw, ne_of_none b7 hbl, nbd, ne_of_none d7 hbl⟩
    have L8 : LW C (upd H7 bl (.lst [])) bx dl bl x wl (6 + v1) pol ds 2 ws0 0 [] [] [⟨0, 6 + v1, false⟩] := ⟨s8 _ _ b7, by decide, s8 _ _ d7, M7.same s8, N0, upd_same, .nil, .refl _⟩
    -- the turns
    refine ⟨_, rfl, bx, dl, ds, 2, 21, rfl, L8.box, L8.dig, by decide, by decide, fun v3 v30 v31 => ?_⟩
    refine ⟨v3, rfl, by omega, by omega, ?_⟩
    refine for_range (lo := 0) (n := v3.toNat) (fun _ σ H' => LInv C a bx dl bl x wl (6 + v1) pol ds σ H') ⟨_, _, _, _, _, _, none, none, none, none, rfl, L8.drawn D⟩ ?_ ?_
    · rintro i σ H' hi ⟨at_, ws, hd, bs, ps, as, v6, v7, v8, v9, rfl, L⟩
      have hsm := L.small hn2
      have hbl2 : bs.length = ps.length := paired_len L.prs
      refine ⟨fun σ' H'' => LInv C a bx dl bl x wl (6 + v1) pol ds σ' H'', ?_, ?_⟩
      · refine ⟨_, rfl, bl, bs, rfl, .inl (SqL.of L.blk), _, _, rfl, rfl, _, rfl, ?_⟩
        by_cases hb0 : 0 < bs.length
        · have e0 : decide ((0 : Int) < (bs.length : Int)) = true := decide_eq_true (by omega)
          rw [e0]
          refine iteT ⟨_, rfl, bx, dl, ds, at_, 3, rfl, L.box, L.dig, L.a0, by decide, fun v4 v40 v41 => ?_⟩
          have L := L.drawn D
          refine ⟨rfl, _, rfl, ?_⟩
          rw [dec_int]
          by_cases hv4 : v4 = 0
          · have e4 : (v4 == 0) = true := by simpa using hv4
            rw [e4]
            refine iteT ?_
            refine ⟨_, rfl, .inl ⟨rfl, _, SqL.of L.blk⟩, _, rfl, bx, dl, ds, _, 60, rfl, L.box, L.dig, L.a0, by decide, fun v5 v50 v51 => .inl ⟨_, rfl, ?_⟩⟩
            have L := L.drawn D
            have hlen0 : (0 : Int) < (bs.length : Int) := by omega
            have hi0 := Int.emod_nonneg v5 (b := (bs.length : Int)) (by omega)
            have hi1 := Int.emod_lt_of_pos v5 hlen0
            obtain ⟨yv, hyv⟩ : ∃ yv, bs[(v5 % (bs.length : Int)).toNat]? = some yv := ⟨_, List.getElem?_eq_getElem (show (v5 % (bs.length : Int)).toNat < bs.length by omega)⟩
            refine ⟨_, rfl, bl, bs, rfl, .inl (SqL.of L.blk), _, _, rfl, rfl, hlen0, ?_⟩
            refine ⟨bl, bs, _, (v5 % (bs.length : Int)).toNat, yv, rfl, rfl, L.blk, by omega, by omega, seqIndex_of hi0 hi1, hyv, ?_⟩
            obtain ⟨p, hp, tt, rfl, ht⟩ := pa_get L.prs hyv
            have hmp : p ∈ usedOf as := L.prm.mem_iff.mp (List.mem_of_getElem? hp)
            obtain ⟨pre, y, post, eas, hu, hys, hyw⟩ := used_split hmp
            have M0 := mem_upd (ys := bs.eraseIdx (v5 % (bs.length : Int)).toNat) L.blk D.lw L.mem
            obtain ⟨⟨dz, hz⟩, _⟩ := id M0
            have ht0 : (upd _ bl (.lst (bs.eraseIdx (v5 % (bs.length : Int)).toNat))) tt = some (.tup [.int p.1, .int p.2]) := (upd_ne (ne_of ht L.blk (by intro z; cases z))).trans ht
            refine ⟨_, rfl, x, dz, _, rfl, hz, fl_no _ _ _ _ (by decide +kernel) (by decide +kernel) (by decide +kernel) (by decide +kernel), _, rfl, tt, _, _, _, rfl, rfl, SqT.of ht0, rfl, ?_⟩
            refine ⟨x, wl, 6 + v1, pol, ws, hd, pre, y, post, congrArg (fun z => [V.ref x, V.int z]) hys.symm, M0, (by rw [← eas]; exact L.inv), hu, hn2, fun H3 ws' hd' as' M' N' hU B' => ?_⟩
            have hperm : (ps.eraseIdx (v5 % (bs.length : Int)).toNat).Perm (usedOf as') := by
              rw [hU]
              have z1 := perm_erase hp
              have z2 := L.prm
              rw [eas, usedOf_app] at z2
              have z3 : usedOf (y :: post) = p :: usedOf post := by
                show (if y.u then (y.s, y.w) :: usedOf post else usedOf post) = _
                rw [hu, hys, hyw]
                rfl
              rw [z3] at z2
              exact ((z1.symm.trans z2).trans List.perm_middle).cons_inv
            exact ⟨_, _, _, _, _, _, _, _, _, _, rfl, L.shrunk D _ B' M' N' hperm⟩
          · have e4 : (v4 == 0) = false := by simpa using hv4
            rw [e4]
            refine iteF ?_
            refine ⟨_, rfl, bx, dl, ds, _, 5, rfl, L.box, L.dig, L.a0, by decide, fun v5 v50 v51 => ⟨_, _, rfl, rfl, ?_⟩⟩
            have L2 := L.drawn D
            refine ⟨_, rfl, _, rfl, bl, bs, kOf _, rfl, SqL.of L2.blk, sort_asks L2.prs, fun ys p q1 q2 hp => ?_⟩
            obtain ⟨sl, hY, hperm, hsrt⟩ := sorted_of L2.prs q1 q2
            have t2 := same_upd (o := .lst ys) hp
            have L3 := L2.same t2
            have e1 : sl = usedOf as := sorted_used L2.inv L2.prm hsrt hperm
            subst e1
            have hus : (usedOf as).length ≤ 1000 := by
              have q := L.prm.length_eq
              omega
            have hg : gapsGo (6 + v1) (usedOf as) 0 = freeOf as := gaps_eq L.inv.seg L.inv.na
            refine ⟨_, rfl, _, _, rfl, rfl, _, rfl, 6 + v1, p, 1 + v5 + 2, pol, ys, usedOf as, rfl, SqL.of upd_same, ps_same hY t2, hus, hnx, ?_, ?_⟩
            · intro hp0 H4 s4
              rw [hg] at hp0
              have L4 := L3.same s4
              refine ⟨_, rfl, rfl, _, rfl, ?_⟩
              refine iteF (iteF ?_)
              refine ⟨_, rfl, _, rfl, x, wl, 6 + v1, pol, ws, hd, 1 + v5, as, rfl, L4.mem, L4.inv, hn2, by omega, by omega, fun _ H5 s5 => ?_, fun s' w' hp1 => (by rw [hp0] at hp1; cases hp1)⟩
              refine ⟨_, rfl, rfl, _, rfl, ?_⟩
              refine iteF ?_
              refine ⟨_, rfl, rfl, _, rfl, ?_⟩
              refine iteF ?_
              exact ⟨_, ws, hd, bs, ps, as, _, _, _, _, rfl, L4.same s5⟩
            · intro st wi hp0 H4 s4
              rw [hg] at hp0
              have L4 := L3.same s4
              obtain ⟨pre, y, post, eas, hu, hys, hyw, hneed, hbef, hlat, hst0, hend, hb, hrest⟩ := law_alloc L.inv (need := 1 + v5 + 2) (by omega) hp0
              refine ⟨_, rfl, rfl, _, rfl, ?_⟩
              refine iteT ?_
              refine ⟨_, rfl, _, rfl, _, rfl, _, rfl, _, _, rfl, rfl, (by show 2 ≤ sizeLine; decide), fun tt htt => ⟨(by show 1 ≤ sizeLine; decide), fun q hq => ?_⟩⟩
              have sT : Same H4 (upd H4 tt (.tup [.int st, .int (1 + v5 + 2)])) := same_upd htt
              have sQ : Same (upd H4 tt (.tup [.int st, .int (1 + v5 + 2)])) (upd (upd H4 tt (.tup [.int st, .int (1 + v5 + 2)])) q (.lst [.ref tt])) := same_upd hq
              have hbsl : bs.length + ([V.ref tt] : List V).length ≤ sizeLine := by
                rw [List.length_singleton]
                have := small1000 (n := 1000) (Nat.le_refl _)
                omega
              refine ⟨bl, q, bs, [.ref tt], rfl, rfl, sQ _ _ (sT _ _ L4.blk), upd_same, hbsl, fun pp hpp => ?_⟩
              have sP := same_upd (o := .lst (bs ++ [.ref tt])) hpp
              have L5 := L4.same (sT.trans (sQ.trans sP))
              refine ⟨6 + v1, pp, bs ++ [.ref tt], ps ++ [(st, 1 + v5 + 2)], rfl, SqL.of upd_same, Paired.snoc L5.prs ⟨tt, rfl, sP _ _ (sQ _ _ upd_same)⟩, (by rw [List.length_append, List.length_singleton]; omega), fun H6 sl t6 hperm2 hsrt2 => ?_⟩
              refine ⟨_, rfl, ?_⟩
              cases hpc : pieceGo (sl ++ [(6 + v1, 0)]) 0 with
              | true => exact iteT (k _)
              | false =>
                refine iteF ?_
                have hfit : wi = 1 + v5 + 2 ∨ 3 ≤ wi - (1 + v5 + 2) := hrest ps sl L.prm hsrt2 hperm2 hpc
                have L6 := L5.same t6
                refine ⟨_, rfl, _, rfl, x, wl, 6 + v1, pol, ws, hd, 1 + v5, as, rfl, L6.mem, L6.inv, hn2, by omega, by omega, fun hp1 => (by rw [hp0] at hp1; cases hp1), fun s' w' hp1 H7' M7' B7 => ?_⟩
                have e2 := Option.some.inj (hp0.symm.trans hp1)
                cases e2
                have ed : (!decide (V.int st = V.int st)) = false := by simp
                refine ⟨_, rfl, rfl, _, rfl, ?_⟩
                rw [ed]
                refine iteF ?_
                refine ⟨_, rfl, rfl, _, rfl, ?_⟩
                refine iteT ?_
                have hmem := alloc_mem (need := 1 + v5 + 2) (by rw [← eas]; exact L.inv) hu (by omega) (by omega)
                rw [hys, hyw, ← hbef, ← hlat] at hmem
                have hprm := law_alloc_used (need := 1 + v5 + 2) (n := 6 + v1) (bs := ps) (pre := pre) (post := post) hu hys hyw hfit (by rw [← eas]; exact L.prm)
                have nx7 : bl ≠ x := by
                  obtain ⟨⟨dz, hz⟩, _⟩ := id L6.mem
                  exact ne_of L6.blk hz (by intro y; cases y)
                have bl7 := B7 _ _ L6.blk nx7 D.lw
                refine ⟨_, rfl, .inl ⟨rfl, _, SqL.of bl7⟩, _, rfl, _, rfl, _, _, rfl, rfl, (by show 2 ≤ sizeLine; decide), fun t9 ht9 => ?_⟩
                have s9 : Same H7' (upd H7' t9 (.tup [.int st, .int (1 + v5 + 2)])) := same_upd ht9
                refine ⟨bl, _, _, rfl, rfl, s9 _ _ bl7, (by rw [hbl2]; exact small1000 (by omega)), ?_⟩
                rw [hys, hyw] at hprm
                exact ⟨_, _, _, _, _, _, _, _, _, _, rfl, L6.grown D B7 M7' hmem (p := (st, 1 + v5 + 2)) ht9 hprm⟩
        · have e0 : decide ((0 : Int) < (bs.length : Int)) = false := decide_eq_false (by omega)
          rw [e0]
          refine iteF (iteF ?_)
          refine ⟨_, rfl, bx, dl, ds, _, 5, rfl, L.box, L.dig, L.a0, by decide, fun v5 v50 v51 => ⟨_, _, rfl, rfl, ?_⟩⟩
          have L2 := L.drawn D
          refine ⟨_, rfl, _, rfl, bl, bs, kOf _, rfl, SqL.of L2.blk, sort_asks L2.prs, fun ys p q1 q2 hp => ?_⟩
          obtain ⟨sl, hY, hperm, hsrt⟩ := sorted_of L2.prs q1 q2
          have t2 := same_upd (o := .lst ys) hp
          have L3 := L2.same t2
          have e1 : sl = usedOf as := sorted_used L2.inv L2.prm hsrt hperm
          subst e1
          have hus : (usedOf as).length ≤ 1000 := by
            have q := L.prm.length_eq
            omega
          have hg : gapsGo (6 + v1) (usedOf as) 0 = freeOf as := gaps_eq L.inv.seg L.inv.na
          refine ⟨_, rfl, _, _, rfl, rfl, _, rfl, 6 + v1, p, 1 + v5 + 2, pol, ys, usedOf as, rfl, SqL.of upd_same, ps_same hY t2, hus, hnx, ?_, ?_⟩
          · intro hp0 H4 s4
            rw [hg] at hp0
            have L4 := L3.same s4
            refine ⟨_, rfl, rfl, _, rfl, ?_⟩
            refine iteF (iteF ?_)
            refine ⟨_, rfl, _, rfl, x, wl, 6 + v1, pol, ws, hd, 1 + v5, as, rfl, L4.mem, L4.inv, hn2, by omega, by omega, fun _ H5 s5 => ?_, fun s' w' hp1 => (by rw [hp0] at hp1; cases hp1)⟩
            refine ⟨_, rfl, rfl, _, rfl, ?_⟩
            refine iteF ?_
            refine ⟨_, rfl, rfl, _, rfl, ?_⟩
            refine iteF ?_
            exact ⟨_, ws, hd, bs, ps, as, _, _, _, _, rfl, L4.same s5⟩
          · intro st wi hp0 H4 s4
            rw [hg] at hp0
            have L4 := L3.same s4
            obtain ⟨pre, y, post, eas, hu, hys, hyw, hneed, hbef, hlat, hst0, hend, hb, hrest⟩ := law_alloc L.inv (need := 1 + v5 + 2) (by omega) hp0
            refine ⟨_, rfl, rfl, _, rfl, ?_⟩
            refine iteT ?_
            refine ⟨_, rfl, _, rfl, _, rfl, _, rfl, _, _, rfl, rfl, (by show 2 ≤ sizeLine; decide), fun tt htt => ⟨(by show 1 ≤ sizeLine; decide), fun q hq => ?_⟩⟩
            have sT : Same H4 (upd H4 tt (.tup [.int st, .int (1 + v5 + 2)])) := same_upd htt
            have sQ : Same (upd H4 tt (.tup [.int st, .int (1 + v5 + 2)])) (upd (upd H4 tt (.tup [.int st, .int (1 + v5 + 2)])) q (.lst [.ref tt])) := same_upd hq
            have hbsl : bs.length + ([V.ref tt] : List V).length ≤ sizeLine := by
              rw [List.length_singleton]
              have := small1000 (n := 1000) (Nat.le_refl _)
              omega
            refine ⟨bl, q, bs, [.ref tt], rfl, rfl, sQ _ _ (sT _ _ L4.blk), upd_same, hbsl, fun pp hpp => ?_⟩
            have sP := same_upd (o := .lst (bs ++ [.ref tt])) hpp
            have L5 := L4.same (sT.trans (sQ.trans sP))
            refine ⟨6 + v1, pp, bs ++ [.ref tt], ps ++ [(st, 1 + v5 + 2)], rfl, SqL.of upd_same, Paired.snoc L5.prs ⟨tt, rfl, sP _ _ (sQ _ _ upd_same)⟩, (by rw [List.length_append, List.length_singleton]; omega), fun H6 sl t6 hperm2 hsrt2 => ?_⟩
            refine ⟨_, rfl, ?_⟩
            cases hpc : pieceGo (sl ++ [(6 + v1, 0)]) 0 with
            | true => exact iteT (k _)
            | false =>
              refine iteF ?_
              have hfit : wi = 1 + v5 + 2 ∨ 3 ≤ wi - (1 + v5 + 2) := hrest ps sl L.prm hsrt2 hperm2 hpc
              have L6 := L5.same t6
              refine ⟨_, rfl, _, rfl, x, wl, 6 + v1, pol, ws, hd, 1 + v5, as, rfl, L6.mem, L6.inv, hn2, by omega, by omega, fun hp1 => (by rw [hp0] at hp1; cases hp1), fun s' w' hp1 H7' M7' B7 => ?_⟩
              have e2 := Option.some.inj (hp0.symm.trans hp1)
              cases e2
              have ed : (!decide (V.int st = V.int st)) = false := by simp
              refine ⟨_, rfl, rfl, _, rfl, ?_⟩
              rw [ed]
              refine iteF ?_
              refine ⟨_, rfl, rfl, _, rfl, ?_⟩
              refine iteT ?_
              have hmem := alloc_mem (need := 1 + v5 + 2) (by rw [← eas]; exact L.inv) hu (by omega) (by omega)
              rw [hys, hyw, ← hbef, ← hlat] at hmem
              have hprm := law_alloc_used (need := 1 + v5 + 2) (n := 6 + v1) (bs := ps) (pre := pre) (post := post) hu hys hyw hfit (by rw [← eas]; exact L.prm)
              have nx7 : bl ≠ x := by
                obtain ⟨⟨dz, hz⟩, _⟩ := id L6.mem
                exact ne_of L6.blk hz (by intro y; cases y)
              have bl7 := B7 _ _ L6.blk nx7 D.lw
              refine ⟨_, rfl, .inl ⟨rfl, _, SqL.of bl7⟩, _, rfl, _, rfl, _, _, rfl, rfl, (by show 2 ≤ sizeLine; decide), fun t9 ht9 => ?_⟩
              have s9 : Same H7' (upd H7' t9 (.tup [.int st, .int (1 + v5 + 2)])) := same_upd ht9
              refine ⟨bl, _, _, rfl, rfl, s9 _ _ bl7, (by rw [hbl2]; exact small1000 (by omega)), ?_⟩
              rw [hys, hyw] at hprm
              exact ⟨_, _, _, _, _, _, _, _, _, _, rfl, L6.grown D B7 M7' hmem (p := (st, 1 + v5 + 2)) ht9 hprm⟩
      · rintro σ'' Hb ⟨at_, ws, hd, bs, ps, as, v6, v7, v8, v9, rfl, L⟩
        obtain ⟨⟨dy, hy⟩, _⟩ := id L.mem
        refine ⟨_, rfl, x, dy, _, rfl, hy, fl_no _ _ _ _ (by decide +kernel) (by decide +kernel) (by decide +kernel) (by decide +kernel), x, wl, 6 + v1, pol, ws, hd, as, rfl, L.mem, L.inv, hn2, fun H1' l ts t1 hl hL hP => ?_⟩
        have L1 := L.same t1
        refine ⟨_, rfl, bl, bs, kOf H1', rfl, SqL.of L1.blk, sort_asks L1.prs, fun ys p q1 q2 hp => ?_⟩
        obtain ⟨sl, hY, hperm, hsrt⟩ := sorted_of L1.prs q1 q2
        have t2 : Same H1' (upd H1' p (.lst ys)) := same_upd hp
        have e1 : sl = usedOf as := sorted_used L1.inv L1.prm hsrt hperm
        subst e1
        refine ⟨_, _, .lst (SqL.of (t2 _ _ hL)) (dp_all (ps_same hP t2)), .lst (SqL.of upd_same) (dp_all (ps_same hY t2)), dp_shaped _, dp_shaped _, _, rfl, ?_⟩
        rw [dp_eqv]
        exact iteF ⟨at_, ws, hd, bs, ps, as, v6, v7, v8, v9, rfl, L1.same t2⟩
    · rintro σ H' ⟨at_, ws, hd, bs, ps, as, v6, v7, v8, v9, rfl, L⟩
      exact k _
end
end K23
/-! K23End: what the top has written, the head. -/
namespace K23
open PySem L2
theorem all_mk {P : Program} {w : World} {K : PySem.W.Frag} {h : Heap} {mg : Str → Option Value} {fa C Ch Co fo cc cda tPl No fIn fPu fWi fUs fFr fCh fBe fLi fAl fAr fFi fRe fLa fGa fCe fDi fDr fRq fPi fLw fPl : Addr} (X : K.In h) (G : h.Ns mainGlobals mg) (hfa : mg "law" = some (.ref fa))
    {odIn odPu odWi odUs odFr odCh odBe odLi odAl odAr odFi odRe odLa odGa odCe odDi odDr odRq odPi odLw odPl anIn anPu anWi anUs anFr anCh anBe anLi anAl anAr anFi anRe anLa anGa anCe anDi anDr anRq anPi anLw anPl otdPl odo ano omd oed ddo : Option Addr} {slIn slPu slWi slUs slFr slCh slBe slLi slAl slAr slFi slRe slLa slGa slCe slDi slDr slRq slPi slLw slPl otsPl slo oms oes : Array (Option Value)} {ocIn kVIn dcIn pmIn cdIn ctIn ocPu kVPu dcPu pmPu cdPu ctPu ocWi kVWi dcWi pmWi cdWi ctWi ocUs kVUs dcUs pmUs cdUs ctUs ocFr kVFr dcFr pmFr cdFr ctFr ocCh kVCh dcCh pmCh cdCh ctCh ocBe kVBe dcBe pmBe cdBe ctBe ocLi kVLi dcLi pmLi cdLi ctLi ocAl kVAl dcAl pmAl cdAl ctAl ocAr kVAr dcAr pmAr cdAr ctAr ocFi kVFi dcFi pmFi cdFi ctFi ocRe kVRe dcRe pmRe cdRe ctRe ocLa kVLa dcLa pmLa cdLa ctLa ocGa kVGa dcGa pmGa cdGa ctGa ocCe kVCe dcCe pmCe cdCe ctCe ocDi kVDi dcDi pmDi cdDi ctDi ocDr kVDr dcDr pmDr cdDr ctDr ocRq kVRq dcRq pmRq cdRq ctRq ocPi kVPi dcPi pmPi cdPi ctPi ocLw kVLw dcLw pmLw cdLw ctLw ocPl kVPl dcPl pmPl cdPl ctPl otPl oco kVo dco pmo cto omc oec : Value}
    {otnPl : Nat} {ttPl zTt zLt zNt tf : Tok} {omv : Array Value} {file nmo qo : Str} {bso bmo subo : List Value} {sno : List Str} {abo : Bool} {colo : Option Bool} {k0o k1o k2o k3o k5o : Option Value}
    (aC : PySem.W.nsIn K mainGlobals "Tagged" = some (some (.ref C)))
    (aH : PySem.W.nsIn K mainGlobals "HeapgameError" = some (some (.ref Ch)))
    (aO : PySem.W.nsIn K mainGlobals "OutOfMemory" = some (some (.ref Co)))
    (aIn : PySem.W.findIn K (.ref C) "__init__" = some (some (.ref fIn)))
    (iIn : PySem.W.isFn K (.ref fIn) = true)
    (aPu : PySem.W.findIn K (.ref C) "put_tags" = some (some (.ref fPu)))
    (iPu : PySem.W.isFn K (.ref fPu) = true)
    (aWi : PySem.W.findIn K (.ref C) "wide" = some (some (.ref fWi)))
    (iWi : PySem.W.isFn K (.ref fWi) = true)
    (aUs : PySem.W.findIn K (.ref C) "is_used" = some (some (.ref fUs)))
    (iUs : PySem.W.isFn K (.ref fUs) = true)
    (aFr : PySem.W.findIn K (.ref C) "free_list" = some (some (.ref fFr)))
    (iFr : PySem.W.isFn K (.ref fFr) = true)
    (aCh : PySem.W.findIn K (.ref C) "choose" = some (some (.ref fCh)))
    (iCh : PySem.W.isFn K (.ref fCh) = true)
    (aBe : PySem.W.findIn K (.ref C) "before" = some (some (.ref fBe)))
    (iBe : PySem.W.isFn K (.ref fBe) = true)
    (aLi : PySem.W.findIn K (.ref C) "link" = some (some (.ref fLi)))
    (iLi : PySem.W.isFn K (.ref fLi) = true)
    (aAl : PySem.W.findIn K (.ref C) "allocate" = some (some (.ref fAl)))
    (iAl : PySem.W.isFn K (.ref fAl) = true)
    (aAr : PySem.W.findIn K (.ref C) "areas" = some (some (.ref fAr)))
    (iAr : PySem.W.isFn K (.ref fAr) = true)
    (aFi : PySem.W.findIn K (.ref C) "find_used" = some (some (.ref fFi)))
    (iFi : PySem.W.isFn K (.ref fFi) = true)
    (aRe : PySem.W.findIn K (.ref C) "release" = some (some (.ref fRe)))
    (iRe : PySem.W.isFn K (.ref fRe) = true)
    (aLa : PySem.W.findIn K (.ref C) "layout" = some (some (.ref fLa)))
    (iLa : PySem.W.isFn K (.ref fLa) = true)
    (aGa : PySem.W.nsIn K mainGlobals "gaps" = some (some (.ref fGa)))
    (aCe : PySem.W.nsIn K mainGlobals "_law_cell" = some (some (.ref fCe)))
    (aDi : PySem.W.nsIn K mainGlobals "_law_digits" = some (some (.ref fDi)))
    (aDr : PySem.W.nsIn K mainGlobals "_law_draw" = some (some (.ref fDr)))
    (aRq : PySem.W.nsIn K mainGlobals "_law_request" = some (some (.ref fRq)))
    (aPi : PySem.W.nsIn K mainGlobals "_law_piece" = some (some (.ref fPi)))
    (aLw : PySem.W.nsIn K mainGlobals "law" = some (some (.ref fLw)))
    (lIn : K.lookup fIn = some ⟨ocIn, odIn, .func (PySem.W.fnOf "__init__" "Tagged.__init__" (defArgs sInit) (defBody sInit) (defScope sInit) .none kVIn dcIn pmIn anIn cdIn ctIn), slIn⟩)
    (cIn : PySem.W.codeIn K cdIn "Tagged.__init__" = true)
    (kIn : PySem.W.keepIn K (.ref fIn) = true)
    (lPu : K.lookup fPu = some ⟨ocPu, odPu, .func (PySem.W.fnOf "put_tags" "Tagged.put_tags" (defArgs sPut) (defBody sPut) (defScope sPut) .none kVPu dcPu pmPu anPu cdPu ctPu), slPu⟩)
    (cPu : PySem.W.codeIn K cdPu "Tagged.put_tags" = true)
    (kPu : PySem.W.keepIn K (.ref fPu) = true)
    (lWi : K.lookup fWi = some ⟨ocWi, odWi, .func (PySem.W.fnOf "wide" "Tagged.wide" (defArgs sWide) (defBody sWide) (defScope sWide) .none kVWi dcWi pmWi anWi cdWi ctWi), slWi⟩)
    (cWi : PySem.W.codeIn K cdWi "Tagged.wide" = true)
    (kWi : PySem.W.keepIn K (.ref fWi) = true)
    (lUs : K.lookup fUs = some ⟨ocUs, odUs, .func (PySem.W.fnOf "is_used" "Tagged.is_used" (defArgs sUsed) (defBody sUsed) (defScope sUsed) .none kVUs dcUs pmUs anUs cdUs ctUs), slUs⟩)
    (cUs : PySem.W.codeIn K cdUs "Tagged.is_used" = true)
    (kUs : PySem.W.keepIn K (.ref fUs) = true)
    (lFr : K.lookup fFr = some ⟨ocFr, odFr, .func (PySem.W.fnOf "free_list" "Tagged.free_list" (defArgs sFree) (defBody sFree) (defScope sFree) .none kVFr dcFr pmFr anFr cdFr ctFr), slFr⟩)
    (cFr : PySem.W.codeIn K cdFr "Tagged.free_list" = true)
    (kFr : PySem.W.keepIn K (.ref fFr) = true)
    (lCh : K.lookup fCh = some ⟨ocCh, odCh, .func (PySem.W.fnOf "choose" "Tagged.choose" (defArgs sChoose) (defBody sChoose) (defScope sChoose) .none kVCh dcCh pmCh anCh cdCh ctCh), slCh⟩)
    (cCh : PySem.W.codeIn K cdCh "Tagged.choose" = true)
    (kCh : PySem.W.keepIn K (.ref fCh) = true)
    (lBe : K.lookup fBe = some ⟨ocBe, odBe, .func (PySem.W.fnOf "before" "Tagged.before" (defArgs sBefore) (defBody sBefore) (defScope sBefore) .none kVBe dcBe pmBe anBe cdBe ctBe), slBe⟩)
    (cBe : PySem.W.codeIn K cdBe "Tagged.before" = true)
    (kBe : PySem.W.keepIn K (.ref fBe) = true)
    (lLi : K.lookup fLi = some ⟨ocLi, odLi, .func (PySem.W.fnOf "link" "Tagged.link" (defArgs sLink) (defBody sLink) (defScope sLink) .none kVLi dcLi pmLi anLi cdLi ctLi), slLi⟩)
    (cLi : PySem.W.codeIn K cdLi "Tagged.link" = true)
    (kLi : PySem.W.keepIn K (.ref fLi) = true)
    (lAl : K.lookup fAl = some ⟨ocAl, odAl, .func (PySem.W.fnOf "allocate" "Tagged.allocate" (defArgs sAlloc) (defBody sAlloc) (defScope sAlloc) .none kVAl dcAl pmAl anAl cdAl ctAl), slAl⟩)
    (cAl : PySem.W.codeIn K cdAl "Tagged.allocate" = true)
    (kAl : PySem.W.keepIn K (.ref fAl) = true)
    (lAr : K.lookup fAr = some ⟨ocAr, odAr, .func (PySem.W.fnOf "areas" "Tagged.areas" (defArgs sAreas) (defBody sAreas) (defScope sAreas) .none kVAr dcAr pmAr anAr cdAr ctAr), slAr⟩)
    (cAr : PySem.W.codeIn K cdAr "Tagged.areas" = true)
    (kAr : PySem.W.keepIn K (.ref fAr) = true)
    (lFi : K.lookup fFi = some ⟨ocFi, odFi, .func (PySem.W.fnOf "find_used" "Tagged.find_used" (defArgs sFind) (defBody sFind) (defScope sFind) .none kVFi dcFi pmFi anFi cdFi ctFi), slFi⟩)
    (cFi : PySem.W.codeIn K cdFi "Tagged.find_used" = true)
    (kFi : PySem.W.keepIn K (.ref fFi) = true)
    (lRe : K.lookup fRe = some ⟨ocRe, odRe, .func (PySem.W.fnOf "release" "Tagged.release" (defArgs sRel) (defBody sRel) (defScope sRel) .none kVRe dcRe pmRe anRe cdRe ctRe), slRe⟩)
    (cRe : PySem.W.codeIn K cdRe "Tagged.release" = true)
    (kRe : PySem.W.keepIn K (.ref fRe) = true)
    (lLa : K.lookup fLa = some ⟨ocLa, odLa, .func (PySem.W.fnOf "layout" "Tagged.layout" (defArgs sLay) (defBody sLay) (defScope sLay) .none kVLa dcLa pmLa anLa cdLa ctLa), slLa⟩)
    (cLa : PySem.W.codeIn K cdLa "Tagged.layout" = true)
    (kLa : PySem.W.keepIn K (.ref fLa) = true)
    (lGa : K.lookup fGa = some ⟨ocGa, odGa, .func (PySem.W.fnOf "gaps" "gaps" (defArgs sGaps) (defBody sGaps) (defScope sGaps) .none kVGa dcGa pmGa anGa cdGa ctGa), slGa⟩)
    (cGa : PySem.W.codeIn K cdGa "gaps" = true)
    (kGa : PySem.W.keepIn K (.ref fGa) = true)
    (lCe : K.lookup fCe = some ⟨ocCe, odCe, .func (PySem.W.fnOf "_law_cell" "_law_cell" (defArgs sCell) (defBody sCell) (defScope sCell) .none kVCe dcCe pmCe anCe cdCe ctCe), slCe⟩)
    (cCe : PySem.W.codeIn K cdCe "_law_cell" = true)
    (kCe : PySem.W.keepIn K (.ref fCe) = true)
    (lDi : K.lookup fDi = some ⟨ocDi, odDi, .func (PySem.W.fnOf "_law_digits" "_law_digits" (defArgs sDigits) (defBody sDigits) (defScope sDigits) .none kVDi dcDi pmDi anDi cdDi ctDi), slDi⟩)
    (cDi : PySem.W.codeIn K cdDi "_law_digits" = true)
    (kDi : PySem.W.keepIn K (.ref fDi) = true)
    (lDr : K.lookup fDr = some ⟨ocDr, odDr, .func (PySem.W.fnOf "_law_draw" "_law_draw" (defArgs sDraw) (defBody sDraw) (defScope sDraw) .none kVDr dcDr pmDr anDr cdDr ctDr), slDr⟩)
    (cDr : PySem.W.codeIn K cdDr "_law_draw" = true)
    (kDr : PySem.W.keepIn K (.ref fDr) = true)
    (lRq : K.lookup fRq = some ⟨ocRq, odRq, .func (PySem.W.fnOf "_law_request" "_law_request" (defArgs sReq) (defBody sReq) (defScope sReq) .none kVRq dcRq pmRq anRq cdRq ctRq), slRq⟩)
    (cRq : PySem.W.codeIn K cdRq "_law_request" = true)
    (kRq : PySem.W.keepIn K (.ref fRq) = true)
    (lPi : K.lookup fPi = some ⟨ocPi, odPi, .func (PySem.W.fnOf "_law_piece" "_law_piece" (defArgs sPiece) (defBody sPiece) (defScope sPiece) .none kVPi dcPi pmPi anPi cdPi ctPi), slPi⟩)
    (cPi : PySem.W.codeIn K cdPi "_law_piece" = true)
    (kPi : PySem.W.keepIn K (.ref fPi) = true)
    (lLw : K.lookup fLw = some ⟨ocLw, odLw, .func (PySem.W.fnOf "law" "law" (defArgs sLaw) (defBody sLaw) (defScope sLaw) .none kVLw dcLw pmLw anLw cdLw ctLw), slLw⟩)
    (cLw : PySem.W.codeIn K cdLw "law" = true)
    (kLw : PySem.W.keepIn K (.ref fLw) = true)
    (aPl : PySem.W.nsIn K mainGlobals "place_block" = some (some (.ref fPl)))
    (lPl : K.lookup fPl = some ⟨ocPl, odPl, .func (PySem.W.fnOf "place_block" "place_block" (defArgs sPlace) (defBody sPlace) (defScope sPlace) (.ref tPl) kVPl dcPl pmPl anPl cdPl ctPl), slPl⟩)
    (cPl : PySem.W.codeIn K cdPl "place_block" = true)
    (kPl : PySem.W.keepIn K (.ref fPl) = true)
    (dPl : K.lookup tPl = some ⟨otPl, otdPl, .seq #[.int 0 ttPl] otnPl, otsPl⟩)
    (pg : PySem.W.plainGet K C Str.empty = true)
    (hd : PySem.W.hasDictIn K C = true)
    (po : PySem.W.plainOver K C = true)
    (sa : PySem.W.findIn K (.ref C) "__setattr__" = some (some (.builtin "object.__setattr__")))
    (mk : PySem.W.makesIn K C = true)
    (kc : PySem.W.keepIn K (.ref C) = true)
    (nSi : PySem.W.findIn K (.ref C) "size" = some none)
    (nPo : PySem.W.findIn K (.ref C) "policy" = some none)
    (nWo : PySem.W.findIn K (.ref C) "words" = some none)
    (nHe : PySem.W.findIn K (.ref C) "head" = some none)
    (zT : PySem.W.nsIn K mainGlobals "TAGS" = some (some (.int 2 zTt)))
    (zL : PySem.W.nsIn K mainGlobals "LEAST" = some (some (.int 3 zLt)))
    (zN : PySem.W.nsIn K mainGlobals "NONE" = some (some (.int (-1) zNt)))
    (zle : PySem.W.nsIn K mainGlobals "len" = some none)
    (zra : PySem.W.nsIn K mainGlobals "range" = some none)
    (zma : PySem.W.nsIn K mainGlobals "max" = some none)
    (zso : PySem.W.nsIn K mainGlobals "sorted" = some none)
    (zit : PySem.W.nsIn K mainGlobals "int" = some none)
    (zii : PySem.W.nsIn K mainGlobals "isinstance" = some none)
    (zsu : PySem.W.nsIn K mainGlobals "super" = some none)
    (oi : PySem.W.findIn K (.ref Co) "__init__" = some (some (.ref fo)))
    (ot : PySem.W.typeIn K (.ref fo) = some (.type "function"))
    (ol : K.lookup fo = some ⟨oco, odo, .func (PySem.W.fnX "__init__" "OutOfMemory.__init__" (defArgs sOom) (defBody sOom) (defScope sOom) [("__class__", cc)] .none kVo dco pmo ano (.ref cda) cto), slo⟩)
    (oc : PySem.W.codeIn K (.ref cda) "OutOfMemory.__init__" = true)
    (om : K.lookup cda = some ⟨omc, omd, .fields omv, oms⟩)
    (omf : omv[2]? = some (.str file tf))
    (omg : ((P.main.file : Str) == file) = true)
    (oe : K.lookup cc = some ⟨oec, oed, .cell (some (.ref Co)), oes⟩)
    (ox : K.lookup Co = some (excClassObj nmo qo Co No bso bmo true sno subo abo colo ddo k0o k1o k2o k3o k5o "ValueError.__new__"))
    (oy : PySem.HandSPX.refsVE bmo = true)
    (os : PySem.W.findIn K (.ref Co) "__setattr__" = some (some (.builtin "object.__setattr__")))
    (ob : PySem.W.subIn K (.ref Co) (.type "BaseException") = some true)
    (ov : PySem.W.subIn K (.ref Co) (.type "ValueError") = some true)
    (oty : PySem.W.typeIn K (.ref Co) = some (.type "type"))
    (ok : PySem.W.keepIn K (.ref Co) = true)
    (otop : (P.main.scope.names.lookup ("super" : Str)).isSome = false)
    (oany : PySem.W.nsIn K cStatics "thirdparty.any" = some none)
    (osup : PySem.W.ks_superIn K Co Co "__init__" = some (some (.builtin "ValueError.__init__")))
    (omro : PySem.W.mroIn K Co (.ref Co) = some true)
    (onl : PySem.W.findIn K (.ref Co) "length" = some none)
    (eg : PySem.W.findIn K (.ref Co) "__getattribute__" = some (some (.builtin "BaseException.__getattribute__")))
    (ek : PySem.W.findIn K (.ref Co) "__getattr__" = some none)
    (ed : PySem.W.hasDictIn K Co = true)
    (ea : PySem.W.findIn K (.ref Co) "__class__" = some (some (.builtin "object.__class__")))
    (en : PySem.W.specialIn K (.builtin "object.__class__") "__get__" = some (some (.builtin "getset_descriptor.__get__")))
    (et : PySem.W.takesIn K (.builtin "object.__class__") = some true)
    (em : PySem.W.mroIn K Co (.type "object") = some true)
    (hb : PySem.W.subIn K (.ref Ch) (.type "BaseException") = some true)
    (hh : PySem.W.hasDictIn K Ch = true)
    (ht : PySem.W.typeIn K (.ref Ch) = some (.type "type"))
    (hs : PySem.W.subIn K (.ref Co) (.ref Ch) = some true)
    (ekit : PySem.W.kitOne K (.ref Co) (.ref Co) = some true) :
    ∃ fd : FuncData, (∀ (s : Shared) (v : Value), BindsTo s fd ⟨[v], []⟩ [("_law_script", v)]) ∧ ∀ base : Heap, K.In base → base.Ns mainGlobals mg → FnOk P w K mg base CX0 6 fa fd ["_law_script"] (spLaw K) := by
  have e := hfa.symm.trans (PySem.W.mg_of X G aLw)
  cases e
  have T : Txt K mg C := ⟨⟨pg, hd, po, sa⟩, nSi, nPo, nWo, nHe, PySem.W.mg_of X G aC, ⟨_, PySem.W.mg_of X G zT⟩, ⟨_, PySem.W.mg_of X G zL⟩, ⟨_, PySem.W.mg_of X G zN⟩, PySem.W.mg_none_of X G zle, PySem.W.mg_none_of X G zra, PySem.W.mg_none_of X G zma, PySem.W.mg_none_of X G zso, PySem.W.mg_none_of X G zit, PySem.W.mg_none_of X G zii⟩
  have FIn := fun_mk (st := sInit) lIn cIn kIn
  have FPu := fun_mk (st := sPut) lPu cPu kPu
  have FWi := fun_mk (st := sWide) lWi cWi kWi
  have FUs := fun_mk (st := sUsed) lUs cUs kUs
  have FFr := fun_mk (st := sFree) lFr cFr kFr
  have FCh := fun_mk (st := sChoose) lCh cCh kCh
  have FBe := fun_mk (st := sBefore) lBe cBe kBe
  have FLi := fun_mk (st := sLink) lLi cLi kLi
  have FAl := fun_mk (st := sAlloc) lAl cAl kAl
  have FAr := fun_mk (st := sAreas) lAr cAr kAr
  have FFi := fun_mk (st := sFind) lFi cFi kFi
  have FRe := fun_mk (st := sRel) lRe cRe kRe
  have FLa := fun_mk (st := sLay) lLa cLa kLa
  have FGa := fun_mk (st := sGaps) lGa cGa kGa
  have FCe := fun_mk (st := sCell) lCe cCe kCe
  have FDi := fun_mk (st := sDigits) lDi cDi kDi
  have FDr := fun_mk (st := sDraw) lDr cDr kDr
  have FRq := fun_mk (st := sReq) lRq cRq kRq
  have FPi := fun_mk (st := sPiece) lPi cPi kPi
  have FLw := fun_mk (st := sLaw) lLw cLw kLw
  have bIn := FIn.binds (ps := ["self", "size", "policy"]) fun _ _ _ _ _ _ us hl => match us, hl with | [_, _, _], _ => rfl
  have bPu := FPu.binds (ps := ["self", "start", "wide", "used"]) fun _ _ _ _ _ _ us hl => match us, hl with | [_, _, _, _], _ => rfl
  have bWi := FWi.binds (ps := ["self", "start"]) fun _ _ _ _ _ _ us hl => match us, hl with | [_, _], _ => rfl
  have bUs := FUs.binds (ps := ["self", "start"]) fun _ _ _ _ _ _ us hl => match us, hl with | [_, _], _ => rfl
  have bFr := FFr.binds (ps := ["self"]) fun _ _ _ _ _ _ us hl => match us, hl with | [_], _ => rfl
  have bCh := FCh.binds (ps := ["self", "least"]) fun _ _ _ _ _ _ us hl => match us, hl with | [_, _], _ => rfl
  have bBe := FBe.binds (ps := ["self", "start"]) fun _ _ _ _ _ _ us hl => match us, hl with | [_, _], _ => rfl
  have bLi := FLi.binds (ps := ["self", "before", "start"]) fun _ _ _ _ _ _ us hl => match us, hl with | [_, _, _], _ => rfl
  have bAl := FAl.binds (ps := ["self", "length"]) fun _ _ _ _ _ _ us hl => match us, hl with | [_, _], _ => rfl
  have bAr := FAr.binds (ps := ["self"]) fun _ _ _ _ _ _ us hl => match us, hl with | [_], _ => rfl
  have bFi := FFi.binds (ps := ["self", "start"]) fun _ _ _ _ _ _ us hl => match us, hl with | [_, _], _ => rfl
  have bRe := FRe.binds (ps := ["self", "start"]) fun _ _ _ _ _ _ us hl => match us, hl with | [_, _], _ => rfl
  have bLa := FLa.binds (ps := ["self"]) fun _ _ _ _ _ _ us hl => match us, hl with | [_], _ => rfl
  have bGa := FGa.binds (ps := ["size", "layout"]) fun _ _ _ _ _ _ us hl => match us, hl with | [_, _], _ => rfl
  have bCe := FCe.binds (ps := ["_law_script", "_law_k"]) fun _ _ _ _ _ _ us hl => match us, hl with | [_, _], _ => rfl
  have bDi := FDi.binds (ps := ["_law_script", "_law_first", "_law_last"]) fun _ _ _ _ _ _ us hl => match us, hl with | [_, _, _], _ => rfl
  have bDr := FDr.binds (ps := ["_law_box", "_law_many"]) fun _ _ _ _ _ _ us hl => match us, hl with | [_, _], _ => rfl
  have bRq := FRq.binds (ps := ["_law_memory", "_law_length"]) fun _ _ _ _ _ _ us hl => match us, hl with | [_, _], _ => rfl
  have bPi := FPi.binds (ps := ["_law_size", "_law_blocks"]) fun _ _ _ _ _ _ us hl => match us, hl with | [_, _], _ => rfl
  have mIn : Meth K C "__init__" fIn := ⟨aIn, iIn, kIn⟩
  have mPu : Meth K C "put_tags" fPu := ⟨aPu, iPu, kPu⟩
  have mWi : Meth K C "wide" fWi := ⟨aWi, iWi, kWi⟩
  have mUs : Meth K C "is_used" fUs := ⟨aUs, iUs, kUs⟩
  have mFr : Meth K C "free_list" fFr := ⟨aFr, iFr, kFr⟩
  have mCh : Meth K C "choose" fCh := ⟨aCh, iCh, kCh⟩
  have mBe : Meth K C "before" fBe := ⟨aBe, iBe, kBe⟩
  have mLi : Meth K C "link" fLi := ⟨aLi, iLi, kLi⟩
  have mAl : Meth K C "allocate" fAl := ⟨aAl, iAl, kAl⟩
  have mAr : Meth K C "areas" fAr := ⟨aAr, iAr, kAr⟩
  have mFi : Meth K C "find_used" fFi := ⟨aFi, iFi, kFi⟩
  have mRe : Meth K C "release" fRe := ⟨aRe, iRe, kRe⟩
  have mLa : Meth K C "layout" fLa := ⟨aLa, iLa, kLa⟩
  have FPl : FunD K "place_block" "place_block" (defArgs sPlace) (defBody sPlace) (defScope sPlace) [.int 0] [] fPl _ := ⟨⟨ocPl, odPl, _, kVPl, dcPl, pmPl, anPl, cdPl, ctPl, slPl, rfl, lPl, cPl, .inr ⟨by simp, tPl, _, [.int 0 ttPl], otnPl, rfl, dPl, rfl, .cons ⟨_, rfl⟩ .nil⟩, .inl rfl⟩, kPl⟩
  obtain ⟨dsP, rP, bP⟩ := FPl.binds1 (ps := ["size", "layout", "length", "policy", "cursor"]) 4 0 (by simp) rfl fun T kV doc pm an cdv ct us its hl hi => match us, its, hl, hi with | [_, _, _, _], [_], _, _ => ⟨_, rfl, rfl⟩
  have SO : SupTxt P K mg "OutOfMemory.__init__" sOom Co fo cc cda _ := ⟨⟨oco, odo, .none, kVo, dco, pmo, ano, cto, slo, rfl, ol⟩, oc, ⟨omc, omd, omv, oms, file, tf, om, omf, omg⟩, ⟨oec, oed, oes, oe⟩, ⟨⟨nmo, qo, No, bso, bmo, sno, subo, abo, colo, ddo, k0o, k1o, k2o, k3o, k5o, ox, oy⟩, os, ob, oty, ok⟩,
    PySem.W.mg_none_of X G zsu, otop, oany, osup, ov, omro, onl⟩
  have O : OomTxt P K mg Co fo cc cda _ := ⟨SO, oi, ot, .all fun us hl => match us, hl with | [_, _], _ => rfl, PySem.W.mg_of X G aO⟩
  have R : ReqTxt K mg Co Ch := ⟨⟨eg, ek, ob, ed, ea, en, et, em⟩, PySem.W.exm_ref hb hh ht hs, ekit, PySem.W.mg_of X G aH, PySem.W.mg_of X G aO⟩
  refine ⟨PySem.W.fnOf "law" "law" (defArgs sLaw) (defBody sLaw) (defScope sLaw) .none kVLw dcLw pmLw anLw cdLw ctLw, fun s v => .of_eq rfl, fun base _ _ => ?_⟩
  have GPu : FnOk P w K mg base CX0 1 fPu _ ["self", "start", "wide", "used"] (spPut C) := ok_put FPu T
  have GWi : FnOk P w K mg base CX0 1 fWi _ ["self", "start"] (spWide C) := ok_wide FWi T
  have GLi : FnOk P w K mg base CX0 1 fLi _ ["self", "before", "start"] (spLink C) := ok_link FLi T
  have GFr : FnOk P w K mg base CX0 2 fFr _ ["self"] (spFree C) := ok_free FFr T FWi bWi mWi
  have GAr : FnOk P w K mg base CX0 2 fAr _ ["self"] (spAreas C) := ok_areas FAr T FWi bWi mWi FUs bUs mUs
  have GCh : FnOk P w K mg base CX0 3 fCh _ ["self", "least"] (spChoose C) := ok_choose FCh T GFr bFr mFr
  have GBe : FnOk P w K mg base CX0 3 fBe _ ["self", "start"] (spBefore C) := ok_before FBe T GFr bFr mFr
  have GFi : FnOk P w K mg base CX0 3 fFi _ ["self", "start"] (spFind C) := ok_find FFi T GAr bAr mAr
  have GLa : FnOk P w K mg base CX0 3 fLa _ ["self"] (spLay C) := ok_lay FLa T GAr bAr mAr
  have GAl : FnOk P w K mg base (L2.CX P w) 4 fAl _ ["self", "length"] (spAlloc C Co) := ok_alloc FAl T O GCh bCh mCh GBe bBe mBe GLi bLi mLi GPu bPu mPu
  have GRe : FnOk P w K mg base CX0 4 fRe _ ["self", "start"] (spRel C) := ok_rel FRe T GFi bFi mFi GBe bBe mBe GLi bLi mLi GPu bPu mPu GWi bWi mWi
  have GIn : FnOk P w K mg base CX0 2 fIn _ ["self", "size", "policy"] (spInit C) := ok_init FIn T GPu bPu mPu
  have GPl : FnOk P w K mg base CX0 2 fPl _ ["size", "layout", "length", "policy", "cursor"] (spPlace K) := ok_place FPl FGa bGa (PySem.W.mg_of X G aGa)
  have GDi : FnOk P w K mg base CX0 2 fDi _ ["_law_script", "_law_first", "_law_last"] (spDigits K) := ok_digits FDi FCe bCe (PySem.W.mg_of X G aCe) T.len T.range T.int_
  have GDr : FnOk P w K mg base CX0 1 fDr _ ["_law_box", "_law_many"] spDraw := ok_draw FDr T.len T.int_
  have GRq : FnOk P w K mg base CX0 5 fRq _ ["_law_memory", "_law_length"] (spReq C) := ok_req FRq T R GAl bAl mAl
  have GPi : FnOk P w K mg base CX0 1 fPi _ ["_law_size", "_law_blocks"] (spPiece K) := ok_piece FPi T.sorted
  exact ok_law FLw T GDi bDi (PySem.W.mg_of X G aDi) kDi GDr bDr (PySem.W.mg_of X G aDr) kDr ⟨mk, aIn, iIn, kc⟩ GIn bIn GPl bP rP (PySem.W.mg_of X G aPl) kPl GPi bPi (PySem.W.mg_of X G aPi) kPi GRq bRq (PySem.W.mg_of X G aRq) kRq GRe bRe mRe GLa bLa mLa
theorem walk {l : PySem.W.OpenLaw} {q : Program} {loose : List Str} {XP : (Str → Option Value) → Heap → Prop} {YP : World → Heap → Prop} {d : DefRec} {K : Params → PySem.W.Frag} (hn : l.most = some 63) (hdf : d.params.defaults = [])
    (hY : ∀ (w : World) (h : Heap), YP w h → (K w.params).In h)
    (F : ∀ (w : World) (mg : Str → Option Value) (fa : Addr) (h : Heap), (K w.params).In h → h.Ns mainGlobals mg → mg d.name = some (.ref fa) →
      ∃ fd : FuncData, (∀ (s : Shared) (u : Value), BindsTo s fd ⟨[u], []⟩ [("_law_script", u)]) ∧ ∀ base : Heap, (K w.params).In base → base.Ns mainGlobals mg → FnOk l.prog w (K w.params) mg base CX0 6 fa fd ["_law_script"] (spLaw (K w.params))) :
    PySem.W.WalkO q loose XP YP l.row.toRowW d [] (fun f vs => PySem.call f vs) :=
  L2.walk_of (n := 63) (k := 6) (x := "_law_script") (CX := fun _ => CX0) (sp := fun w => spLaw (K w.params)) hn (by decide) hdf ⟨rfl, by decide, by decide⟩ hY F (fun _ _ a ns hl _ hS => ⟨a, ns, rfl, hS, hl, fun _ => rfl⟩) fun _ _ _ _ _ z => z
end K23

open PySem PySem.W PyProof.Rows in
set_option maxRecDepth 100000 in
set_option maxHeartbeats 0 in
theorem PySem.Challenge.cw_heapgame_k23_whole_policies_on_tagged_wo_holds : PySem.Challenge.rw_heapgame_k23_whole_policies_on_tagged_wo.Holds := by
  w_on; o_law; k_head; (case hw => w_witness2)
  k_fill
  refine K23.walk (l := PySem.Challenge.rw_heapgame_k23_whole_policies_on_tagged_wo) rfl rfl (fun w h Y => PySem.W.kIn_of Y) ?F
  case F =>
    intro w mg fa h KX G hmg
    refine' K23.all_mk KX G hmg ?aC ?aH ?aO ?aIn ?iIn ?aPu ?iPu ?aWi ?iWi ?aUs ?iUs ?aFr ?iFr ?aCh ?iCh ?aBe ?iBe ?aLi ?iLi ?aAl ?iAl ?aAr ?iAr ?aFi ?iFi ?aRe ?iRe ?aLa ?iLa ?aGa ?aCe ?aDi ?aDr ?aRq ?aPi ?aLw ?lIn ?cIn ?kIn ?lPu ?cPu ?kPu ?lWi ?cWi ?kWi ?lUs ?cUs ?kUs ?lFr ?cFr ?kFr ?lCh ?cCh ?kCh ?lBe ?cBe ?kBe ?lLi ?cLi ?kLi ?lAl ?cAl ?kAl ?lAr ?cAr ?kAr ?lFi ?cFi ?kFi ?lRe ?cRe ?kRe ?lLa ?cLa ?kLa ?lGa ?cGa ?kGa ?lCe ?cCe ?kCe ?lDi ?cDi ?kDi ?lDr ?cDr ?kDr ?lRq ?cRq ?kRq ?lPi ?cPi ?kPi ?lLw ?cLw ?kLw ?aPl ?lPl ?cPl ?kPl ?dPl ?pg ?hd ?po ?sa ?mk ?kc ?nSi ?nPo ?nWo ?nHe ?zT ?zL ?zN ?zle ?zra ?zma ?zso ?zit ?zii ?zsu ?oi ?ot ?ol ?oc ?om ?omf ?omg ?oe ?ox ?oy ?os ?ob ?ov ?oty ?ok ?otop ?oany ?osup ?omro ?onl ?eg ?ek ?ed ?ea ?en ?et ?em ?hb ?hh ?ht ?hs ?ekit
    (case aC => k_is)
    (case aH => k_is)
    (case aO => k_is)
    (case aIn => k_is)
    (case iIn => k_is)
    (case aPu => k_is)
    (case iPu => k_is)
    (case aWi => k_is)
    (case iWi => k_is)
    (case aUs => k_is)
    (case iUs => k_is)
    (case aFr => k_is)
    (case iFr => k_is)
    (case aCh => k_is)
    (case iCh => k_is)
    (case aBe => k_is)
    (case iBe => k_is)
    (case aLi => k_is)
    (case iLi => k_is)
    (case aAl => k_is)
    (case iAl => k_is)
    (case aAr => k_is)
    (case iAr => k_is)
    (case aFi => k_is)
    (case iFi => k_is)
    (case aRe => k_is)
    (case iRe => k_is)
    (case aLa => k_is)
    (case iLa => k_is)
    (case aGa => k_is)
    (case aCe => k_is)
    (case aDi => k_is)
    (case aDr => k_is)
    (case aRq => k_is)
    (case aPi => k_is)
    (case aLw => k_is)
    (case lIn => k_is)
    (case cIn => k_is)
    (case kIn => k_is)
    (case lPu => k_is)
    (case cPu => k_is)
    (case kPu => k_is)
    (case lWi => k_is)
    (case cWi => k_is)
    (case kWi => k_is)
    (case lUs => k_is)
    (case cUs => k_is)
    (case kUs => k_is)
    (case lFr => k_is)
    (case cFr => k_is)
    (case kFr => k_is)
    (case lCh => k_is)
    (case cCh => k_is)
    (case kCh => k_is)
    (case lBe => k_is)
    (case cBe => k_is)
    (case kBe => k_is)
    (case lLi => k_is)
    (case cLi => k_is)
    (case kLi => k_is)
    (case lAl => k_is)
    (case cAl => k_is)
    (case kAl => k_is)
    (case lAr => k_is)
    (case cAr => k_is)
    (case kAr => k_is)
    (case lFi => k_is)
    (case cFi => k_is)
    (case kFi => k_is)
    (case lRe => k_is)
    (case cRe => k_is)
    (case kRe => k_is)
    (case lLa => k_is)
    (case cLa => k_is)
    (case kLa => k_is)
    (case lGa => k_is)
    (case cGa => k_is)
    (case kGa => k_is)
    (case lCe => k_is)
    (case cCe => k_is)
    (case kCe => k_is)
    (case lDi => k_is)
    (case cDi => k_is)
    (case kDi => k_is)
    (case lDr => k_is)
    (case cDr => k_is)
    (case kDr => k_is)
    (case lRq => k_is)
    (case cRq => k_is)
    (case kRq => k_is)
    (case lPi => k_is)
    (case cPi => k_is)
    (case kPi => k_is)
    (case lLw => k_is)
    (case cLw => k_is)
    (case kLw => k_is)
    (case aPl => k_is)
    (case lPl => k_is)
    (case cPl => k_is)
    (case kPl => k_is)
    (case dPl => k_is)
    (case pg => k_is)
    (case hd => k_is)
    (case po => k_is)
    (case sa => k_is)
    (case mk => k_is)
    (case kc => k_is)
    (case nSi => k_is)
    (case nPo => k_is)
    (case nWo => k_is)
    (case nHe => k_is)
    (case zT => k_is)
    (case zL => k_is)
    (case zN => k_is)
    (case zle => k_is)
    (case zra => k_is)
    (case zma => k_is)
    (case zso => k_is)
    (case zit => k_is)
    (case zii => k_is)
    (case zsu => k_is)
    (case oi => k_is)
    (case ot => k_is)
    (case ol => k_is)
    (case oc => k_is)
    (case om => k_is)
    (case omf => rfl)
    (case omg => first | rfl | decide +kernel)
    (case oe => k_is)
    (case ox => k_is)
    (case oy => decide +kernel)
    (case os => k_is)
    (case ob => k_is)
    (case ov => k_is)
    (case oty => k_is)
    (case ok => k_is)
    (case otop => first | rfl | decide +kernel)
    (case oany => k_is)
    (case osup => ks_is)
    (case omro => k_is)
    (case onl => k_is)
    (case eg => k_is)
    (case ek => k_is)
    (case ed => k_is)
    (case ea => k_is)
    (case en => k_is)
    (case et => k_is)
    (case em => k_is)
    (case hb => k_is)
    (case hh => k_is)
    (case ht => k_is)
    (case hs => k_is)
    (case ekit => kit_is)
