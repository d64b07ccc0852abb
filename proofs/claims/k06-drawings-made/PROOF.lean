import PyProof.Rows.All
import Wide.All
import OpenK.AllK
import Wide.FinOn
import HandS.ForMost
import HandS.IsInst
import HandS.Deep
import HandS.SortRule
import HandS.More
import HandS.Codes
import PySem.Challenge.RW_doingbook_k06_drawings_made
set_option Elab.async false
set_option linter.all false
set_option maxRecDepth 100000
set_option maxHeartbeats 8000000
/-! The plain law: pairs of ints, their order, what sources and followers are. No program in sight. -/
namespace Dr

/-! ### the order of pairs -/
def le2 (p q : Int × Int) : Prop := p.1 < q.1 ∨ (p.1 = q.1 ∧ p.2 ≤ q.2)
def lt2 (p q : Int × Int) : Prop := p.1 < q.1 ∨ (p.1 = q.1 ∧ p.2 < q.2)

theorem uniq_of {α : Type} {R : α → α → Prop} (anti : ∀ a b, R a b → R b a → a = b) :
    ∀ {xs ys : List α}, xs.Perm ys → xs.Pairwise R → ys.Pairwise R → xs = ys
  | [], ys, h, _, _ => (List.Perm.nil_eq h)
  | x :: xs, [], h, _, _ => by have := h.length_eq; simp at this
  | x :: xs, y :: ys, h, hx, hy => by
    have e : x = y := by
      have h1 : x ∈ y :: ys := h.mem_iff.mp List.mem_cons_self
      have h2 : y ∈ x :: xs := h.mem_iff.mpr List.mem_cons_self
      rcases List.mem_cons.mp h1 with e | h1
      · exact e
      · rcases List.mem_cons.mp h2 with e | h2
        · exact e.symm
        · exact anti _ _ ((List.pairwise_cons.mp hx).1 _ h2) ((List.pairwise_cons.mp hy).1 _ h1)
    subst e
    rw [uniq_of anti h.cons_inv (List.pairwise_cons.mp hx).2 (List.pairwise_cons.mp hy).2]

theorem le2_anti (p q : Int × Int) (h1 : le2 p q) (h2 : le2 q p) : p = q := by
  obtain ⟨a, b⟩ := p
  obtain ⟨c, d⟩ := q
  unfold le2 at h1 h2
  simp only at h1 h2
  have e1 : a = c := by omega
  have e2 : b = d := by omega
  rw [e1, e2]

/-- qs is ps in order -/
structure Srt (ps qs : List (Int × Int)) : Prop where
  perm : qs.Perm ps
  ord : qs.Pairwise le2
theorem Srt.uniq {ps ps' qs qs' : List (Int × Int)} (h : Srt ps qs) (h' : Srt ps' qs') (e : ps.Perm ps') : qs = qs' :=
  uniq_of le2_anti ((h.perm.trans e).trans h'.perm.symm) h.ord h'.ord
/-- pairs of names below c, the less ahead, none twice -/
structure Good (c : Int) (ps : List (Int × Int)) : Prop where
  lt : ∀ p ∈ ps, 0 ≤ p.1 ∧ p.1 < p.2 ∧ p.2 < c
  nd : ps.Nodup
theorem Good.perm {c : Int} {ps qs : List (Int × Int)} (g : Good c ps) (h : qs.Perm ps) : Good c qs :=
  ⟨fun p hp => g.lt p (h.mem_iff.mp hp), h.nodup_iff.mpr g.nd⟩
/-- rising, none twice -/
theorem Srt.strict {c : Int} {ps qs : List (Int × Int)} (h : Srt ps qs) (g : Good c ps) : qs.Pairwise lt2 := by
  have nd : qs.Pairwise (fun a b => a ≠ b) := (g.perm h.perm).nd
  refine (h.ord.and nd).imp fun {a b} z => ?_
  obtain ⟨z1, z2⟩ := z
  obtain ⟨a1, a2⟩ := a
  obtain ⟨b1, b2⟩ := b
  unfold le2 at z1
  unfold lt2
  simp only at z1 ⊢
  have z3 : ¬ (a1 = b1 ∧ a2 = b2) := fun ⟨x, y⟩ => z2 (by rw [x, y])
  omega
theorem Srt.self {ps qs : List (Int × Int)} (h : Srt ps qs) : Srt qs qs := ⟨List.Perm.refl _, h.ord⟩

/-! ### rising lists of ints are told by their members -/
theorem rising_eq {xs ys : List Int} (hx : xs.Pairwise (· < ·)) (hy : ys.Pairwise (· < ·)) (h : ∀ a, a ∈ xs ↔ a ∈ ys) : xs = ys := by
  have nx : xs.Nodup := hx.imp fun {a b} z => (by omega : a ≠ b)
  have ny : ys.Nodup := hy.imp fun {a b} z => (by omega : a ≠ b)
  have p : xs.Perm ys := (List.perm_ext_iff_of_nodup nx ny).mpr h
  exact uniq_of (R := fun a b : Int => a < b) (fun a b h1 h2 => by omega) p hx hy

theorem range_up (n : Nat) : ((List.range n).map fun k : Nat => (k : Int)).Pairwise (· < ·) := by
  refine List.pairwise_map.mpr ?_
  exact List.Pairwise.imp (R := fun a b : Nat => a < b) (fun {a b} z => by omega) (List.pairwise_lt_range (n := n))

/-- the numbers below n of which t holds -/
def pick (n : Nat) (t : Int → Bool) : List Int := ((List.range n).map fun k : Nat => (k : Int)).filter t
theorem pick_zero (t : Int → Bool) : pick 0 t = [] := rfl
theorem pick_succ (n : Nat) (t : Int → Bool) : pick (n + 1) t = if t (n : Int) = true then pick n t ++ [(n : Int)] else pick n t := by
  unfold pick
  rw [List.range_succ, List.map_append, List.filter_append]
  by_cases h : t (n : Int) = true
  · rw [if_pos h]
    simp [h]
  · rw [if_neg h]
    simp [h]
theorem pick_length (n : Nat) (t : Int → Bool) : (pick n t).length ≤ n := by
  unfold pick
  refine Nat.le_trans (List.length_filter_le _ _) ?_
  simp

/-- the sources of a name, the followers of a name, off the ties -/
def sour (T : List (Int × Int)) (n : Int) : List Int := (T.filter fun p => decide (p.2 = n)).map (·.1)
def foll (T : List (Int × Int)) (n : Int) : List Int := (T.filter fun p => decide (p.1 = n)).map (·.2)

theorem sour_up {T : List (Int × Int)} (h : T.Pairwise lt2) (n : Int) : (sour T n).Pairwise (· < ·) := by
  unfold sour
  refine List.pairwise_map.mpr ?_
  have h1 := h.filter (fun p => decide (p.2 = n))
  refine List.Pairwise.imp_of_mem (R := lt2) ?_ h1
  intro a b ha hb z
  have e1 : a.2 = n := of_decide_eq_true (List.mem_filter.mp ha).2
  have e2 : b.2 = n := of_decide_eq_true (List.mem_filter.mp hb).2
  unfold lt2 at z
  omega
theorem foll_up {T : List (Int × Int)} (h : T.Pairwise lt2) (n : Int) : (foll T n).Pairwise (· < ·) := by
  unfold foll
  refine List.pairwise_map.mpr ?_
  have h1 := h.filter (fun p => decide (p.1 = n))
  refine List.Pairwise.imp_of_mem (R := lt2) ?_ h1
  intro a b ha hb z
  have e1 : a.1 = n := of_decide_eq_true (List.mem_filter.mp ha).2
  have e2 : b.1 = n := of_decide_eq_true (List.mem_filter.mp hb).2
  unfold lt2 at z
  omega
theorem mem_pick {n : Nat} {t : Int → Bool} {a : Int} : a ∈ pick n t ↔ (0 ≤ a ∧ a < n) ∧ t a = true := by
  unfold pick
  rw [List.mem_filter, List.mem_map]
  constructor
  · rintro ⟨⟨k, hk, rfl⟩, h⟩
    rw [List.mem_range] at hk
    exact ⟨by omega, h⟩
  · rintro ⟨⟨h0, h1⟩, h⟩
    exact ⟨⟨a.toNat, List.mem_range.mpr (by omega), by omega⟩, h⟩
theorem sour_eq {c : Int} {T : List (Int × Int)} (h : T.Pairwise lt2) (g : Good c T) {n : Int} (hn : 0 ≤ n) : pick n.toNat (fun u => decide ((u, n) ∈ T)) = sour T n := by
  refine rising_eq ((range_up _).filter _) (sour_up h n) fun a => ?_
  rw [mem_pick]
  unfold sour
  rw [List.mem_map]
  constructor
  · rintro ⟨_, h2⟩
    exact ⟨(a, n), List.mem_filter.mpr ⟨of_decide_eq_true h2, decide_eq_true rfl⟩, rfl⟩
  · rintro ⟨⟨x, y⟩, hp, rfl⟩
    obtain ⟨hm, he⟩ := List.mem_filter.mp hp
    have e : y = n := of_decide_eq_true he
    subst e
    have l := g.lt _ hm
    simp only at l
    exact ⟨⟨by omega, by show x < ((Int.toNat y : Nat) : Int); omega⟩, decide_eq_true hm⟩
theorem foll_eq {c : Int} {T : List (Int × Int)} (h : T.Pairwise lt2) (g : Good c T) (n : Int) : pick c.toNat (fun v => decide ((n, v) ∈ T)) = foll T n := by
  refine rising_eq ((range_up _).filter _) (foll_up h n) fun a => ?_
  rw [mem_pick]
  unfold foll
  rw [List.mem_map]
  constructor
  · rintro ⟨_, h2⟩
    exact ⟨(n, a), List.mem_filter.mpr ⟨of_decide_eq_true h2, decide_eq_true rfl⟩, rfl⟩
  · rintro ⟨⟨x, y⟩, hp, rfl⟩
    obtain ⟨hm, he⟩ := List.mem_filter.mp hp
    have e : x = n := of_decide_eq_true he
    subst e
    have l := g.lt _ hm
    simp only at l
    exact ⟨⟨by omega, by show y < ((Int.toNat c : Nat) : Int); omega⟩, decide_eq_true hm⟩

/-! ### a drawn order -/
theorem ins_perm {os : List Nat} {i : Nat} (h : os.Perm (List.range i)) (j : Nat) : (os.take j ++ [i] ++ os.drop j).Perm (List.range (i + 1)) := by
  rw [List.range_succ]
  have e1 : (os.take j ++ [i] ++ os.drop j).Perm (i :: os) := by
    have e : os.take j ++ [i] ++ os.drop j = os.take j ++ i :: os.drop j := by simp
    rw [e]
    refine List.perm_middle.trans ?_
    rw [List.take_append_drop]
  refine e1.trans ?_
  refine (List.Perm.cons i h).trans ?_
  exact (List.perm_append_singleton i (List.range i)).symm
theorem picks_perm {α : Type} (d : α) {ps : List α} {os : List Nat} (h : os.Perm (List.range ps.length)) : (os.map fun k => ps.getD k d).Perm ps := by
  refine (h.map _).trans ?_
  refine List.Perm.of_eq ?_
  refine List.ext_getElem? fun k => ?_
  rw [List.getElem?_map]
  by_cases hk : k < ps.length
  · rw [List.getElem?_range hk]
    simp [List.getD, List.getElem?_eq_getElem hk]
  · rw [List.getElem?_eq_none (by simpa using hk), List.getElem?_eq_none (by simpa using hk)]
    rfl

/-! ### the pairs that the law draws: those so far at v, u -/
structure Sofar (c v u : Int) (ps : List (Int × Int)) : Prop where
  lt : ∀ p ∈ ps, 0 ≤ p.1 ∧ p.1 < p.2 ∧ p.2 < c
  ahead : ∀ p ∈ ps, p.2 < v ∨ (p.2 = v ∧ p.1 < u)
  nd : ps.Nodup
theorem Sofar.nil {c v u : Int} : Sofar c v u [] := ⟨(fun _ h => nomatch h), (fun _ h => nomatch h), List.nodup_nil⟩
theorem Sofar.skip {c v u : Int} {ps : List (Int × Int)} (h : Sofar c v u ps) : Sofar c v (u + 1) ps :=
  ⟨h.lt, fun p hp => by have := h.ahead p hp; omega, h.nd⟩
theorem Sofar.add {c v u : Int} {ps : List (Int × Int)} (h : Sofar c v u ps) (h0 : 0 ≤ u) (h1 : u < v) (h2 : v < c) : Sofar c v (u + 1) (ps ++ [(u, v)]) := by
  refine ⟨fun p hp => ?_, fun p hp => ?_, ?_⟩
  · rcases List.mem_append.mp hp with hp | hp
    · exact h.lt p hp
    · rw [List.mem_singleton.mp hp]
      exact ⟨h0, h1, h2⟩
  · rcases List.mem_append.mp hp with hp | hp
    · have := h.ahead p hp; omega
    · rw [List.mem_singleton.mp hp]
      exact .inr ⟨rfl, by show u < u + 1; omega⟩
  · refine List.nodup_append.mpr ⟨h.nd, List.pairwise_singleton _ _, fun a ha b hb e => ?_⟩
    rw [List.mem_singleton.mp hb] at e
    subst e
    have := h.ahead _ ha
    simp only at this
    omega
theorem Sofar.next {c v u : Int} {ps : List (Int × Int)} (h : Sofar c v u ps) : Sofar c (v + 1) 0 ps :=
  ⟨h.lt, fun p hp => by have := h.ahead p hp; omega, h.nd⟩
theorem Sofar.good {c v u : Int} {ps : List (Int × Int)} (h : Sofar c v u ps) : Good c ps := ⟨h.lt, h.nd⟩
/-- the place of (u, v) among the pairs -/
theorem tri_step (v : Nat) : v * (v - 1) / 2 + v = (v + 1) * v / 2 := by
  cases v with
  | zero => rfl
  | succ n =>
    have e : (n + 1 + 1) * (n + 1) = (n + 1) * (n + 1 - 1) + 2 * (n + 1) := by
      show (n + 1 + 1) * (n + 1) = (n + 1) * n + 2 * (n + 1)
      rw [Nat.add_mul (n + 1) 1 (n + 1), Nat.mul_succ (n + 1) n]
      omega
    rw [e, Nat.add_mul_div_left _ _ (by decide : 0 < 2)]
end Dr

/-! The text by places; what stands in the heap; small readings. -/
namespace Dr
open PySem L2

/-! ### the text by places -/
def top (i : Nat) : Stmt := PySem.Challenge.pw_doingbook_k06_drawings_made.main.body.getD i (.Pass ⟨0, 0, 0, 0⟩)
abbrev sIsSet : Stmt := top 10
abbrev sLook : Stmt := top 11
abbrev sPairsOf : Stmt := top 12
abbrev sInit : Stmt := inClass (top 13) 0
abbrev sSour : Stmt := inClass (top 13) 1
abbrev sFoll : Stmt := inClass (top 13) 2
abbrev sShape : Stmt := inClass (top 13) 9
abbrev sCell : Stmt := top 15
abbrev sMixed : Stmt := top 16
abbrev sPairs : Stmt := top 17
abbrev sOrder : Stmt := top 18
abbrev sShuf : Stmt := top 19
abbrev sSame : Stmt := top 20
abbrev sRight : Stmt := top 21
abbrev sLaw : Stmt := top 22

/-- the built-ins' names are nobody's own -/
structure Nm (mg : Str → Option Value) : Prop where
  len : mg "len" = none
  range : mg "range" = none
  tuple : mg "tuple" = none
  list : mg "list" = none
  sorted : mg "sorted" = none
  isi : mg "isinstance" = none
  bool : mg "bool" = none
  int : mg "int" = none
/-- a def of the module as its callers have it -/
structure Callee (P : Program) (w : World) (K : PySem.W.Frag) (mg : Str → Option Value) (base : Heap) (x : Str) (k : Nat) (f : Addr) (fd : FuncData) (ps : List Str) (sp : Sp) : Prop where
  ok : FnOk P w K mg base CX0 k f fd ps sp
  m : mg x = some (.ref f)
  b : Binds K fd ps []
  kp : PySem.W.keepIn K (.ref f) = true

/-! ### heaps -/
theorem same_new {H : Hp} {p : Addr} (h : H p = none) (o : HO) : Same H (upd H p o) := fun b u q => by rw [upd_ne (ne_of_none q h)]; exact q
theorem same_list {H H0 : Hp} {p : Addr} {o : HO} (s : Same H H0) (h : H p = none) : Same H (upd H0 p o) := fun b u q => by rw [upd_ne (ne_of_none q h)]; exact s b u q
theorem sameT {K : PySem.W.Frag} {H H' : Hp} {a : Addr} {xs : List V} (e : Same H H') (h : SqT K H a xs) : SqT K H' a xs :=
  h.elim (fun r => .inl (r.elim (fun q => .inl (e _ _ q)) fun ⟨o, q⟩ => .inr ⟨o, e _ _ q⟩)) .inr

/-! ### pairs in the heap -/
abbrev RS := List (Addr × (Int × Int))
def refs (rs : RS) : List V := rs.map fun r => V.ref r.1
def prs (rs : RS) : List (Int × Int) := rs.map fun r => r.2
def tupO (p : Int × Int) : HO := .tup [.int p.1, .int p.2]
def lstO (p : Int × Int) : HO := .lst [.int p.1, .int p.2]
def AllT (H : Hp) (rs : RS) : Prop := ∀ r ∈ rs, H r.1 = some (tupO r.2)
def AllR (H : Hp) (rs : RS) : Prop := ∀ r ∈ rs, H r.1 = some (tupO r.2) ∨ H r.1 = some (lstO r.2)
theorem refs_length (rs : RS) : (refs rs).length = rs.length := List.length_map _
theorem prs_length (rs : RS) : (prs rs).length = rs.length := List.length_map _
theorem refs_at {rs : RS} {i : Nat} {x : V} (h : (refs rs)[i]? = some x) : ∃ r, rs[i]? = some r ∧ x = V.ref r.1 := by
  unfold refs at h
  rw [List.getElem?_map] at h
  cases e : rs[i]? with
  | none => rw [e] at h; cases h
  | some r => rw [e] at h; exact ⟨r, rfl, (Option.some.inj h).symm⟩
theorem refs_get {rs : RS} {i : Nat} {r : Addr × (Int × Int)} (h : rs[i]? = some r) : (refs rs)[i]? = some (V.ref r.1) := by
  unfold refs
  rw [List.getElem?_map, h]
  rfl
theorem AllT.same {H H' : Hp} {rs : RS} (h : AllT H rs) (s : Same H H') : AllT H' rs := fun r hr => s _ _ (h r hr)
theorem AllR.same {H H' : Hp} {rs : RS} (h : AllR H rs) (s : Same H H') : AllR H' rs := fun r hr => (h r hr).elim (fun q => .inl (s _ _ q)) fun q => .inr (s _ _ q)
theorem AllT.rows {H : Hp} {rs : RS} (h : AllT H rs) : AllR H rs := fun r hr => .inl (h r hr)
theorem AllT.nil {H : Hp} : AllT H [] := fun _ h => nomatch h
theorem AllT.snoc {H : Hp} {rs : RS} {r : Addr × (Int × Int)} (h : AllT H rs) (q : H r.1 = some (tupO r.2)) : AllT H (rs ++ [r]) := fun x hx => by
  rcases List.mem_append.mp hx with hx | hx
  · exact h x hx
  · rw [List.mem_singleton.mp hx]; exact q
theorem AllR.snoc {H : Hp} {rs : RS} {r : Addr × (Int × Int)} (h : AllR H rs) (q : H r.1 = some (tupO r.2) ∨ H r.1 = some (lstO r.2)) : AllR H (rs ++ [r]) := fun x hx => by
  rcases List.mem_append.mp hx with hx | hx
  · exact h x hx
  · rw [List.mem_singleton.mp hx]; exact q
theorem refs_snoc (rs : RS) (r : Addr × (Int × Int)) : refs (rs ++ [r]) = refs rs ++ [V.ref r.1] := by unfold refs; rw [List.map_append]; rfl
theorem prs_snoc (rs : RS) (r : Addr × (Int × Int)) : prs (rs ++ [r]) = prs rs ++ [r.2] := by unfold prs; rw [List.map_append]; rfl

/-- a list (l) of tuples that are the pairs ps -/
def PairsAt (H : Hp) (l : Addr) (ps : List (Int × Int)) : Prop := ∃ rs : RS, H l = some (.lst (refs rs)) ∧ AllT H rs ∧ prs rs = ps
/-- .. of tuples or lists -/
def RowsAt (H : Hp) (l : Addr) (ps : List (Int × Int)) : Prop := ∃ rs : RS, H l = some (.lst (refs rs)) ∧ AllR H rs ∧ prs rs = ps
/-- a tuple of tuples -/
def TupsAt (H : Hp) (t : Addr) (ps : List (Int × Int)) : Prop := ∃ rs : RS, H t = some (.tup (refs rs)) ∧ AllT H rs ∧ prs rs = ps
theorem PairsAt.same {H H' : Hp} {l : Addr} {ps : List (Int × Int)} (h : PairsAt H l ps) (s : Same H H') : PairsAt H' l ps := by
  obtain ⟨rs, h1, h2, h3⟩ := h
  exact ⟨rs, s _ _ h1, h2.same s, h3⟩
theorem RowsAt.same {H H' : Hp} {l : Addr} {ps : List (Int × Int)} (h : RowsAt H l ps) (s : Same H H') : RowsAt H' l ps := by
  obtain ⟨rs, h1, h2, h3⟩ := h
  exact ⟨rs, s _ _ h1, h2.same s, h3⟩
theorem TupsAt.same {H H' : Hp} {l : Addr} {ps : List (Int × Int)} (h : TupsAt H l ps) (s : Same H H') : TupsAt H' l ps := by
  obtain ⟨rs, h1, h2, h3⟩ := h
  exact ⟨rs, s _ _ h1, h2.same s, h3⟩
theorem PairsAt.rows {H : Hp} {l : Addr} {ps : List (Int × Int)} (h : PairsAt H l ps) : RowsAt H l ps := by
  obtain ⟨rs, h1, h2, h3⟩ := h
  exact ⟨rs, h1, h2.rows, h3⟩

/-! ### sorted, of such a list -/
def adr : V → Addr
  | .ref a => a
  | _ => 0
def keyO : Option HO → Int × Int
  | some (.tup [.int i, .int j]) => (i, j)
  | _ => (0, 0)
def keyOf (H : Hp) (v : V) : Int × Int := keyO (H (adr v))
theorem keyOf_at {H : Hp} {a : Addr} {p : Int × Int} (h : H a = some (tupO p)) : keyOf H (.ref a) = p := by
  show keyO (H a) = p
  rw [h]
  rfl
theorem sorted_read {K : PySem.W.Frag} {H : Hp} {a : Addr} {rs : RS} {Q : VK} (hl : SqL K H a (refs rs)) (ht : AllT H rs)
    (q : ∀ (rs' : RS) (p : Addr), AllT H rs' → Srt (prs rs) (prs rs') → rs'.length = rs.length → H p = none → Q (.ref p) (upd H p (.lst (refs rs')))) : rSortedPO K [.ref a] H Q := by
  refine ⟨a, refs rs, keyOf H, rfl, hl, fun x hx => ?_, fun ys p h1 h2 hp => ?_⟩
  · obtain ⟨r, hr, rfl⟩ := List.mem_map.mp hx
    refine ⟨r.1, rfl, ?_⟩
    rw [keyOf_at (ht r hr)]
    exact ht r hr
  · have pm : ys.Perm (refs rs) := h2.perm
    have e0 : (refs rs).map (fun v => (adr v, keyOf H v)) = rs := by
      unfold refs
      rw [List.map_map]
      refine (List.map_congr_left fun r hr => ?_).trans (List.map_id rs)
      show (r.1, keyOf H (.ref r.1)) = r
      rw [keyOf_at (ht r hr)]
    have pm' : (ys.map fun v => (adr v, keyOf H v)).Perm rs := by
      have z := pm.map (fun v => (adr v, keyOf H v))
      rw [e0] at z
      exact z
    have ey : refs (ys.map fun v => (adr v, keyOf H v)) = ys := by
      unfold refs
      rw [List.map_map]
      refine (List.map_congr_left fun v hv => ?_).trans (List.map_id ys)
      obtain ⟨r, _, rfl⟩ := List.mem_map.mp (pm.mem_iff.mp hv)
      rfl
    have ep : prs (ys.map fun v => (adr v, keyOf H v)) = ys.map (keyOf H) := by
      unfold prs
      rw [List.map_map]
      rfl
    have qq := q (ys.map fun v => (adr v, keyOf H v)) p (fun r hr => ht r (pm'.mem_iff.mp hr)) ⟨pm'.map _, ?_⟩ pm'.length_eq hp
    · rw [ey] at qq
      exact qq
    · rw [ep]
      refine List.pairwise_map.mpr (h1.imp fun {x y} z => ?_)
      have z' := SrtO.lexB_no.mp z
      unfold le2
      omega

/-! ### data -/
def pairD (p : Int × Int) : PyData := .tuple [.int p.1, .int p.2]
def tupsD (ps : List (Int × Int)) : PyData := .tuple (ps.map pairD)
theorem dp_pair {K : PySem.W.Frag} {H : Hp} {a : Addr} {p : Int × Int} (h : H a = some (tupO p)) : Dp K H (.ref a) (pairD p) := .tup (SqT.of h) (.cons (.int _) (.cons (.int _) .nil))
theorem dp_pairs {K : PySem.W.Frag} {H : Hp} : ∀ {rs : RS}, AllT H rs → DpAll K H (refs rs) ((prs rs).map pairD)
  | [], _ => .nil
  | r :: rs, h => .cons (dp_pair (h r List.mem_cons_self)) (dp_pairs fun x hx => h x (List.mem_cons_of_mem _ hx))
theorem dp_tups {K : PySem.W.Frag} {H : Hp} {t : Addr} {ps : List (Int × Int)} (h : TupsAt H t ps) : Dp K H (.ref t) (tupsD ps) := by
  obtain ⟨rs, h1, h2, rfl⟩ := h
  exact .tup (SqT.of h1) (dp_pairs h2)
theorem dp_ints {K : PySem.W.Frag} {H : Hp} : ∀ ns : List Int, DpAll K H (ns.map V.int) (ns.map PyData.int)
  | [] => .nil
  | n :: ns => .cons (.int n) (dp_ints ns)
mutual
theorem dp_same {K : PySem.W.Frag} {H H' : Hp} (e : Same H H') : ∀ (d : PyData) (v : V), Dp K H v d → Dp K H' v d
  | .none, _, h => by cases h; exact .non
  | .bool b, _, h => by cases h; exact .bl b
  | .int i, _, h => by cases h; exact .int i
  | .str x, _, h => by cases h; exact .str x
  | .list ds, _, h => by
    cases h with
    | lst hs ha => exact .lst (e.seq hs) (dps_same e ds _ ha)
  | .tuple ds, _, h => by
    cases h with
    | tup hs ha => exact .tup (sameT e hs) (dps_same e ds _ ha)
  | .dict _, _, h => by cases h
theorem dps_same {K : PySem.W.Frag} {H H' : Hp} (e : Same H H') : ∀ (ds : List PyData) (vs : List V), DpAll K H vs ds → DpAll K H' vs ds
  | [], _, h => by cases h; exact .nil
  | d :: ds, _, h => by
    cases h with
    | cons h1 h2 => exact .cons (dp_same e d _ h1) (dps_same e ds _ h2)
end
theorem dps_len {K : PySem.W.Frag} {H : Hp} : ∀ {ds : List PyData} {vs : List V}, DpAll K H vs ds → vs.length = ds.length
  | [], _, h => by cases h; rfl
  | d :: ds, _, h => by
    cases h with
    | cons h1 h2 => rw [List.length_cons, List.length_cons, dps_len h2]
theorem dps_at {K : PySem.W.Frag} {H : Hp} : ∀ {ds : List PyData} {vs : List V} {i : Nat} {d : PyData}, DpAll K H vs ds → ds[i]? = some d → ∃ v, vs[i]? = some v ∧ Dp K H v d
  | [], _, i, d, h, e => by simp at e
  | d0 :: ds, _, i, d, h, e => by
    cases h with
    | cons h1 h2 =>
      cases i with
      | zero =>
        have e' : d0 = d := Option.some.inj e
        subst e'
        exact ⟨_, rfl, h1⟩
      | succ i =>
        obtain ⟨v, e2, h3⟩ := dps_at (i := i) h2 (by simpa using e)
        exact ⟨v, by simpa using e2, h3⟩
/-- ints, lists and tuples, at most n deep, none longer than 100 -/
def okD : Nat → PyData → Prop
  | _, .int _ => True
  | n + 1, .list ds => ds.length ≤ 100 ∧ ∀ d ∈ ds, okD n d
  | n + 1, .tuple ds => ds.length ≤ 100 ∧ ∀ d ∈ ds, okD n d
  | _, _ => False
theorem ok_pair (n : Nat) (p : Int × Int) : okD (n + 1) (pairD p) := by
  refine ⟨by show 2 ≤ 100; decide, fun d hd => ?_⟩
  have h : d = .int p.1 ∨ d = .int p.2 := by simpa using hd
  rcases h with rfl | rfl
  · cases n <;> exact True.intro
  · cases n <;> exact True.intro
theorem ok_tups (n : Nat) {ps : List (Int × Int)} (h : ps.length ≤ 100) : okD (n + 2) (tupsD ps) := by
  refine ⟨by rw [List.length_map]; exact h, fun d hd => ?_⟩
  obtain ⟨p, _, rfl⟩ := List.mem_map.mp hd
  exact ok_pair n p

/-! ### isinstance against a built-in class -/
theorem isi_read {K : PySem.W.Frag} {H : Hp} {x : V} {t T : String} {b : Bool} {Q : VK} (ty : TyX K H x (.type t)) (h : kitB t T = some b) (q : Q (.bl b) H) : rIsi K [x, .ty T] H Q := ⟨x, .ty T, _, _, b, rfl, .ty _, ty, kit_ty h, q⟩
theorem ty_l {K : PySem.W.Frag} {H : Hp} {a : Addr} {xs : List V} (h : SqL K H a xs) : TyX K H (.ref a) (.type "list") := by
  rcases h with (h | ⟨o, h⟩) | ⟨o, its, n, h1, h2, _⟩
  · exact .base (.lst h)
  · exact .base (.frz h)
  · exact .kList h1 h2
theorem ty_t {K : PySem.W.Frag} {H : Hp} {a : Addr} {xs : List V} (h : SqT K H a xs) : TyX K H (.ref a) (.type "tuple") := by
  rcases h with (h | ⟨o, h⟩) | ⟨o, its, n, h1, h2, _⟩
  · exact .base (.tup h)
  · exact .fTuple h
  · exact .kTuple h1 h2
theorem tt_tt : kitB "tuple" "tuple" = some true := by decide +kernel
theorem tt_ll : kitB "list" "list" = some true := by decide +kernel
theorem tt_tl : kitB "tuple" "list" = some false := by decide +kernel
theorem tt_lt : kitB "list" "tuple" = some false := by decide +kernel
theorem tt_it : kitB "int" "tuple" = some false := by decide +kernel
theorem tt_il : kitB "int" "list" = some false := by decide +kernel
theorem tt_ib : kitB "int" "bool" = some false := by decide +kernel
theorem tt_ii : kitB "int" "int" = some true := by decide +kernel

/-! ### a pair in a tuple of pairs -/
section
variable {X : Cx}
def rInT (K : PySem.W.Frag) : R2 := fun x y H Q => ∃ d ds, Dp K H x d ∧ Dp K H y (.tuple ds) ∧ SeqAt.shaped d = true ∧ SeqAt.shaped (.tuple ds) = true ∧ Q (.bl (ds.any fun z => PyData.eqv z d)) H
theorem op_inT (hu : X.A.units + 65 < cLine) : OpR X (compareOp .In) (rInT X.K) := by
  rintro pins s σ H x y v u Q I rx ry ⟨d, ds, dx, dy, sx, sy, q⟩
  have lx := SeqAt.canLay_of_shaped sx; have ly := SeqAt.canLay_of_shaped sy
  obtain ⟨_, ax⟩ := Dp.reads I _ _ _ dx rx; obtain ⟨_, ay⟩ := Dp.reads I _ _ _ dy ry
  refine SeqAt.in_tuple_reads ay ax ly lx (PyProof.Rows.room_in_shaped sx hu) ?_
  exact ⟨.bl _, H, I, rfl, q⟩
end
theorem pair_lay (p : Int × Int) : (pairD p).canLay0 = true := by simp [pairD, PyData.canLay0, PyData.canLayAll0]
theorem pair_depth (p : Int × Int) : (pairD p).depth = 1 := by simp [pairD, PyData.depth, PyData.depthAll]
theorem pairs_lay (ps : List (Int × Int)) : PyData.canLayAll0 (ps.map pairD) = true := by
  induction ps with
  | nil => rfl
  | cons p ps ih => rw [List.map_cons]; simp [PyData.canLayAll0, pair_lay p, ih]
theorem pairs_depth (ps : List (Int × Int)) : PyData.depthAll (ps.map pairD) ≤ 1 := by
  induction ps with
  | nil => exact Nat.zero_le _
  | cons p ps ih =>
    have z := pair_depth p
    rw [List.map_cons]; simp only [PyData.depthAll]; omega
theorem pair_shaped (p : Int × Int) : SeqAt.shaped (pairD p) = true := by
  have h := pair_depth p
  show ((pairD p).canLay0 && decide ((pairD p).depth ≤ 64)) = true
  rw [Bool.and_eq_true]
  exact ⟨pair_lay p, decide_eq_true (by omega)⟩
theorem tups_shaped (ps : List (Int × Int)) : SeqAt.shaped (tupsD ps) = true := by
  have h1 := pairs_depth ps
  have h2 : PyData.depth (tupsD ps) ≤ 64 := by
    simp only [tupsD, PyData.depth]
    omega
  show (PyData.canLay0 (tupsD ps) && decide (PyData.depth (tupsD ps) ≤ 64)) = true
  rw [Bool.and_eq_true]
  exact ⟨by simp only [tupsD, PyData.canLay0]; exact pairs_lay ps, decide_eq_true h2⟩
theorem lsts_shaped (ps : List (Int × Int)) : SeqAt.shaped (.list (ps.map pairD)) = true := by
  have h1 := pairs_depth ps
  have h2 : PyData.depth (.list (ps.map pairD)) ≤ 64 := by
    simp only [PyData.depth]
    omega
  show (PyData.canLay0 (.list (ps.map pairD)) && decide (PyData.depth (.list (ps.map pairD)) ≤ 64)) = true
  rw [Bool.and_eq_true]
  exact ⟨by simp only [PyData.canLay0]; exact pairs_lay ps, decide_eq_true h2⟩
theorem pair_eqv (p q : Int × Int) : PyData.eqv (pairD p) (pairD q) = decide (p = q) := by
  obtain ⟨a, b⟩ := p
  obtain ⟨c, d⟩ := q
  have e : PyData.eqv (pairD (a, b)) (pairD (c, d)) = ((a == c) && ((b == d) && true)) := by simp only [pairD, PyData.eqv, PyData.eqvAll]
  rw [e, Bool.eq_iff_iff]
  simp
theorem any_pair (ps : List (Int × Int)) (p : Int × Int) : (ps.map pairD).any (fun z => PyData.eqv z (pairD p)) = decide (p ∈ ps) := by
  rw [Bool.eq_iff_iff, List.any_eq_true, decide_eq_true_iff]
  constructor
  · rintro ⟨z, hz, e⟩
    obtain ⟨q, hq, rfl⟩ := List.mem_map.mp hz
    rw [pair_eqv] at e
    have e' : q = p := of_decide_eq_true e
    rw [← e']
    exact hq
  · intro h
    exact ⟨pairD p, List.mem_map_of_mem h, by rw [pair_eqv]; exact decide_eq_true rfl⟩
theorem small {n : Nat} (h : n ≤ 1000) : n ≤ sizeLine := Nat.le_of_lt (small1000 h)
theorem intT {i j : Int} (h : i = j) : decide (V.int i = V.int j) = true := by rw [h]; exact decide_eq_true rfl
theorem intF {i j : Int} (h : ¬ i = j) : decide (V.int i = V.int j) = false := decide_eq_false fun q => h (V.int.inj q)
end Dr

/-! The law's small helpers: a cell, the drawn numbers, a drawn order. -/
namespace Dr
open PySem L2

def spCell (K : PySem.W.Frag) : Sp := fun vs H Q _ => ∃ (a : Addr) (ns : List Int) (k : Nat), vs = [.ref a, .int (k : Int)] ∧ SqL K H a (ns.map V.int) ∧ ∀ z, Q (.int z) H
def spMixed : Sp := fun vs H Q _ => ∃ (z : Int) (n : Nat), vs = [.int z, .int (n : Int)] ∧ n ≤ 100 ∧
  ∀ (p : Addr) (xs : List Int) (H' : Hp), Same H H' → H' p = some (.lst (xs.map V.int)) → xs.length = n → Q (.ref p) H'
def spOrder : Sp := fun vs H Q _ => ∃ (z : Int) (n : Nat), vs = [.int z, .int (n : Int)] ∧ n ≤ 100 ∧
  ∀ (p : Addr) (os : List Nat) (H' : Hp), Same H H' → H p = none → H' p = some (.lst (os.map fun k : Nat => V.int (k : Int))) → os.Perm (List.range n) → Q (.ref p) H'

section
variable {P : Program} {w : World} {K : PySem.W.Frag} {mg : Str → Option Value} {base : Heap}
theorem scCell : FnScope ["_law_script", "_law_k"] ["_law_script", "_law_k"] (defScope sCell) := ⟨rfl, rfl, rfl, by decide +kernel, rfl, by decide +kernel, by decide +kernel⟩
theorem ok_cell {f : Addr} {fd : FuncData} (F : Fun K "_law_cell_at" "_law_cell_at" sCell f fd) (N : Nm mg) : FnOk P w K mg base CX0 1 f fd ["_law_script", "_law_k"] (spCell K) := by
  refine F.ok scCell (fun vs H Q E h => ?_) (fun cdv A outer s H vs Q E hr h => ?_)
  · obtain ⟨a, ns, k, rfl, _⟩ := h
    rfl
  obtain ⟨a, ns, k, rfl, hS, q⟩ := h
  refine ⟨_, pss_cons (ps_if (pt_cmpR op_lt (pv 1) (pe_callB call_len_seq rfl N.len PySem.boot_len (pa_cons (pv 0) pa_nil)) (nomark _)) (pss_one (ps_ret (pe_ix ix_list (pv 0) (pv 1) (fun _ _ => rfl)))) pss_nil)
    (pss_one (ps_ret pe_int)), ?_⟩
  refine ⟨_, rfl, _, rfl, a, _, rfl, .inl hS, _, _, rfl, rfl, _, rfl, ?_⟩
  refine ite2 (fun c => ?_) (fun c => ?_)
  · have c' : (k : Int) < (((ns.map V.int).length : Nat) : Int) := of_decide_eq_true c
    rw [List.length_map] at c'
    have hk : k < ns.length := by omega
    refine ⟨_, rfl, _, rfl, a, _, _, .int ns[k], rfl, rfl, hS, atI_nat ?_, q _⟩
    rw [List.getElem?_map, List.getElem?_eq_getElem hk]
    rfl
  · exact q _

theorem scMixed : FnScope ["_law_cell", "_law_many", "_law_found", "_law_number", "_law_k"] ["_law_cell", "_law_many"] (defScope sMixed) := ⟨rfl, rfl, rfl, by decide +kernel, rfl, by decide +kernel, by decide +kernel⟩
theorem ok_mixed {f : Addr} {fd : FuncData} (F : Fun K "_law_mixed" "_law_mixed" sMixed f fd) (N : Nm mg) : FnOk P w K mg base CX0 1 f fd ["_law_cell", "_law_many"] spMixed := by
  refine F.ok scMixed (fun vs H Q E h => ?_) (fun cdv A outer s H vs Q E hr h => ?_)
  · obtain ⟨z, n, rfl, _⟩ := h
    rfl
  obtain ⟨z, n, rfl, hn, q⟩ := h
  refine ⟨_, pss_cons (ps_set (i := 2) scMixed.nd rfl (.inl rfl) (pe_lst pa_nil))
    (pss_cons (ps_set (i := 3) scMixed.nd rfl (.inl rfl) (pe_op op_fdiv (pv 0) pe_int))
    (pss_cons (ps_if (pt_cmpR op_eq (pe_op op_mod (pv 0) pe_int) pe_int (nomark _))
      (pss_cons (ps_for PassesOwn.never rfl (pi_range1 rfl N.range (pa_cons (pv 1) pa_nil)) (pg_name (i := 4) scMixed.nd rfl (.inl rfl))
        (pss_cons (ps_expr (pe_bm PySem.F.plainAttrs_list PySem.F.slot_list_append PySem.F.type_list_append mt_append (pv 2) (pa_cons (pe_op op_mod (pv 3) pe_int) pa_nil)))
        (pss_one (ps_set (i := 3) scMixed.nd rfl (.inl rfl) (pe_op op_fdiv (pv 3) pe_int)))))
      (pss_one (ps_ret (pv 2)))) pss_nil)
    (pss_cons (ps_set (i := 3) scMixed.nd rfl (.inl rfl) (pe_op op_mod (pe_op op_add (pe_op op_mul (pe_op op_mod (pv 3) pe_int) pe_int) pe_int) pe_int))
    (pss_cons (ps_for PassesOwn.never rfl (pi_range1 rfl N.range (pa_cons (pv 1) pa_nil)) (pg_name (i := 4) scMixed.nd rfl (.inl rfl))
        (pss_cons (ps_set (i := 3) scMixed.nd rfl (.inl rfl) (pe_op op_mod (pe_op op_add (pe_op op_add (pe_op op_add (pe_op op_mul (pv 3) (pv 3)) (pe_op op_mul pe_int (pv 3))) (pv 4)) pe_int) pe_int))
        (pss_one (ps_expr (pe_bm PySem.F.plainAttrs_list PySem.F.slot_list_append PySem.F.type_list_append mt_append (pv 2) (pa_cons (pv 3) pa_nil))))))
    (pss_one (ps_ret (pv 2))))))), ?_⟩
  refine ⟨(by show 0 ≤ sizeLine; decide), fun p hp => ?_⟩
  have s0 : Same H (upd H p (.lst [])) := same_new hp _
  refine ⟨_, rfl, _, _, rfl, rfl, ⟨by decide, by decide⟩, ?_⟩
  refine ⟨_, rfl, _, _, rfl, rfl, (by show (0 : Int) < 2; decide), rfl, _, rfl, ?_⟩
  refine ite2 (fun c => ?_) (fun c => ?_)
  · -- the first loop
    refine ⟨_, rfl, (n : Int), rfl, by omega, by omega, ?_⟩
    refine for_range (lo := 0) (n := (n : Int).toNat) (fun i σ H' => ∃ (xs : List Int) (m : Int) (v : Option V), σ = [some (.int z), some (.int (n : Int)), some (.ref p), some (.int m), v] ∧ Same H H' ∧ H' p = some (.lst (xs.map V.int)) ∧ xs.length = i)
      ⟨[], _, _, rfl, s0, upd_same, rfl⟩ ?_ ?_
    · rintro i σ H' hi ⟨xs, m, v, rfl, s1, h1, hl⟩
      have hz : (xs.map V.int).length < sizeLine := by rw [List.length_map]; exact small1000 (by omega)
      refine ⟨_, rfl, .inl ⟨rfl, _, SqL.of h1⟩, _, rfl, _, _, rfl, rfl, (by show (0 : Int) < 5040; decide), p, _, _, rfl, rfl, h1, hz, ?_⟩
      refine ⟨_, rfl, _, _, rfl, rfl, ⟨by decide, by decide⟩, ?_⟩
      refine ⟨xs ++ [m % 5040], _, _, rfl, fun b o e => ?_, ?_, by rw [List.length_append, hl]; rfl⟩
      · rw [upd_ne (ne_of_none e hp)]
        exact s1 b o e
      · rw [upd_same, List.map_append]
        rfl
    · rintro σ H' ⟨xs, m, v, rfl, s1, h1, hl⟩
      exact ⟨_, rfl, q p xs H' s1 h1 (by omega)⟩
  · refine ⟨_, rfl, _, _, rfl, rfl, (by show (0 : Int) < 2147483647; decide), _, _, rfl, rfl, ?_, _, _, rfl, rfl, _, _, rfl, rfl, (by show (0 : Int) < 2147483647; decide), ?_⟩
    · exact .inr ⟨by decide, by decide⟩
    refine ⟨_, rfl, (n : Int), rfl, by omega, by omega, ?_⟩
    refine for_range (lo := 0) (n := (n : Int).toNat) (fun i σ H' => ∃ (xs : List Int) (m : Int) (v : Option V), σ = [some (.int z), some (.int (n : Int)), some (.ref p), some (.int m), v] ∧ (0 ≤ m ∧ m < 2147483647) ∧ Same H H' ∧ H' p = some (.lst (xs.map V.int)) ∧ xs.length = i)
      ⟨[], _, _, rfl, ⟨Int.emod_nonneg _ (by decide), Int.emod_lt_of_pos _ (by decide)⟩, s0, upd_same, rfl⟩ ?_ ?_
    · rintro i σ H' hi ⟨xs, m, v, rfl, ⟨m0, m1⟩, s1, h1, hl⟩
      have hz : (xs.map V.int).length < sizeLine := by rw [List.length_map]; exact small1000 (by omega)
      refine ⟨_, rfl, _, rfl, _, _, rfl, rfl, .inl ⟨by omega, by omega⟩, _, rfl, _, _, rfl, rfl, .inl ⟨by decide, by decide⟩, _, _, rfl, rfl, _, rfl, _, _, rfl, rfl, _, _, rfl, rfl, _, _, rfl, rfl, (by show (0 : Int) < 2147483647; decide), ?_⟩
      refine ⟨_, rfl, .inl ⟨rfl, _, SqL.of h1⟩, _, rfl, p, _, _, rfl, rfl, h1, hz, ?_⟩
      refine ⟨xs ++ [(m * m + 48271 * m + (0 + (i : Int)) + 1) % 2147483647], _, _, rfl, ⟨Int.emod_nonneg _ (by decide), Int.emod_lt_of_pos _ (by decide)⟩, fun b o e => ?_, ?_, by rw [List.length_append, hl]; rfl⟩
      · rw [upd_ne (ne_of_none e hp)]
        exact s1 b o e
      · rw [upd_same, List.map_append]
        rfl
    · rintro σ H' ⟨xs, m, v, rfl, _, s1, h1, hl⟩
      exact ⟨_, rfl, q p xs H' s1 h1 (by omega)⟩

theorem scOrder : FnScope ["_law_number", "_law_many", "_law_found", "_law_k"] ["_law_number", "_law_many"] (defScope sOrder) := ⟨rfl, rfl, rfl, by decide +kernel, rfl, by decide +kernel, by decide +kernel⟩
theorem ok_order {f : Addr} {fd : FuncData} (F : Fun K "_law_order" "_law_order" sOrder f fd) (N : Nm mg) : FnOk P w K mg base CX0 1 f fd ["_law_number", "_law_many"] spOrder := by
  refine F.ok scOrder (fun vs H Q E h => ?_) (fun cdv A outer s H vs Q E hr h => ?_)
  · obtain ⟨z, n, rfl, _⟩ := h
    rfl
  obtain ⟨z, n, rfl, hn, q⟩ := h
  refine ⟨_, pss_cons (ps_set (i := 2) scOrder.nd rfl (.inl rfl) (pe_lst pa_nil))
    (pss_cons (ps_for PassesOwn.never rfl (pi_range1 rfl N.range (pa_cons (pv 1) pa_nil)) (pg_name (i := 3) scOrder.nd rfl (.inl rfl))
      (pss_cons (ps_expr (pe_bm PySem.F.plainAttrs_list PySem.F.slot_list_insert PySem.F.type_list_insert mt_insert (pv 2) (pa_cons (pe_op op_mod (pv 0) (pe_op op_add (pv 3) pe_int)) (pa_cons (pv 3) pa_nil))))
      (pss_one (ps_set (i := 0) scOrder.nd rfl (.inl rfl) (pe_op op_fdiv (pv 0) (pe_op op_add (pv 3) pe_int))))))
    (pss_one (ps_ret (pv 2)))), ?_⟩
  refine ⟨(by show 0 ≤ sizeLine; decide), fun p hp => ?_⟩
  refine ⟨_, rfl, (n : Int), rfl, by omega, by omega, ?_⟩
  refine for_range (lo := 0) (n := (n : Int).toNat) (fun i σ H' => ∃ (os : List Nat) (m : Int) (v : Option V), σ = [some (.int m), some (.int (n : Int)), some (.ref p), v] ∧ Same H H' ∧ H' p = some (.lst (os.map fun k : Nat => V.int (k : Int))) ∧ os.Perm (List.range i))
    ⟨[], _, _, rfl, same_new hp _, upd_same, List.Perm.refl _⟩ ?_ ?_
  · rintro i σ H' hi ⟨os, m, v, rfl, s1, h1, pm⟩
    have hl : os.length = i := by rw [pm.length_eq, List.length_range]
    have hz : (os.map fun k : Nat => V.int (k : Int)).length < sizeLine := by rw [List.length_map]; exact small1000 (by omega)
    have hpos : (0 : Int) < 0 + (i : Int) + 1 := by omega
    have hlt := Int.emod_lt_of_pos m hpos
    have hge := Int.emod_nonneg m (show (0 : Int) + (i : Int) + 1 ≠ 0 by omega)
    refine ⟨_, rfl, .inl ⟨rfl, _, SqL.of h1⟩, _, rfl, _, rfl, _, _, rfl, rfl, _, _, rfl, rfl, hpos, _, rfl, p, _, _, _, rfl, rfl, h1, hz, hge, by omega, ?_⟩
    refine ⟨_, rfl, _, rfl, _, _, rfl, rfl, _, _, rfl, rfl, ⟨hpos, by omega⟩, ?_⟩
    refine ⟨os.take (m % (0 + (i : Int) + 1)).toNat ++ [i] ++ os.drop (m % (0 + (i : Int) + 1)).toNat, _, _, rfl, fun b o e => ?_, ?_, ins_perm pm _⟩
    · rw [upd_ne (ne_of_none e hp)]
      exact s1 b o e
    · rw [upd_same, List.map_append, List.map_append, List.map_take, List.map_drop, Int.zero_add]
      rfl
  · rintro σ H' ⟨os, m, v, rfl, s1, h1, pm⟩
    have e : (n : Int).toNat = n := by omega
    rw [e] at pm
    exact ⟨_, rfl, q p os H' s1 hp h1 pm⟩
end
end Dr

/-! The drawn pairs. -/
namespace Dr
open PySem L2

def spPairs (K : PySem.W.Frag) : Sp := fun vs H Q _ => ∃ (a : Addr) (ns : List Int), vs = [.ref a, .int 0] ∧ SqL K H a (ns.map V.int) ∧
  ∀ (t l1 l2 : Addr) (c : Int) (T B : List (Int × Int)) (H' : Hp), Same H H' → H' t = some (.tup [.int c, .ref l1, .ref l2]) → 1 ≤ c ∧ c ≤ 6 → PairsAt H' l1 T → PairsAt H' l2 B → Good c T → Good c B → T.length ≤ 15 → B.length ≤ 6 → Q (.ref t) H'

def tri : Nat → Nat
  | 0 => 0
  | n + 1 => tri n + n
theorem tri_lt {i j : Nat} (h : i < 6) (hj : j < i) : tri i + j < 15 := by
  have e0 : tri 0 = 0 := rfl
  have e1 : tri 1 = 0 := rfl
  have e2 : tri 2 = 1 := rfl
  have e3 : tri 3 = 3 := rfl
  have e4 : tri 4 = 6 := rfl
  have e5 : tri 5 = 10 := rfl
  have hi : i = 0 ∨ i = 1 ∨ i = 2 ∨ i = 3 ∨ i = 4 ∨ i = 5 := by omega
  rcases hi with rfl | rfl | rfl | rfl | rfl | rfl <;> omega
theorem tri_le {i : Nat} (h : i ≤ 6) : tri i ≤ 15 := by
  have e0 : tri 0 = 0 := rfl
  have e1 : tri 1 = 0 := rfl
  have e2 : tri 2 = 1 := rfl
  have e3 : tri 3 = 3 := rfl
  have e4 : tri 4 = 6 := rfl
  have e5 : tri 5 = 10 := rfl
  have e6 : tri 6 = 15 := rfl
  have hi : i = 0 ∨ i = 1 ∨ i = 2 ∨ i = 3 ∨ i = 4 ∨ i = 5 ∨ i = 6 := by omega
  rcases hi with rfl | rfl | rfl | rfl | rfl | rfl | rfl <;> omega

theorem AllT.upd {H : Hp} {l : Addr} {o : HO} {xs : List V} {rs : RS} (h : AllT H rs) (hl : H l = some (.lst xs)) : AllT (upd H l o) rs := fun r hr => by
  rw [upd_ne (ne_of (h r hr) hl (fun z => by unfold tupO at z; cases z))]
  exact h r hr
/-- the list at l so far -/
def LI (H : Hp) (l : Addr) (c v u : Int) (m : Nat) : Prop := ∃ rs : RS, H l = some (.lst (refs rs)) ∧ AllT H rs ∧ Sofar c v u (prs rs) ∧ rs.length ≤ m
theorem LI.same {H H' : Hp} {l : Addr} {c v u : Int} {m : Nat} (h : LI H l c v u m) (s : Same H H') : LI H' l c v u m := by
  obtain ⟨rs, h1, h2, h3, h4⟩ := h
  exact ⟨rs, s _ _ h1, h2.same s, h3, h4⟩
theorem LI.skip {H : Hp} {l : Addr} {c v u : Int} {m : Nat} (h : LI H l c v u m) : LI H l c v (u + 1) m := by
  obtain ⟨rs, h1, h2, h3, h4⟩ := h
  exact ⟨rs, h1, h2, h3.skip, h4⟩
theorem LI.up {H : Hp} {l : Addr} {c v u : Int} {m n : Nat} (h : LI H l c v u m) (e : m ≤ n) : LI H l c v u n := by
  obtain ⟨rs, h1, h2, h3, h4⟩ := h
  exact ⟨rs, h1, h2, h3, Nat.le_trans h4 e⟩
theorem LI.next {H : Hp} {l : Addr} {c v u : Int} {m : Nat} (h : LI H l c v u m) : LI H l c (v + 1) 0 m := by
  obtain ⟨rs, h1, h2, h3, h4⟩ := h
  exact ⟨rs, h1, h2, h3.next, h4⟩
theorem LI.other {H : Hp} {l l2 : Addr} {c v u : Int} {m : Nat} {o : HO} {xs : List V} (h : LI H l c v u m) (hl : H l2 = some (.lst xs)) (ne : l ≠ l2) : LI (upd H l2 o) l c v u m := by
  obtain ⟨rs, h1, h2, h3, h4⟩ := h
  exact ⟨rs, by rw [upd_ne ne]; exact h1, h2.upd hl, h3, h4⟩
theorem LI.add {H : Hp} {l t : Addr} {c v u : Int} {rs : RS} {m : Nat} (h1 : H l = some (.lst (refs rs))) (h2 : AllT H rs) (h3 : Sofar c v u (prs rs)) (h4 : rs.length ≤ m) (ht : H t = some (tupO (u, v))) (a0 : 0 ≤ u) (a1 : u < v) (a2 : v < c) :
    LI (upd H l (.lst (refs rs ++ [.ref t]))) l c v (u + 1) (m + 1) := by
  refine ⟨rs ++ [(t, (u, v))], by rw [upd_same, refs_snoc], ?_, by rw [prs_snoc]; exact h3.add a0 a1 a2, by rw [List.length_append, List.length_singleton]; omega⟩
  refine (h2.upd h1).snoc ?_
  show upd H l _ t = _
  rw [upd_ne (ne_of ht h1 (fun z => by unfold tupO at z; cases z))]
  exact ht

theorem kind_ties {k : Int} (h0 : 0 ≤ k) (h4 : k < 4) : ∃ m : Int, atI [V.int 2, V.int 3, V.int 2, V.int 4] k = some (V.int m) ∧ 0 < m := by
  have h : k = 0 ∨ k = 1 ∨ k = 2 ∨ k = 3 := by omega
  rcases h with rfl | rfl | rfl | rfl
  · exact ⟨2, rfl, by decide⟩
  · exact ⟨3, rfl, by decide⟩
  · exact ⟨2, rfl, by decide⟩
  · exact ⟨4, rfl, by decide⟩
theorem kind_bows {k : Int} (h0 : 0 ≤ k) (h4 : k < 4) : ∃ m : Int, atI [V.int 2, V.int 3, V.int 5, V.int 2] k = some (V.int m) ∧ 0 < m := by
  have h : k = 0 ∨ k = 1 ∨ k = 2 ∨ k = 3 := by omega
  rcases h with rfl | rfl | rfl | rfl
  · exact ⟨2, rfl, by decide⟩
  · exact ⟨3, rfl, by decide⟩
  · exact ⟨5, rfl, by decide⟩
  · exact ⟨2, rfl, by decide⟩
theorem int_at {xs : List Int} {k : Nat} (h : k < xs.length) : ∃ z : Int, atI (xs.map V.int) (k : Int) = some (V.int z) := by
  refine ⟨xs[k], atI_nat ?_⟩
  rw [List.getElem?_map, List.getElem?_eq_getElem h]
  rfl

def cOf (z : Int) : Int := 1 + z % 6
def kOf (z : Int) : Int := z / 6 % 4
section
variable {P : Program} {w : World} {K : PySem.W.Frag} {mg : Str → Option Value} {base : Heap}
theorem scPairs : FnScope ["_law_script", "_law_at", "_law_first", "_law_count", "_law_kind", "_law_xs", "_law_ties", "_law_bows", "_law_k", "_law_v", "_law_u"] ["_law_script", "_law_at"] (defScope sPairs) := ⟨rfl, rfl, rfl, by decide +kernel, rfl, by decide +kernel, by decide +kernel⟩
theorem ok_pairs {f fC fM : Addr} {fd fdC fdM : FuncData} (F : Fun K "_law_pairs" "_law_pairs" sPairs f fd) (N : Nm mg)
    (C : Callee P w K mg base "_law_cell_at" 1 fC fdC ["_law_script", "_law_k"] (spCell K)) (M : Callee P w K mg base "_law_mixed" 1 fM fdM ["_law_cell", "_law_many"] spMixed) : FnOk P w K mg base CX0 2 f fd ["_law_script", "_law_at"] (spPairs K) := by
  refine F.ok scPairs (fun vs H Q E h => ?_) (fun cdv A outer s H vs Q E hr h => ?_)
  · obtain ⟨a, ns, rfl, _⟩ := h
    rfl
  obtain ⟨a, ns, rfl, hS, q⟩ := h
  refine ⟨_, pss_cons (ps_set (i := 2) scPairs.nd rfl (.inl rfl) (pe_call C.ok hr rfl C.m C.kp C.b .nil pass0 (pa_cons (pv 0) (pa_cons (pv 1) pa_nil))))
    (pss_cons (ps_set (i := 3) scPairs.nd rfl (.inl rfl) (pe_op op_add pe_int (pe_op op_mod (pv 2) pe_int)))
    (pss_cons (ps_set (i := 4) scPairs.nd rfl (.inl rfl) (pe_op op_mod (pe_op op_fdiv (pv 2) pe_int) pe_int))
    (pss_cons (ps_set (i := 5) scPairs.nd rfl (.inl rfl) (pe_call M.ok hr rfl M.m M.kp M.b .nil pass0 (pa_cons (pe_call C.ok hr rfl C.m C.kp C.b .nil pass0 (pa_cons (pv 0) (pa_cons (pe_op op_add (pv 1) pe_int) pa_nil))) (pa_cons pe_int pa_nil))))
    (pss_cons (ps_set (i := 6) scPairs.nd rfl (.inl rfl) (pe_lst pa_nil))
    (pss_cons (ps_set (i := 7) scPairs.nd rfl (.inl rfl) (pe_lst pa_nil))
    (pss_cons (ps_set (i := 8) scPairs.nd rfl (.inl rfl) pe_int)
    (pss_cons (ps_for PassesOwn.never rfl (pi_range1 rfl N.range (pa_cons (pv 3) pa_nil)) (pg_name (i := 9) scPairs.nd rfl (.inl rfl))
      (pss_one (ps_for PassesOwn.never rfl (pi_range1 rfl N.range (pa_cons (pv 9) pa_nil)) (pg_name (i := 10) scPairs.nd rfl (.inl rfl))
        (C8.pss_cut (ps_if (pt_cmpR op_eq (pe_op op_mod (pe_ix ix_list (pv 5) (pv 8) (fun _ _ => rfl)) (pe_ix ix_list (pe_lst (pa_cons pe_int (pa_cons pe_int (pa_cons pe_int (pa_cons pe_int pa_nil))))) (pv 4) (fun _ _ => rfl))) pe_int (nomark _))
          (pss_one (ps_expr (pe_bm PySem.F.plainAttrs_list PySem.F.slot_list_append PySem.F.type_list_append mt_append (pv 6) (pa_cons (pe_tup (pa_cons (pv 10) (pa_cons (pv 9) pa_nil))) pa_nil)))) pss_nil)
        (C8.pss_cut (ps_if (PW.pt (pw_and (pt_cmpR op_eq (pe_op op_mod (pe_op op_fdiv (pe_ix ix_list (pv 5) (pv 8) (fun _ _ => rfl)) pe_int) (pe_ix ix_list (pe_lst (pa_cons pe_int (pa_cons pe_int (pa_cons pe_int (pa_cons pe_int pa_nil))))) (pv 4) (fun _ _ => rfl))) pe_int (nomark _))
            (pw_and1 (pt_cmpR op_lt (pe_callB call_len_seq rfl N.len PySem.boot_len (pa_cons (pv 7) pa_nil)) pe_int (nomark _)))))
          (pss_one (ps_expr (pe_bm PySem.F.plainAttrs_list PySem.F.slot_list_append PySem.F.type_list_append mt_append (pv 7) (pa_cons (pe_tup (pa_cons (pv 10) (pa_cons (pv 9) pa_nil))) pa_nil)))) pss_nil)
        (pss_one (ps_set (i := 8) scPairs.nd rfl (.inl rfl) (pe_op op_add (pv 8) pe_int))))))))
    (pss_one (ps_ret (pe_tup (pa_cons (pv 3) (pa_cons (pv 6) (pa_cons (pv 7) pa_nil))))))))))))), ?_⟩
  -- first, count, kind
  refine ⟨_, rfl, _, rfl, a, ns, 0, rfl, hS, fun first => ?_⟩
  refine ⟨_, rfl, _, _, rfl, rfl, (by show (0 : Int) < 6; decide), _, _, rfl, rfl, ?_⟩
  refine ⟨_, rfl, _, _, rfl, rfl, ⟨by decide, by decide⟩, _, _, rfl, rfl, (by show (0 : Int) < 4; decide), ?_⟩
  have c1 : 1 ≤ cOf first := by have := Int.emod_nonneg first (show (6 : Int) ≠ 0 by decide); unfold cOf; omega
  have c6 : cOf first ≤ 6 := by have := Int.emod_lt_of_pos first (show (0 : Int) < 6 by decide); unfold cOf; omega
  have kd0 : 0 ≤ kOf first := Int.emod_nonneg _ (by decide)
  have kd4 : kOf first < 4 := Int.emod_lt_of_pos _ (by decide)
  -- the drawn numbers
  refine ⟨_, rfl, _, rfl, _, _, rfl, rfl, a, ns, 1, rfl, hS, fun z => ?_⟩
  refine ⟨z, 15, rfl, by decide, fun px xs H1 s1 hx hxl => ?_⟩
  -- the two lists
  refine ⟨(by show 0 ≤ sizeLine; decide), fun l1 hl1 => ?_⟩
  refine ⟨(by show 0 ≤ sizeLine; decide), fun l2 hl2 => ?_⟩
  have n12 : l1 ≠ l2 := ne_of_none upd_same hl2
  have hl2' : H1 l2 = none := (same_new hl1 _).free hl2
  -- the names by pairs
  refine ⟨_, rfl, cOf first, rfl, by omega, by omega, ?_⟩
  refine for_range (lo := 0) (n := (cOf first).toNat) (fun i σ H' => ∃ (v9 v10 : Option V), σ = [some (.ref a), some (.int 0), some (.int first), some (.int (cOf first)), some (.int (kOf first)), some (.ref px), some (.ref l1), some (.ref l2), some (.int (tri i : Nat)), v9, v10] ∧ Same H1 H' ∧ LI H' l1 (cOf first) i 0 (tri i) ∧ LI H' l2 (cOf first) i 0 6)
    ⟨none, none, rfl, fun b o e => ?_, ?_, ?_⟩ ?_ ?_
  · rw [upd_ne (ne_of_none e hl2'), upd_ne (ne_of_none e hl1)]
    exact e
  · exact ⟨[], by rw [upd_ne n12]; exact upd_same, AllT.nil, Sofar.nil, Nat.zero_le _⟩
  · exact ⟨[], upd_same, AllT.nil, Sofar.nil, Nat.zero_le _⟩
  · rintro i σ H' hi ⟨v9, v10, rfl, s2, L1, L2'⟩
    rw [Int.zero_add]
    have hi6 : i < 6 := by omega
    have hic : (i : Int) < cOf first := by omega
    refine ⟨_, rfl, (i : Int), rfl, by omega, by omega, ?_⟩
    refine for_range (lo := 0) (n := (i : Int).toNat) (fun j σ H' => ∃ (v10 : Option V), σ = [some (.ref a), some (.int 0), some (.int first), some (.int (cOf first)), some (.int (kOf first)), some (.ref px), some (.ref l1), some (.ref l2), some (.int (tri i + j : Nat)), some (.int i), v10] ∧ Same H1 H' ∧ LI H' l1 (cOf first) i j (tri i + j) ∧ LI H' l2 (cOf first) i j 6)
      ⟨v10, rfl, s2, L1, L2'⟩ ?_ ?_
    · rintro j σ H2 hj ⟨v10, rfl, s3, L1, L2'⟩
      rw [Int.zero_add]
      have hji : j < i := by omega
      have hk := tri_lt hi6 hji
      obtain ⟨z1, hz1⟩ := int_at (xs := xs) (k := tri i + j) (by omega)
      obtain ⟨m1, hm1, p1⟩ := kind_ties kd0 kd4
      obtain ⟨m2, hm2, p2⟩ := kind_bows kd0 kd4
      -- a tie or none
      refine ⟨fun σ H' => σ = [some (.ref a), some (.int 0), some (.int first), some (.int (cOf first)), some (.int (kOf first)), some (.ref px), some (.ref l1), some (.ref l2), some (.int (tri i + j : Nat)), some (.int i), some (.int j)] ∧ Same H1 H' ∧ LI H' l1 (cOf first) i (j + 1) (tri i + j + 1) ∧ LI H' l2 (cOf first) i j 6, ?_, ?_⟩
      · refine ⟨_, rfl, _, rfl, px, _, _, _, rfl, rfl, SqL.of (s3 _ _ hx), hz1, (by show 4 ≤ sizeLine; decide), fun p hp => ?_⟩
        have sp := same_new hp (.lst [.int 2, .int 3, .int 2, .int 4])
        refine ⟨_, rfl, p, _, _, _, rfl, rfl, SqL.of upd_same, hm1, _, _, rfl, rfl, p1, rfl, _, rfl, ?_⟩
        refine ite2 (fun _ => ?_) (fun _ => ?_)
        · obtain ⟨rs, r1, r2, r3, r4⟩ := L1.same sp
          refine ⟨_, rfl, .inl ⟨rfl, _, SqL.of r1⟩, _, rfl, _, rfl, (by show 2 ≤ sizeLine; decide), fun t ht => ?_⟩
          have st := same_new ht (.tup [.int j, .int i])
          refine ⟨l1, _, _, rfl, rfl, st _ _ r1, by rw [refs_length]; exact small1000 (by omega), rfl, fun b o e => ?_, LI.add (st _ _ r1) (r2.same st) r3 r4 upd_same (by omega) (by omega) hic, ?_⟩
          · rw [upd_ne (ne_of_none e hl1)]
            exact st _ _ (sp _ _ (s3 _ _ e))
          · exact ((L2'.same sp).same st).other (st _ _ r1) n12.symm
        · exact ⟨rfl, s3.trans sp, ((L1.same sp).skip).up (by omega), L2'.same sp⟩
      · rintro σ H3 ⟨rfl, s4, M1, M2⟩
        -- a bow or none
        refine ⟨fun σ H' => σ = [some (.ref a), some (.int 0), some (.int first), some (.int (cOf first)), some (.int (kOf first)), some (.ref px), some (.ref l1), some (.ref l2), some (.int (tri i + j : Nat)), some (.int i), some (.int j)] ∧ Same H1 H' ∧ LI H' l1 (cOf first) i (j + 1) (tri i + j + 1) ∧ LI H' l2 (cOf first) i (j + 1) 6, ?_, ?_⟩
        · refine ⟨_, rfl, _, rfl, px, _, _, _, rfl, rfl, SqL.of (s4 _ _ hx), hz1, _, _, rfl, rfl, ⟨by decide, by decide⟩, (by show 4 ≤ sizeLine; decide), fun p hp => ?_⟩
          have sp := same_new hp (.lst [.int 2, .int 3, .int 5, .int 2])
          refine ⟨_, rfl, p, _, _, _, rfl, rfl, SqL.of upd_same, hm2, _, _, rfl, rfl, p2, rfl, _, rfl, ?_⟩
          obtain ⟨rs, r1, r2, r3, r4⟩ := M2.same sp
          refine ite2 (fun _ => ?_) (fun _ => ?_)
          · refine ⟨_, rfl, l2, _, rfl, .inl (SqL.of r1), _, _, rfl, rfl, _, rfl, ?_⟩
            refine ite2 (fun c5 => ?_) (fun _ => ?_)
            · have c5' : (((refs rs).length : Nat) : Int) < 6 := of_decide_eq_true c5
              rw [refs_length] at c5'
              refine ⟨_, rfl, .inl ⟨rfl, _, SqL.of r1⟩, _, rfl, _, rfl, (by show 2 ≤ sizeLine; decide), fun t ht => ?_⟩
              have st := same_new ht (.tup [.int j, .int i])
              refine ⟨l2, _, _, rfl, rfl, st _ _ r1, by rw [refs_length]; exact small1000 (by omega), rfl, fun b o e => ?_, ?_, LI.add (m := 5) (st _ _ r1) (r2.same st) r3 (by omega) upd_same (by omega) (by omega) hic⟩
              · rw [upd_ne (ne_of_none e hl2')]
                exact st _ _ (sp _ _ (s4 _ _ e))
              · exact ((M1.same sp).same st).other (st _ _ r1) n12
            · exact ⟨rfl, s4.trans sp, M1.same sp, (M2.same sp).skip⟩
          · refine iteF ?_
            exact ⟨rfl, s4.trans sp, M1.same sp, (M2.same sp).skip⟩
        · rintro σ H4 ⟨rfl, s5, N1, N2⟩
          refine ⟨_, rfl, _, _, rfl, rfl, ?_⟩
          exact ⟨_, rfl, s5, N1, N2⟩
    · rintro σ H2 ⟨v10, rfl, s3, L1, L2'⟩
      have e : (i : Int).toNat = i := by omega
      rw [e] at L1 L2' ⊢
      exact ⟨_, _, rfl, s3, L1.next, L2'.next⟩
  · rintro σ H2 ⟨v9, v10, rfl, s2, ⟨rs, r1, r2, r3, r4⟩, ⟨bs, b1, b2, b3, b4⟩⟩
    refine ⟨_, rfl, _, rfl, _, rfl, (by show 3 ≤ sizeLine; decide), fun t ht => ?_⟩
    have st := same_new ht (.tup [.int (cOf first), .ref l1, .ref l2])
    have hcn : tri (cOf first).toNat ≤ 15 := tri_le (by omega)
    refine q t l1 l2 (cOf first) (prs rs) (prs bs) _ (s1.trans (s2.trans st)) upd_same ⟨c1, c6⟩ ⟨rs, st _ _ r1, r2.same st, rfl⟩ ⟨bs, st _ _ b1, b2.same st, rfl⟩ r3.good b3.good ?_ ?_
    · rw [prs_length]; omega
    · rw [prs_length]; exact b4
end
end Dr

/-! The rows in a drawn order. -/
namespace Dr
open PySem L2

def spShuf : Sp := fun vs H Q _ => ∃ (l : Addr) (z b : Int) (ps : List (Int × Int)), vs = [.ref l, .int z, .int b] ∧ PairsAt H l ps ∧ ps.length ≤ 100 ∧
  ∀ (p : Addr) (qs : List (Int × Int)) (H' : Hp), Same H H' → H p = none → RowsAt H' p qs → qs.Perm ps → Q (.ref p) H'

theorem lst_ne (p : Int × Int) (rs : RS) : lstO p ≠ .lst (refs rs) := by
  intro z
  unfold lstO at z
  injection z with z
  cases rs with
  | nil => cases z
  | cons r rs =>
    injection z with z1 _
    cases z1
theorem AllR.upd {H : Hp} {l : Addr} {o : HO} {rs rs2 : RS} (h : AllR H rs) (hl : H l = some (.lst (refs rs2))) : AllR (upd H l o) rs := fun r hr => by
  rcases h r hr with q | q
  · refine .inl ?_
    rw [upd_ne (ne_of q hl (fun z => by unfold tupO at z; cases z))]
    exact q
  · refine .inr ?_
    rw [upd_ne (ne_of q hl (lst_ne _ _))]
    exact q

section
variable {P : Program} {w : World} {K : PySem.W.Frag} {mg : Str → Option Value} {base : Heap}
theorem scShuf : FnScope ["_law_rows", "_law_number", "_law_bits", "_law_found", "_law_k"] ["_law_rows", "_law_number", "_law_bits"] (defScope sShuf) := ⟨rfl, rfl, rfl, by decide +kernel, rfl, by decide +kernel, by decide +kernel⟩
theorem ok_shuf {f fO : Addr} {fd fdO : FuncData} (F : Fun K "_law_shuffled" "_law_shuffled" sShuf f fd) (N : Nm mg)
    (O : Callee P w K mg base "_law_order" 1 fO fdO ["_law_number", "_law_many"] spOrder) : FnOk P w K mg base CX0 2 f fd ["_law_rows", "_law_number", "_law_bits"] spShuf := by
  refine F.ok scShuf (fun vs H Q E h => ?_) (fun cdv A outer s H vs Q E hr h => ?_)
  · obtain ⟨l, z, b, ps, rfl, _⟩ := h
    rfl
  obtain ⟨l, z, b, ps, rfl, ⟨rs, r1, r2, r3⟩, hps, q⟩ := h
  refine ⟨_, pss_cons (ps_set (i := 3) scShuf.nd rfl (.inl rfl) (pe_lst pa_nil))
    (pss_cons (ps_for PassesOwn.never rfl (pi_list (pe_call O.ok hr rfl O.m O.kp O.b .nil pass0 (pa_cons (pv 1) (pa_cons (pe_callB call_len_seq rfl N.len PySem.boot_len (pa_cons (pv 0) pa_nil)) pa_nil)))) (pg_name (i := 4) scShuf.nd rfl (.inl rfl))
      (pss_cons (ps_expr (pe_bm PySem.F.plainAttrs_list PySem.F.slot_list_append PySem.F.type_list_append mt_append (pv 3)
          (pa_cons (pe_ix ix_list (pe_lst (pa_cons (pe_callTy call_list_of rfl N.list PyProof.Rows.boot_list (pa_cons (pe_ix ix_list (pv 0) (pv 4) (fun _ _ => rfl)) pa_nil))
            (pa_cons (pe_callTy call_tuple_of rfl N.tuple PyProof.Rows.boot_tuple (pa_cons (pe_ix ix_list (pv 0) (pv 4) (fun _ _ => rfl)) pa_nil)) pa_nil))) (pe_op op_mod (pv 2) pe_int) (fun _ _ => rfl)) pa_nil)))
      (pss_one (ps_set (i := 2) scShuf.nd rfl (.inl rfl) (pe_op op_fdiv (pv 2) pe_int)))))
    (pss_one (ps_ret (pv 3)))), ?_⟩
  have hrl : rs.length = ps.length := by rw [← r3, prs_length]
  refine ⟨(by show 0 ≤ sizeLine; decide), fun p hp => ?_⟩
  have s0 : Same H (upd H p (.lst [])) := same_new hp _
  refine ⟨_, rfl, _, rfl, l, _, rfl, .inl (SqL.of (s0 _ _ r1)), ?_⟩
  refine ⟨z, rs.length, ?_, by omega, fun po os H1 s1 hpo ho pm => ?_⟩
  · show [V.int z, V.int (((refs rs).length : Nat) : Int)] = _
    rw [refs_length]
  have npo : p ≠ po := ne_of_none upd_same hpo
  refine ⟨po, rfl, ⟨_, SqL.of ho⟩, ?_⟩
  refine for_list (K := K) (a := po) (xs := os.map fun k : Nat => V.int (k : Int)) (fun i σ H' => ∃ (rs' : RS) (b : Int) (v : Option V), σ = [some (.ref l), some (.int z), some (.int b), some (.ref p), v] ∧ Same H H' ∧ H' po = some (.lst (os.map fun k : Nat => V.int (k : Int))) ∧ H' p = some (.lst (refs rs')) ∧ AllR H' rs' ∧
      prs rs' = (os.take i).map fun k => ps.getD k (0, 0))
    ⟨[], b, none, rfl, s0.trans s1, ho, s1 _ _ upd_same, (fun _ h => nomatch h), rfl⟩ (fun i σ H' _ ⟨_, _, _, _, _, h, _⟩ => SqL.of h) ?_ ?_
  · rintro i x σ H' hi ⟨rs', b', v, rfl, s2, h1, h2, h3, h4⟩
    obtain ⟨k, hk, rfl⟩ : ∃ k : Nat, os[i]? = some k ∧ x = V.int (k : Int) := by
      rw [List.getElem?_map] at hi
      cases e : os[i]? with
      | none => rw [e] at hi; cases hi
      | some k => rw [e] at hi; exact ⟨k, rfl, (Option.some.inj hi).symm⟩
    have kr : k < rs.length := List.mem_range.mp (pm.mem_iff.mp (List.mem_of_getElem? hk))
    have hr0 : rs[k]? = some rs[k] := List.getElem?_eq_getElem kr
    generalize rs[k] = r at hr0
    have hat : atI (refs rs) (k : Int) = some (V.ref r.1) := atI_nat (refs_get hr0)
    have htr := r2 r (List.mem_of_getElem? hr0)
    have hpk : ps.getD k (0, 0) = r.2 := by
      rw [← r3]
      unfold prs
      rw [List.getD_eq_getElem?_getD, List.getElem?_map, hr0]
      rfl
    have hl4 : rs'.length ≤ 100 := by
      have e := congrArg List.length h4
      rw [prs_length, List.length_map, List.length_take] at e
      have e2 := pm.length_eq
      rw [List.length_range] at e2
      omega
    refine ⟨_, rfl, .inl ⟨rfl, _, SqL.of h2⟩, ?_⟩
    refine ⟨_, rfl, _, rfl, l, _, _, _, rfl, rfl, SqL.of (s2 _ _ r1), hat, r.1, _, rfl, .inr (SqT.of (s2 _ _ htr)), fun lq hlq => ?_⟩
    have sa := same_new hlq (.lst [.int r.2.1, .int r.2.2])
    refine ⟨_, rfl, _, rfl, l, _, _, _, rfl, rfl, SqL.of (sa _ _ (s2 _ _ r1)), hat, r.1, _, rfl, .inr ⟨SqT.of (sa _ _ (s2 _ _ htr)), ?_⟩⟩
    refine ⟨(by show 2 ≤ sizeLine; decide), fun d hd => ?_⟩
    have sb := same_new hd (.lst [.ref lq, .ref r.1])
    have sab := sa.trans sb
    have pick : ∃ a' : Addr, atI [V.ref lq, V.ref r.1] (b' % 2) = some (V.ref a') ∧ ((upd (upd H' lq (.lst [.int r.2.1, .int r.2.2])) d (.lst [.ref lq, .ref r.1])) a' = some (tupO r.2) ∨ (upd (upd H' lq (.lst [.int r.2.1, .int r.2.2])) d (.lst [.ref lq, .ref r.1])) a' = some (lstO r.2)) := by
      have g0 := Int.emod_nonneg b' (show (2 : Int) ≠ 0 by decide)
      have g1 := Int.emod_lt_of_pos b' (show (0 : Int) < 2 by decide)
      have g : b' % 2 = 0 ∨ b' % 2 = 1 := by omega
      rcases g with g | g
      · rw [g]
        exact ⟨lq, rfl, .inr (sb _ _ upd_same)⟩
      · rw [g]
        exact ⟨r.1, rfl, .inl (sab _ _ (s2 _ _ htr))⟩
    obtain ⟨a', ha', hrow⟩ := pick
    refine ⟨_, rfl, _, _, rfl, rfl, (by show (0 : Int) < 2; decide), d, _, _, _, rfl, rfl, SqL.of upd_same, ha', ?_⟩
    refine ⟨p, _, _, rfl, rfl, sab _ _ h2, by rw [refs_length]; exact small1000 (by omega), ?_⟩
    refine ⟨_, rfl, _, _, rfl, rfl, ⟨by decide, by decide⟩, ?_⟩
    refine ⟨rs' ++ [(a', r.2)], _, _, rfl, fun b o e => ?_, ?_, ?_, ?_, ?_⟩
    · rw [upd_ne (ne_of_none e hp)]
      exact sab _ _ (s2 _ _ e)
    · rw [upd_ne npo.symm]
      exact sab _ _ h1
    · rw [upd_same, refs_snoc]
    · refine ((h3.same sab).upd (sab _ _ h2)).snoc ?_
      have na : a' ≠ p := by
        rcases hrow with hrow | hrow
        · exact ne_of hrow (sab _ _ h2) (fun z => by unfold tupO at z; cases z)
        · exact ne_of hrow (sab _ _ h2) (lst_ne _ _)
      show upd _ p _ a' = _ ∨ upd _ p _ a' = _
      rw [upd_ne na]
      exact hrow
    · rw [prs_snoc, h4, List.take_add_one, hk, List.map_append]
      show _ ++ [r.2] = _ ++ [ps.getD k (0, 0)]
      rw [hpk]
  · rintro σ H' ⟨rs', b', v, rfl, s2, h1, h2, h3, h4⟩
    refine ⟨_, rfl, q p _ H' s2 hp ⟨rs', h2, h3, rfl⟩ ?_⟩
    rw [h4, List.length_map, List.take_of_length_le (Nat.le_refl _)]
    rw [hrl] at pm
    exact picks_perm (0, 0) pm
end
end Dr

/-! Two same data are told the same. -/
namespace Dr
open PySem L2

def spSame (K : PySem.W.Frag) (n : Nat) : Sp := fun vs H Q _ => ∃ (x y : V) (d : PyData), vs = [x, y] ∧ Dp K H x d ∧ Dp K H y d ∧ okD n d ∧ Q (.bl true) H

abbrev Sq (K : PySem.W.Frag) (H : Hp) (a : Addr) (xs : List V) : Prop := SqL K H a xs ∨ SqT K H a xs
abbrev tIsi (K : PySem.W.Frag) (i : Nat) (T : String) : TE := tCB (rIsi K) (tCons (tVar i) (tCons (tC (.ty T)) tNil))
theorem isi_at {K : PySem.W.Frag} {σ : St} {H : Hp} {Q : VK} {i : Nat} {x : V} {t T : String} {b : Bool} (hx : σ[i]? = some (some x)) (ty : TyX K H x (.type t)) (h : kitB t T = some b) (q : Q (.bl b) H) : tIsi K i T σ H Q :=
  ⟨x, hx, isi_read ty h q⟩
/-- one of the two kinds -/
inductive Kd : String → Bool → Bool → Prop where
  | t : Kd "tuple" true false
  | l : Kd "list" false true
theorem Kd.tt {t : String} {b c : Bool} (k : Kd t b c) : kitB t "tuple" = some b := by cases k; exact tt_tt; exact tt_lt
theorem Kd.tl {t : String} {b c : Bool} (k : Kd t b c) : kitB t "list" = some c := by cases k; exact tt_tl; exact tt_ll
theorem Kd.or {t : String} {b c : Bool} (k : Kd t b c) : b = true ∨ c = true := by cases k; exact .inl rfl; exact .inr rfl
theorem seq_test {K : PySem.W.Frag} {σ : St} {H : Hp} {Q : Bool → Hp → Prop} {i : Nat} {y : V} {t : String} {b c : Bool} (hy : σ[i]? = some (some y)) (ty : TyX K H y (.type t)) (k : Kd t b c) (q : Q true H) : tOr (tB (tIsi K i "tuple")) (tB (tIsi K i "list")) σ H Q := by
  refine isi_at hy ty k.tt ⟨b, rfl, ?_⟩
  cases b with
  | true => exact iteT q
  | false =>
    refine iteF (isi_at hy ty k.tl ⟨c, rfl, ?_⟩)
    cases c with
    | true => exact q
    | false => rcases k.or with e | e <;> cases e
theorem kind_test {K : PySem.W.Frag} {σ : St} {H : Hp} {Q : Bool → Hp → Prop} {i j : Nat} {x y : V} {t : String} {b c : Bool} (hx : σ[i]? = some (some x)) (hy : σ[j]? = some (some y)) (tx : TyX K H x (.type t)) (ty : TyX K H y (.type t)) (k : Kd t b c) (q : Q false H) :
    tOr (tTest (tOp rNe (tIsi K i "tuple") (tIsi K j "tuple"))) (tTest (tOp rNe (tIsi K i "list") (tIsi K j "list"))) σ H Q := by
  refine isi_at hx tx k.tt (isi_at hy ty k.tt ⟨rfl, _, rfl, ?_⟩)
  rw [decide_eq_true (rfl : V.bl b = V.bl b)]
  refine iteF (isi_at hx tx k.tl (isi_at hy ty k.tl ⟨rfl, _, rfl, ?_⟩))
  rw [decide_eq_true (rfl : V.bl c = V.bl c)]
  exact q
theorem ix_read {K : PySem.W.Frag} {H : Hp} {Q : VK} {a : Addr} {xs : List V} {k : Nat} {v : V} (h : Sq K H a xs) (e : xs[k]? = some v) (q : Q v H) : rIx K (.ref a) (.int (k : Int)) H Q := by
  rcases h with h | h
  · exact .inl ⟨a, xs, _, v, rfl, rfl, h, atI_nat e, q⟩
  · exact .inr (.inl ⟨a, xs, _, v, rfl, rfl, h, atI_nat e, q⟩)

section
variable {P : Program} {w : World} {K : PySem.W.Frag} {mg : Str → Option Value} {base : Heap}
theorem scSame : FnScope ["_law_found", "_law_due", "_law_k"] ["_law_found", "_law_due"] (defScope sSame) := ⟨rfl, rfl, rfl, by decide +kernel, rfl, by decide +kernel, by decide +kernel⟩
/-- the body at two ints -/
theorem same_int {f : Addr} {cdv : Value} {A : Around} {outer : List Env} {s : Shared} {H : Hp} {E : XK} {Q : VK} (N : Nm mg) (i : Int) (q : Q (.bl true) H) :
    ∃ t, PSs (cxOf CX0 P w K mg base ["_law_found", "_law_due", "_law_k"] "_law_same" (defScope sSame) f cdv A outer s H E).nox (defBody sSame) t ∧ t { nx := fun _ H' => Q .non H', rt := Q } (start ["_law_found", "_law_due", "_law_k"] [.int i, .int i]) H := by
  refine ⟨_, pss_cons (ps_if (PW.pt (pw_or (pt_val (pe_callB call_isi rfl N.isi PyProof.Rows.boot_isinstance (pa_cons (pv 1) (pa_cons (pe_bltn (v := .ty "tuple") rfl N.tuple PyProof.Rows.boot_tuple rfl) pa_nil))))
      (pw_or1 (pt_val (pe_callB call_isi rfl N.isi PyProof.Rows.boot_isinstance (pa_cons (pv 1) (pa_cons (pe_bltn (v := .ty "list") rfl N.list PyProof.Rows.boot_list rfl) pa_nil))))))) pss_never pss_nil)
    (pss_cons (ps_if (pt_val (pe_callB call_isi rfl N.isi PyProof.Rows.boot_isinstance (pa_cons (pv 1) (pa_cons (pe_bltn (v := .ty "bool") rfl N.bool PyProof.Rows.boot_bool rfl) pa_nil)))) pss_never pss_nil)
    (pss_cons (ps_if (pt_val (pe_callB call_isi rfl N.isi PyProof.Rows.boot_isinstance (pa_cons (pv 1) (pa_cons (pe_bltn (v := .ty "int") rfl N.int PyProof.Rows.boot_int rfl) pa_nil))))
      (pss_one (ps_ret (pe_and (pe_callB call_isi rfl N.isi PyProof.Rows.boot_isinstance (pa_cons (pv 0) (pa_cons (pe_bltn (v := .ty "int") rfl N.int PyProof.Rows.boot_int rfl) pa_nil)))
        (pe_and (pe_not (pe_callB call_isi rfl N.isi PyProof.Rows.boot_isinstance (pa_cons (pv 0) (pa_cons (pe_bltn (v := .ty "bool") rfl N.bool PyProof.Rows.boot_bool rfl) pa_nil))))
          (pe_one (pe_cmpR op_eq (pv 0) (pv 1) (nomark _))))))) pss_nil)
    pss_never)), ?_⟩
  refine isi_at (K := K) rfl (.base (.int i)) tt_it ⟨_, rfl, iteF ?_⟩
  refine isi_at (K := K) rfl (.base (.int i)) tt_il ⟨_, rfl, iteF ?_⟩
  refine isi_at (K := K) rfl (.base (.int i)) tt_ib ⟨_, rfl, iteF ?_⟩
  refine isi_at (K := K) rfl (.base (.int i)) tt_ii ⟨_, rfl, iteT ?_⟩
  refine isi_at (K := K) rfl (.base (.int i)) tt_ii ⟨_, rfl, iteT ?_⟩
  refine isi_at (K := K) rfl (.base (.int i)) tt_ib ⟨false, rfl, true, rfl, iteT ?_⟩
  refine ⟨_, rfl, _, rfl, rfl, ?_⟩
  rw [intT rfl]
  exact q
/-- the body at two lists, or two tuples -/
theorem same_seq {n : Nat} {f : Addr} {fd : FuncData} {cdv : Value} {A : Around} {outer : List Env} {s : Shared} {H : Hp} {E : XK} {Q : VK} (N : Nm mg) (G : Callee P w K mg base "_law_same" (n + 1) f fd ["_law_found", "_law_due"] (spSame K n))
    (hr : Room (n + 1) (A.deeper (PyProof.Rows.envOfC "_law_same" (defScope sSame) s.heap.objs.size f cdv)))
    {a b : Addr} {xs ys : List V} {ds : List PyData} {t : String} {u v : Bool} (k : Kd t u v) (tx : TyX K H (.ref a) (.type t)) (ty : TyX K H (.ref b) (.type t)) (hx : Sq K H a xs) (hy : Sq K H b ys) (dx : DpAll K H xs ds) (dy : DpAll K H ys ds)
    (hl : ds.length ≤ 100) (ok : ∀ d ∈ ds, okD n d) (q : Q (.bl true) H) :
    ∃ t, PSs (cxOf CX0 P w K mg base ["_law_found", "_law_due", "_law_k"] "_law_same" (defScope sSame) f cdv A outer s H E).nox (defBody sSame) t ∧ t { nx := fun _ H' => Q .non H', rt := Q } (start ["_law_found", "_law_due", "_law_k"] [.ref a, .ref b]) H := by
  refine ⟨_, pss_cons (ps_if (PW.pt (pw_or (pt_val (pe_callB call_isi rfl N.isi PyProof.Rows.boot_isinstance (pa_cons (pv 1) (pa_cons (pe_bltn (v := .ty "tuple") rfl N.tuple PyProof.Rows.boot_tuple rfl) pa_nil))))
      (pw_or1 (pt_val (pe_callB call_isi rfl N.isi PyProof.Rows.boot_isinstance (pa_cons (pv 1) (pa_cons (pe_bltn (v := .ty "list") rfl N.list PyProof.Rows.boot_list rfl) pa_nil)))))))
      (pss_cons (ps_if (PW.pt (pw_or (pt_cmpR op_ne (pe_callB call_isi rfl N.isi PyProof.Rows.boot_isinstance (pa_cons (pv 0) (pa_cons (pe_bltn (v := .ty "tuple") rfl N.tuple PyProof.Rows.boot_tuple rfl) pa_nil)))
            (pe_callB call_isi rfl N.isi PyProof.Rows.boot_isinstance (pa_cons (pv 1) (pa_cons (pe_bltn (v := .ty "tuple") rfl N.tuple PyProof.Rows.boot_tuple rfl) pa_nil))) (nomark _))
          (pw_or1 (pt_cmpR op_ne (pe_callB call_isi rfl N.isi PyProof.Rows.boot_isinstance (pa_cons (pv 0) (pa_cons (pe_bltn (v := .ty "list") rfl N.list PyProof.Rows.boot_list rfl) pa_nil)))
            (pe_callB call_isi rfl N.isi PyProof.Rows.boot_isinstance (pa_cons (pv 1) (pa_cons (pe_bltn (v := .ty "list") rfl N.list PyProof.Rows.boot_list rfl) pa_nil))) (nomark _))))) (pss_one (ps_ret pe_bl)) pss_nil)
      (pss_cons (ps_if (pt_cmpR op_ne (pe_callB call_len_seq rfl N.len PySem.boot_len (pa_cons (pv 0) pa_nil)) (pe_callB call_len_seq rfl N.len PySem.boot_len (pa_cons (pv 1) pa_nil)) (nomark _)) (pss_one (ps_ret pe_bl)) pss_nil)
      (pss_cons (ps_for PassesOwn.never rfl (pi_range1 rfl N.range (pa_cons (pe_callB call_len_seq rfl N.len PySem.boot_len (pa_cons (pv 1) pa_nil)) pa_nil)) (pg_name (i := 2) scSame.nd rfl (.inl rfl))
        (pss_one (ps_if (pt_not (pt_val (pe_call G.ok hr rfl G.m G.kp G.b .nil pass0 (pa_cons (pe_ix ix_seq (pv 0) (pv 2) (fun _ _ => rfl)) (pa_cons (pe_ix ix_seq (pv 1) (pv 2) (fun _ _ => rfl)) pa_nil))))) (pss_one (ps_ret pe_bl)) pss_nil)))
      (pss_one (ps_ret pe_bl))))) pss_nil)
    pss_never, ?_⟩
  have ex := dps_len dx
  have ey := dps_len dy
  refine seq_test (K := K) rfl ty k (iteT ?_)
  refine kind_test (K := K) rfl rfl tx ty k (iteF ?_)
  refine ⟨_, rfl, a, _, rfl, hx, _, rfl, b, _, rfl, hy, rfl, _, rfl, ?_⟩
  rw [intT (show ((xs.length : Nat) : Int) = ((ys.length : Nat) : Int) by omega)]
  refine iteF ?_
  refine ⟨_, rfl, b, _, rfl, hy, ((ys.length : Nat) : Int), rfl, by omega, by omega, ?_⟩
  refine for_range (lo := 0) (n := ((ys.length : Nat) : Int).toNat) (fun i σ H' => ∃ (v : Option V), σ = [some (.ref a), some (.ref b), v] ∧ H' = H) ⟨none, rfl, rfl⟩ ?_ ?_
  · rintro i σ H' hi ⟨v, rfl, rfl⟩
    rw [Int.zero_add]
    have hid : i < ds.length := by omega
    have hd : ds[i]? = some ds[i] := List.getElem?_eq_getElem hid
    obtain ⟨x, hx1, hx2⟩ := dps_at dx hd
    obtain ⟨y, hy1, hy2⟩ := dps_at dy hd
    refine ⟨_, rfl, _, rfl, ix_read hx hx1 ?_⟩
    refine ⟨_, rfl, _, rfl, ix_read hy hy1 ?_⟩
    refine ⟨x, y, _, rfl, hx2, hy2, ok _ (List.getElem_mem hid), true, rfl, iteF ?_⟩
    exact ⟨_, rfl, rfl⟩
  · rintro σ H' ⟨v, rfl, rfl⟩
    exact q
theorem ok_same {f : Addr} {fd : FuncData} (F : Fun K "_law_same" "_law_same" sSame f fd) (N : Nm mg) (m : mg "_law_same" = some (.ref f)) (b : Binds K fd ["_law_found", "_law_due"] []) :
    ∀ n : Nat, FnOk P w K mg base CX0 (n + 1) f fd ["_law_found", "_law_due"] (spSame K n)
  | 0 => by
    refine F.ok scSame (fun vs H Q E h => ?_) (fun cdv A outer s H vs Q E hr h => ?_)
    · obtain ⟨x, y, d, rfl, _⟩ := h
      rfl
    obtain ⟨x, y, d, rfl, hx, hy, ok, q⟩ := h
    cases d with
    | int i =>
      cases hx
      cases hy
      exact same_int N i q
    | _ => exact False.elim ok
  | n + 1 => by
    have G : Callee P w K mg base "_law_same" (n + 1) f fd ["_law_found", "_law_due"] (spSame K n) := ⟨ok_same F N m b n, m, b, F.kp⟩
    refine F.ok scSame (fun vs H Q E h => ?_) (fun cdv A outer s H vs Q E hr h => ?_)
    · obtain ⟨x, y, d, rfl, _⟩ := h
      rfl
    obtain ⟨x, y, d, rfl, hx, hy, ok, q⟩ := h
    cases d with
    | int i =>
      cases hx
      cases hy
      exact same_int N i q
    | list ds =>
      cases hx with
      | lst sx ax =>
        cases hy with
        | lst sy ay => exact same_seq N G hr .l (ty_l sx) (ty_l sy) (.inl sx) (.inl sy) ax ay ok.1 ok.2 q
    | tuple ds =>
      cases hx with
      | tup sx ax =>
        cases hy with
        | tup sy ay => exact same_seq N G hr .t (ty_t sx) (ty_t sy) (.inr sx) (.inr sy) ax ay ok.1 ok.2 q
    | _ => exact False.elim ok
end
end Dr

/-! A drawing as it stands; its sources, followers and shape. -/
namespace Dr
open PySem L2

/-! ### the attributes -/
def df (c : Int) (t1 t2 : Addr) : List (Str × V) := putF "bows" (.ref t2) (putF "ties" (.ref t1) (putF "count" (.int c) []))
theorem nTC : ¬ (("ties" : Str) = "count") := by decide +kernel
theorem nBC : ¬ (("bows" : Str) = "count") := by decide +kernel
theorem nBT : ¬ (("bows" : Str) = "ties") := by decide +kernel
theorem df_bows (c : Int) (t1 t2 : Addr) : (df c t1 t2).lookup ("bows" : Str) = some (.ref t2) := by
  unfold df
  rw [lookup_putF, if_pos rfl]
theorem df_ties (c : Int) (t1 t2 : Addr) : (df c t1 t2).lookup ("ties" : Str) = some (.ref t1) := by
  unfold df
  rw [lookup_putF, if_neg (fun e => nBT e.symm), lookup_putF, if_pos rfl]
theorem df_count (c : Int) (t1 t2 : Addr) : (df c t1 t2).lookup ("count" : Str) = some (.int c) := by
  unfold df
  rw [lookup_putF, if_neg (fun e => nBC e.symm), lookup_putF, if_neg (fun e => nTC e.symm), lookup_putF, if_pos rfl]
theorem df_no (c : Int) (t1 t2 : Addr) {m : Str} (h1 : ¬ m = "bows") (h2 : ¬ m = "ties") (h3 : ¬ m = "count") : (df c t1 t2).lookup m = none := by
  unfold df
  rw [lookup_putF, if_neg h1, lookup_putF, if_neg h2, lookup_putF, if_neg h3]
  all_goals rfl
/-- a drawing stands at x -/
def DrawAt (C : Addr) (H : Hp) (x : Addr) (c : Int) (T B : List (Int × Int)) : Prop := ∃ dx t1 t2, H x = some (.ins C dx (df c t1 t2)) ∧ TupsAt H t1 T ∧ TupsAt H t2 B
theorem DrawAt.same {C : Addr} {H H' : Hp} {x : Addr} {c : Int} {T B : List (Int × Int)} (h : DrawAt C H x c T B) (s : Same H H') : DrawAt C H' x c T B := by
  obtain ⟨dx, t1, t2, h1, h2, h3⟩ := h
  exact ⟨dx, t1, t2, s _ _ h1, h2.same s, h3.same s⟩
/-- what is asked of the class -/
structure Tx (K : PySem.W.Frag) (mg : Str → Option Value) (C : Addr) : Prop where
  cl : Cls K C
  nCount : NoAttr K C "count"
  nTies : NoAttr K C "ties"
  nBows : NoAttr K C "bows"
  mg : mg "Drawing" = some (.ref C)
def dueD (c : Int) (T B : List (Int × Int)) : PyData := .tuple [.int c, tupsD T, tupsD B]
theorem dp_due {K : PySem.W.Frag} {H : Hp} {t t1 t2 : Addr} {c : Int} {T B : List (Int × Int)} (h : SqT K H t [.int c, .ref t1, .ref t2]) (h1 : TupsAt H t1 T) (h2 : TupsAt H t2 B) : Dp K H (.ref t) (dueD c T B) :=
  .tup h (.cons (.int c) (.cons (dp_tups h1) (.cons (dp_tups h2) .nil)))

def spIsSet (C : Addr) : Sp := fun vs H Q _ => ∃ (x t dx t1 t2 : Addr) (c n : Int), vs = [.ref x, .ref t] ∧ H x = some (.ins C dx (df c t1 t2)) ∧ H t = some (.tup [.int n]) ∧ 0 ≤ n ∧ n < c ∧ Q (.bl true) H
def spLook (C : Addr) : Sp := fun vs H Q _ => ∃ (x t dx t1 t2 : Addr) (c n : Int), vs = [.ref x, .ref t] ∧ H x = some (.ins C dx (df c t1 t2)) ∧ H t = some (.tup [.int n]) ∧ 0 ≤ n ∧ n < c ∧ Q .non H
def spSour (C : Addr) : Sp := fun vs H Q _ => ∃ (x : Addr) (c n : Int) (T B : List (Int × Int)), vs = [.ref x, .int n] ∧ DrawAt C H x c T B ∧ 0 ≤ n ∧ n < c ∧ T.length ≤ 100 ∧
  ∀ (t : Addr) (H' : Hp), Same H H' → H' t = some (.tup ((sour T n).map V.int)) → Q (.ref t) H'
def spFoll (C : Addr) : Sp := fun vs H Q _ => ∃ (x : Addr) (c n : Int) (T B : List (Int × Int)), vs = [.ref x, .int n] ∧ DrawAt C H x c T B ∧ 0 ≤ n ∧ n < c ∧ T.length ≤ 100 ∧
  ∀ (t : Addr) (H' : Hp), Same H H' → H' t = some (.tup ((foll T n).map V.int)) → Q (.ref t) H'
def spShape (K : PySem.W.Frag) (C : Addr) : Sp := fun vs H Q _ => ∃ (x : Addr) (c : Int) (T B : List (Int × Int)), vs = [.ref x] ∧ DrawAt C H x c T B ∧
  ∀ (t : Addr) (H' : Hp), Same H H' → Dp K H' (.ref t) (dueD c T B) → Q (.ref t) H'

theorem sour_snoc (A : List (Int × Int)) (p : Int × Int) (n : Int) : sour (A ++ [p]) n = if p.2 = n then sour A n ++ [p.1] else sour A n := by
  unfold sour
  rw [List.filter_append]
  by_cases h : p.2 = n
  · rw [if_pos h]
    simp [h]
  · rw [if_neg h]
    simp [h]
theorem foll_snoc (A : List (Int × Int)) (p : Int × Int) (n : Int) : foll (A ++ [p]) n = if p.1 = n then foll A n ++ [p.2] else foll A n := by
  unfold foll
  rw [List.filter_append]
  by_cases h : p.1 = n
  · rw [if_pos h]
    simp [h]
  · rw [if_neg h]
    simp [h]
theorem sour_len (A : List (Int × Int)) (n : Int) : (sour A n).length ≤ A.length := by
  unfold sour
  rw [List.length_map]
  exact List.length_filter_le _ _
theorem foll_len (A : List (Int × Int)) (n : Int) : (foll A n).length ≤ A.length := by
  unfold foll
  rw [List.length_map]
  exact List.length_filter_le _ _

section
variable {P : Program} {w : World} {K : PySem.W.Frag} {mg : Str → Option Value} {base : Heap}
theorem scIsSet : FnScope ["drawing", "names", "k"] ["drawing", "names"] (defScope sIsSet) := ⟨rfl, rfl, rfl, by decide +kernel, rfl, by decide +kernel, by decide +kernel⟩
theorem ok_isset {f C : Addr} {fd : FuncData} (F : Fun K "is_set" "is_set" sIsSet f fd) (N : Nm mg) (T : Tx K mg C) : FnOk P w K mg base CX0 1 f fd ["drawing", "names"] (spIsSet C) := by
  refine F.ok scIsSet (fun vs H Q E h => ?_) (fun cdv A outer s H vs Q E hr h => ?_)
  · obtain ⟨x, t, dx, t1, t2, c, n, rfl, _⟩ := h
    rfl
  obtain ⟨x, t, dx, t1, t2, c, n, rfl, hx, ht, n0, nc, q⟩ := h
  refine ⟨_, pss_cons (ps_for PassesOwn.never rfl (pi_range1 rfl N.range (pa_cons (pe_callB call_len_seq rfl N.len PySem.boot_len (pa_cons (pv 1) pa_nil)) pa_nil)) (pg_name (i := 2) scIsSet.nd rfl (.inl rfl))
      (pss_one (ps_if (PW.pt (pw_or (pt_cmpR op_lt (pe_ix ix_tup (pv 1) (pv 2) (fun _ _ => rfl)) pe_int (nomark _))
          (pw_or (pt_cmpR op_ge (pe_ix ix_tup (pv 1) (pv 2) (fun _ _ => rfl)) (pe_fld (pv 0) rfl) (nomark _))
          (pw_or1 (PW.pt (pw_and (pt_cmpR op_gt (pv 2) pe_int (nomark _)) (pw_and1 (pt_cmpR op_le (pe_ix ix_tup (pv 1) (pv 2) (fun _ _ => rfl)) (pe_ix ix_tup (pv 1) (pe_op op_sub (pv 2) pe_int) (fun _ _ => rfl)) (nomark _)))))))))
        (pss_one (ps_ret pe_bl)) pss_nil)))
    (pss_one (ps_ret pe_bl)), ?_⟩
  refine ⟨_, rfl, t, _, rfl, .inr (SqT.of ht), 1, rfl, by decide, by decide, ?_⟩
  refine for_range (lo := 0) (n := (1 : Int).toNat) (fun i σ H' => ∃ (v : Option V), σ = [some (.ref x), some (.ref t), v] ∧ H' = H) ⟨none, rfl, rfl⟩ ?_ ?_
  · rintro i σ H' hi ⟨v, rfl, rfl⟩
    have ei : i = 0 := by
      have : (1 : Int).toNat = 1 := rfl
      omega
    subst ei
    refine ⟨_, rfl, _, rfl, t, _, _, .int n, rfl, rfl, SqT.of ht, rfl, _, _, rfl, rfl, _, rfl, ?_⟩
    rw [decide_eq_false (show ¬ n < 0 by omega)]
    refine iteF ⟨_, rfl, _, rfl, t, _, _, .int n, rfl, rfl, SqT.of ht, rfl, _, rfl, x, C, dx, _, _, rfl, hx, T.cl, T.nCount, df_count _ _ _, _, _, rfl, rfl, _, rfl, ?_⟩
    rw [decide_eq_false (show ¬ c ≤ n by omega)]
    refine iteF ⟨_, rfl, _, _, rfl, rfl, _, rfl, ?_⟩
    refine iteF (iteF ?_)
    exact ⟨_, rfl, rfl⟩
  · rintro σ H' ⟨v, rfl, rfl⟩
    exact q

theorem scLook : FnScope ["drawing", "names"] ["drawing", "names"] (defScope sLook) := ⟨rfl, rfl, rfl, by decide +kernel, rfl, by decide +kernel, by decide +kernel⟩
theorem ok_look {f C fI : Addr} {fd fdI : FuncData} (F : Fun K "look_at_set" "look_at_set" sLook f fd) (I : Callee P w K mg base "is_set" 1 fI fdI ["drawing", "names"] (spIsSet C)) : FnOk P w K mg base CX0 2 f fd ["drawing", "names"] (spLook C) := by
  refine F.ok scLook (fun vs H Q E h => ?_) (fun cdv A outer s H vs Q E hr h => ?_)
  · obtain ⟨x, t, dx, t1, t2, c, n, rfl, _⟩ := h
    rfl
  obtain ⟨x, t, dx, t1, t2, c, n, rfl, hx, ht, n0, nc, q⟩ := h
  refine ⟨_, pss_one (ps_if (pt_not (pt_val (pe_call I.ok hr rfl I.m I.kp I.b .nil pass0 (pa_cons (pv 0) (pa_cons (pv 1) pa_nil))))) pss_never pss_nil), ?_⟩
  refine ⟨_, rfl, _, rfl, x, t, dx, t1, t2, c, n, rfl, hx, ht, n0, nc, true, rfl, iteF ?_⟩
  exact q

theorem scSour : FnScope ["self", "name", "u", "v"] ["self", "name"] (defScope sSour) := ⟨rfl, rfl, rfl, by decide +kernel, rfl, by decide +kernel, by decide +kernel⟩
theorem ok_sour {f C fL : Addr} {fd fdL : FuncData} (F : Fun K "sources" "Drawing.sources" sSour f fd) (N : Nm mg) (X : Tx K mg C) (L : Callee P w K mg base "look_at_set" 2 fL fdL ["drawing", "names"] (spLook C)) : FnOk P w K mg base CX0 3 f fd ["self", "name"] (spSour C) := by
  refine F.ok scSour (fun vs H Q E h => ?_) (fun cdv A outer s H vs Q E hr h => ?_)
  · obtain ⟨x, c, n, T, B, rfl, _⟩ := h
    rfl
  obtain ⟨x, c, n, T, B, rfl, ⟨dx, t1, t2, hx, ⟨rs, r1, r2, r3⟩, hB⟩, n0, nc, hT, q⟩ := h
  refine ⟨_, pss_cons (ps_expr (pe_call L.ok hr rfl L.m L.kp L.b .nil pass0 (pa_cons (pv 0) (pa_cons (pe_tup (pa_cons (pv 1) pa_nil)) pa_nil))))
    (pss_one (ps_ret (pe_callTy call_tuple_of rfl N.tuple PyProof.Rows.boot_tuple (pa_cons
      (pe_lc (own := [("u", 2), ("v", 3)]) (g := gTup K 2 (gCons (gName 2) (gCons (gName 3) gNil))) rfl scSour.nd (pi_tup (pe_fld (pv 0) rfl)) (blkOk_by (N := ["self", "name", "u", "v"]) (sc := defScope sSour) (by decide +kernel))
        (fun _ _ _ _ _ => pg_tup rfl (pgs_cons (pg_name (i := 2) scSour.nd rfl (.inl rfl)) (pgs_cons (pg_name (i := 3) scSour.nd rfl (.inl rfl)) pgs_nil)))
        (fun _ _ _ _ _ => pts_one (pt_cmpR op_eq (pv 3) (pv 1) (nomark _))) (fun _ _ _ _ _ => pv 2)) pa_nil)))), ?_⟩
  refine ⟨_, rfl, _, rfl, (by show 1 ≤ sizeLine; decide), fun tn htn => ?_⟩
  have s0 := same_new htn (.tup [.int n])
  refine ⟨x, tn, dx, t1, t2, c, n, rfl, s0 _ _ hx, upd_same, n0, nc, ?_⟩
  refine ⟨_, rfl, x, C, dx, _, _, rfl, s0 _ _ hx, X.cl, X.nTies, df_ties _ _ _, t1, rfl, ⟨_, SqT.of (s0 _ _ r1)⟩, fun D hD => ?_⟩
  refine lc_tup (K := K) (a := t1) (xs := refs rs) (fun i H' => Same (upd H tn (.tup [.int n])) H' ∧ H' D = some (.lst ((sour ((prs rs).take i) n).map V.int))) ⟨same_new hD _, upd_same⟩ (fun i H' _ h => SqT.of (h.1 _ _ (s0 _ _ r1))) ?_ ?_
  · rintro i y H' hi ⟨s1, h1⟩
    obtain ⟨r, hr0, rfl⟩ := refs_at hi
    have htr := s1 _ _ (s0 _ _ (r2 r (List.mem_of_getElem? hr0)))
    have ep : (prs rs)[i]? = some r.2 := by
      unfold prs
      rw [List.getElem?_map, hr0]
      rfl
    have et : (prs rs).take (i + 1) = (prs rs).take i ++ [r.2] := by rw [List.take_add_one, ep]; rfl
    have lt : ((sour ((prs rs).take i) n).map V.int).length ≤ 100 := by
      have a1 := sour_len ((prs rs).take i) n
      have a2 : ((prs rs).take i).length ≤ (prs rs).length := by rw [List.length_take]; omega
      rw [r3] at a2
      rw [List.length_map]
      rw [r3] at a1
      rw [r3]
      omega
    refine ⟨r.1, _, rfl, SqT.of htr, rfl, _, _, rfl, _, _, rfl, rfl, rfl, ?_⟩
    refine ⟨_, rfl, _, rfl, rfl, _, rfl, ?_⟩
    refine ite2 (fun e => ?_) (fun e => ?_)
    · have e' : r.2.2 = n := V.int.inj (of_decide_eq_true e)
      refine ⟨_, rfl, _, h1, small1000 (by omega), fun b o z => ?_, ?_⟩
      · rw [upd_ne (ne_of_none z hD)]
        exact s1 _ _ z
      · rw [upd_same, et, sour_snoc, if_pos e', List.map_append]
        rfl
    · have e' : ¬ r.2.2 = n := fun z => e (intT z)
      refine ⟨s1, ?_⟩
      rw [et, sour_snoc, if_neg e']
      exact h1
  · rintro H' ⟨s1, h1⟩
    refine ⟨D, _, rfl, .inl ⟨SqL.of h1, fun t ht => ?_⟩⟩
    refine q t _ ((s0.trans s1).trans (same_new ht _)) ?_
    rw [upd_same, refs_length, ← prs_length, List.take_of_length_le (Nat.le_refl _), r3]

theorem scFoll : FnScope ["self", "name", "u", "v"] ["self", "name"] (defScope sFoll) := ⟨rfl, rfl, rfl, by decide +kernel, rfl, by decide +kernel, by decide +kernel⟩
theorem ok_foll {f C fL : Addr} {fd fdL : FuncData} (F : Fun K "followers" "Drawing.followers" sFoll f fd) (N : Nm mg) (X : Tx K mg C) (L : Callee P w K mg base "look_at_set" 2 fL fdL ["drawing", "names"] (spLook C)) : FnOk P w K mg base CX0 3 f fd ["self", "name"] (spFoll C) := by
  refine F.ok scFoll (fun vs H Q E h => ?_) (fun cdv A outer s H vs Q E hr h => ?_)
  · obtain ⟨x, c, n, T, B, rfl, _⟩ := h
    rfl
  obtain ⟨x, c, n, T, B, rfl, ⟨dx, t1, t2, hx, ⟨rs, r1, r2, r3⟩, hB⟩, n0, nc, hT, q⟩ := h
  refine ⟨_, pss_cons (ps_expr (pe_call L.ok hr rfl L.m L.kp L.b .nil pass0 (pa_cons (pv 0) (pa_cons (pe_tup (pa_cons (pv 1) pa_nil)) pa_nil))))
    (pss_one (ps_ret (pe_callTy call_tuple_of rfl N.tuple PyProof.Rows.boot_tuple (pa_cons
      (pe_lc (own := [("u", 2), ("v", 3)]) (g := gTup K 2 (gCons (gName 2) (gCons (gName 3) gNil))) rfl scFoll.nd (pi_tup (pe_fld (pv 0) rfl)) (blkOk_by (N := ["self", "name", "u", "v"]) (sc := defScope sFoll) (by decide +kernel))
        (fun _ _ _ _ _ => pg_tup rfl (pgs_cons (pg_name (i := 2) scFoll.nd rfl (.inl rfl)) (pgs_cons (pg_name (i := 3) scFoll.nd rfl (.inl rfl)) pgs_nil)))
        (fun _ _ _ _ _ => pts_one (pt_cmpR op_eq (pv 2) (pv 1) (nomark _))) (fun _ _ _ _ _ => pv 3)) pa_nil)))), ?_⟩
  refine ⟨_, rfl, _, rfl, (by show 1 ≤ sizeLine; decide), fun tn htn => ?_⟩
  have s0 := same_new htn (.tup [.int n])
  refine ⟨x, tn, dx, t1, t2, c, n, rfl, s0 _ _ hx, upd_same, n0, nc, ?_⟩
  refine ⟨_, rfl, x, C, dx, _, _, rfl, s0 _ _ hx, X.cl, X.nTies, df_ties _ _ _, t1, rfl, ⟨_, SqT.of (s0 _ _ r1)⟩, fun D hD => ?_⟩
  refine lc_tup (K := K) (a := t1) (xs := refs rs) (fun i H' => Same (upd H tn (.tup [.int n])) H' ∧ H' D = some (.lst ((foll ((prs rs).take i) n).map V.int))) ⟨same_new hD _, upd_same⟩ (fun i H' _ h => SqT.of (h.1 _ _ (s0 _ _ r1))) ?_ ?_
  · rintro i y H' hi ⟨s1, h1⟩
    obtain ⟨r, hr0, rfl⟩ := refs_at hi
    have htr := s1 _ _ (s0 _ _ (r2 r (List.mem_of_getElem? hr0)))
    have ep : (prs rs)[i]? = some r.2 := by
      unfold prs
      rw [List.getElem?_map, hr0]
      rfl
    have et : (prs rs).take (i + 1) = (prs rs).take i ++ [r.2] := by rw [List.take_add_one, ep]; rfl
    have lt : ((foll ((prs rs).take i) n).map V.int).length ≤ 100 := by
      have a1 := foll_len ((prs rs).take i) n
      have a2 : ((prs rs).take i).length ≤ (prs rs).length := by rw [List.length_take]; omega
      rw [r3] at a2
      rw [List.length_map]
      rw [r3] at a1
      rw [r3]
      omega
    refine ⟨r.1, _, rfl, SqT.of htr, rfl, _, _, rfl, _, _, rfl, rfl, rfl, ?_⟩
    refine ⟨_, rfl, _, rfl, rfl, _, rfl, ?_⟩
    refine ite2 (fun e => ?_) (fun e => ?_)
    · have e' : r.2.1 = n := V.int.inj (of_decide_eq_true e)
      refine ⟨_, rfl, _, h1, small1000 (by omega), fun b o z => ?_, ?_⟩
      · rw [upd_ne (ne_of_none z hD)]
        exact s1 _ _ z
      · rw [upd_same, et, foll_snoc, if_pos e', List.map_append]
        rfl
    · have e' : ¬ r.2.1 = n := fun z => e (intT z)
      refine ⟨s1, ?_⟩
      rw [et, foll_snoc, if_neg e']
      exact h1
  · rintro H' ⟨s1, h1⟩
    refine ⟨D, _, rfl, .inl ⟨SqL.of h1, fun t ht => ?_⟩⟩
    refine q t _ ((s0.trans s1).trans (same_new ht _)) ?_
    rw [upd_same, refs_length, ← prs_length, List.take_of_length_le (Nat.le_refl _), r3]

theorem scShape : FnScope ["self"] ["self"] (defScope sShape) := ⟨rfl, rfl, rfl, by decide +kernel, rfl, by decide +kernel, by decide +kernel⟩
theorem ok_shape {f C : Addr} {fd : FuncData} (F : Fun K "shape" "Drawing.shape" sShape f fd) (X : Tx K mg C) : FnOk P w K mg base CX0 1 f fd ["self"] (spShape K C) := by
  refine F.ok scShape (fun vs H Q E h => ?_) (fun cdv A outer s H vs Q E hr h => ?_)
  · obtain ⟨x, c, T, B, rfl, _⟩ := h
    rfl
  obtain ⟨x, c, T, B, rfl, ⟨dx, t1, t2, hx, hT, hB⟩, q⟩ := h
  refine ⟨_, pss_one (ps_ret (pe_tup (pa_cons (pe_fld (pv 0) rfl) (pa_cons (pe_fld (pv 0) rfl) (pa_cons (pe_fld (pv 0) rfl) pa_nil))))), ?_⟩
  refine ⟨_, rfl, x, C, dx, _, _, rfl, hx, X.cl, X.nCount, df_count _ _ _, ?_⟩
  refine ⟨_, rfl, x, C, dx, _, _, rfl, hx, X.cl, X.nTies, df_ties _ _ _, ?_⟩
  refine ⟨_, rfl, x, C, dx, _, _, rfl, hx, X.cl, X.nBows, df_bows _ _ _, (by show 3 ≤ sizeLine; decide), fun t ht => ?_⟩
  have s0 := same_new ht (.tup [.int c, .ref t1, .ref t2])
  exact q t _ s0 (dp_due (SqT.of upd_same) (hT.same s0) (hB.same s0))
end
end Dr

/-! Pairs looked at and told rising; a drawing made. -/
namespace Dr
open PySem L2

def spPairsOf : Sp := fun vs H Q _ => ∃ (c : Int) (l : Addr) (ps : List (Int × Int)), vs = [.int c, .ref l] ∧ RowsAt H l ps ∧ Good c ps ∧ ps.length ≤ 100 ∧
  ∀ (t : Addr) (qs : List (Int × Int)) (H' : Hp), Same H H' → TupsAt H' t qs → Srt ps qs → Q (.ref t) H'
def spInit (C : Addr) : Sp := fun vs H Q _ => ∃ (x dx l1 l2 : Addr) (c : Int) (T0 B0 : List (Int × Int)), vs = [.ref x, .int c, .ref l1, .ref l2] ∧ H x = some (.ins C dx []) ∧ (1 ≤ c ∧ c ≤ 6) ∧ RowsAt H l1 T0 ∧ RowsAt H l2 B0 ∧ Good c T0 ∧ Good c B0 ∧ T0.length ≤ 100 ∧ B0.length ≤ 6 ∧
  ∀ (T B : List (Int × Int)) (H' : Hp), (∀ b o, H b = some o → b ≠ x → H' b = some o) → DrawAt C H' x c T B → Srt T0 T → Srt B0 B → Q .non H'

theorem hu65 {k : Nat} {A : Around} (hr : Room k A) : A.units + 65 < cLine := by have := hr.un; omega
theorem fresh_at {α : Type} {ps : List α} {i : Nat} {p : α} (nd : ps.Nodup) (h : ps[i]? = some p) : p ∉ ps.take i := by
  intro hm
  obtain ⟨j, hj⟩ := List.mem_iff_getElem?.mp hm
  rw [List.getElem?_take] at hj
  by_cases hji : j < i
  · rw [if_pos hji] at hj
    have := nd_ix nd hj h
    omega
  · rw [if_neg hji] at hj
    cases hj
/-- tuple(row) -/
theorem tuple_read {K : PySem.W.Frag} {H : Hp} {a : Addr} {p : Int × Int} {Q : VK} (h : H a = some (tupO p) ∨ H a = some (lstO p)) (q : ∀ (a' : Addr) (H' : Hp), Same H H' → H' a' = some (tupO p) → Q (.ref a') H') :
    ∃ (b : Addr) (ys : List V), [V.ref a] = [V.ref b] ∧ ((SqL K H b ys ∧ ∀ l, H l = none → Q (.ref l) (upd H l (.tup ys))) ∨ (SqT K H b ys ∧ Q (.ref b) H)) := by
  rcases h with h | h
  · exact ⟨a, _, rfl, .inr ⟨SqT.of h, q a H (Same.refl H) h⟩⟩
  · exact ⟨a, _, rfl, .inl ⟨SqL.of h, fun l hl => q l _ (same_new hl _) upd_same⟩⟩
abbrev rTupOf (K : PySem.W.Frag) : List V → Hp → VK → Prop := fun xs H Q => ∃ p ys, xs = [.ref p] ∧ ((SqL K H p ys ∧ ∀ l, H l = none → Q (.ref l) (upd H l (.tup ys))) ∨ (SqT K H p ys ∧ Q (.ref p) H))
theorem tuple_at {K : PySem.W.Frag} {σ : St} {H : Hp} {i : Nat} {a : Addr} {p : Int × Int} {Q : VK} (hx : σ[i]? = some (some (.ref a))) (h : H a = some (tupO p) ∨ H a = some (lstO p)) (q : ∀ (a' : Addr) (H' : Hp), Same H H' → H' a' = some (tupO p) → Q (.ref a') H') :
    tCB (rTupOf K) (tCons (tVar i) tNil) σ H Q := ⟨_, hx, tuple_read h q⟩
theorem sorted_at {K : PySem.W.Frag} {σ : St} {H : Hp} {i : Nat} {a : Addr} {rs : RS} {Q : VK} (hx : σ[i]? = some (some (.ref a))) (hl : SqL K H a (refs rs)) (ht : AllT H rs)
    (q : ∀ (rs' : RS) (p : Addr), AllT H rs' → Srt (prs rs) (prs rs') → rs'.length = rs.length → H p = none → Q (.ref p) (upd H p (.lst (refs rs')))) : tCB (rSortedPO K) (tCons (tVar i) tNil) σ H Q := ⟨_, hx, sorted_read hl ht q⟩
theorem ix_at {K : PySem.W.Frag} {σ : St} {H : Hp} {Q : VK} {i : Nat} {a : Addr} {xs : List V} {z : Int} {v : V} (hx : σ[i]? = some (some (.ref a))) (h : Sq K H a xs) (e : atI xs z = some v) (q : Q v H) : tOp (rIx K) (tVar i) (tC (.int z)) σ H Q := by
  refine ⟨_, hx, ?_⟩
  rcases h with h | h
  · exact .inl ⟨a, xs, _, v, rfl, rfl, h, e, q⟩
  · exact .inr (.inl ⟨a, xs, _, v, rfl, rfl, h, e, q⟩)
/-- tuple(pair) in found -/
theorem in_test {K : PySem.W.Frag} {σ : St} {H : Hp} {i j : Nat} {a p : Addr} {r : Int × Int} {rs : RS} {Q : Bool → Hp → Prop} (hx : σ[i]? = some (some (.ref a))) (hy : σ[j]? = some (some (.ref p))) (hrow : H a = some (tupO r) ∨ H a = some (lstO r))
    (hp : H p = some (.lst (refs rs))) (hT : AllT H rs) (q : ∀ H', Same H H' → Q (decide (r ∈ prs rs)) H') : tTest (tOp (rInD K) (tCB (rTupOf K) (tCons (tVar i) tNil)) (tVar j)) σ H Q := by
  have z := tuple_at (K := K) (Q := fun x H1 => tVar j σ H1 fun y H2 => rInD K x y H2 fun z H' => ∃ k, z = .bl k ∧ Q k H') hx hrow fun a1 H1 s ha1 => by
    refine ⟨_, hy, pairD r, _, dp_pair ha1, .lst (SqL.of (s _ _ hp)) (dp_pairs (hT.same s)), pair_shaped _, lsts_shaped _, _, rfl, ?_⟩
    rw [any_pair]
    exact q H1 s
  exact z
/-- found.append(tuple(pair)) -/
theorem app_row {K : PySem.W.Frag} {σ : St} {H : Hp} {i j : Nat} {a p : Addr} {r : Int × Int} {rs : RS} {Q : VK} (hx : σ[i]? = some (some (.ref a))) (hy : σ[j]? = some (some (.ref p))) (hrow : H a = some (tupO r) ∨ H a = some (lstO r))
    (hp : H p = some (.lst (refs rs))) (hl : rs.length ≤ 100) (q : ∀ a2 H', Same H H' → H' a2 = some (tupO r) → Q .non (upd H' p (.lst (refs rs ++ [.ref a2])))) : tBM K "list" rAppend (tVar j) (tCons (tCB (rTupOf K) (tCons (tVar i) tNil)) tNil) σ H Q := by
  have z := tuple_at (K := K) (Q := fun x H1 => rAppend (.ref p) [x] H1 Q) hx hrow fun a2 H2 s ha2 =>
    ⟨p, _, _, rfl, rfl, s _ _ hp, by rw [refs_length]; exact small1000 (by omega), q a2 H2 s ha2⟩
  exact ⟨.ref p, hy, .inl ⟨rfl, _, SqL.of hp⟩, z⟩
theorem row_sq {K : PySem.W.Frag} {H : Hp} {a : Addr} {p : Int × Int} (h : H a = some (tupO p) ∨ H a = some (lstO p)) : Sq K H a [.int p.1, .int p.2] := h.elim (fun h => .inr (SqT.of h)) fun h => .inl (SqL.of h)

theorem RowsAt.keep {H H' : Hp} {x C dx l : Addr} {fs : List (Str × V)} {ps : List (Int × Int)} (h : RowsAt H l ps) (hx : H x = some (.ins C dx fs)) (k : ∀ b o, H b = some o → b ≠ x → H' b = some o) : RowsAt H' l ps := by
  obtain ⟨rs, h1, h2, h3⟩ := h
  refine ⟨rs, k _ _ h1 (ne_of h1 hx (fun z => by cases z)), fun r hr => ?_, h3⟩
  rcases h2 r hr with q | q
  · exact .inl (k _ _ q (ne_of q hx (fun z => by unfold tupO at z; cases z)))
  · exact .inr (k _ _ q (ne_of q hx (fun z => by unfold lstO at z; cases z)))
theorem TupsAt.keep {H H' : Hp} {x C dx t : Addr} {fs : List (Str × V)} {ps : List (Int × Int)} (h : TupsAt H t ps) (hx : H x = some (.ins C dx fs)) (k : ∀ b o, H b = some o → b ≠ x → H' b = some o) : TupsAt H' t ps := by
  obtain ⟨rs, h1, h2, h3⟩ := h
  exact ⟨rs, k _ _ h1 (ne_of h1 hx (fun z => by cases z)), fun r hr => k _ _ (h2 r hr) (ne_of (h2 r hr) hx (fun z => by unfold tupO at z; cases z)), h3⟩

section
variable {P : Program} {w : World} {K : PySem.W.Frag} {mg : Str → Option Value} {base : Heap}
theorem scPairsOf : FnScope ["count", "pairs", "found", "pair"] ["count", "pairs"] (defScope sPairsOf) := ⟨rfl, rfl, rfl, by decide +kernel, rfl, by decide +kernel, by decide +kernel⟩
theorem ok_pairsof {f : Addr} {fd : FuncData} (F : Fun K "pairs_of" "pairs_of" sPairsOf f fd) (N : Nm mg) : FnOk P w K mg base CX0 1 f fd ["count", "pairs"] spPairsOf := by
  refine F.ok scPairsOf (fun vs H Q E h => ?_) (fun cdv A outer s H vs Q E hr h => ?_)
  · obtain ⟨c, l, ps, rfl, _⟩ := h
    rfl
  obtain ⟨c, l, ps, rfl, ⟨rs, r1, r2, r3⟩, g, hps, q⟩ := h
  refine ⟨_, pss_cons (ps_set (i := 2) scPairsOf.nd rfl (.inl rfl) (pe_lst pa_nil))
    (pss_cons (ps_for PassesOwn.never rfl (pi_list (pv 1)) (pg_name (i := 3) scPairsOf.nd rfl (.inl rfl))
      (pss_cons (ps_if (PW.pt (pw_or (pt_cmpR op_ne (pe_callB call_len_seq rfl N.len PySem.boot_len (pa_cons (pv 3) pa_nil)) pe_int (nomark _))
          (pw_or (pt_cmpR op_lt (pe_ix ix_seq (pv 3) pe_int (fun _ _ => rfl)) pe_int (nomark _))
          (pw_or (pt_cmpR op_le (pe_ix ix_seq (pv 3) pe_int (fun _ _ => rfl)) (pe_ix ix_seq (pv 3) pe_int (fun _ _ => rfl)) (nomark _))
          (pw_or (pt_cmpR op_ge (pe_ix ix_seq (pv 3) pe_int (fun _ _ => rfl)) (pv 0) (nomark _))
          (pw_or1 (pt_cmpR (op_inD (hu65 hr)) (pe_callTy call_tuple_of rfl N.tuple PyProof.Rows.boot_tuple (pa_cons (pv 3) pa_nil)) (pv 2) rfl))))))) pss_never pss_nil)
      (pss_one (ps_expr (pe_bm PySem.F.plainAttrs_list PySem.F.slot_list_append PySem.F.type_list_append mt_append (pv 2) (pa_cons (pe_callTy call_tuple_of rfl N.tuple PyProof.Rows.boot_tuple (pa_cons (pv 3) pa_nil)) pa_nil))))))
    (pss_one (ps_ret (pe_callTy call_tuple_of rfl N.tuple PyProof.Rows.boot_tuple (pa_cons (pe_callB cr_sortedPO rfl N.sorted PyProof.Rows.boot_sorted (pa_cons (pv 2) pa_nil)) pa_nil))))), ?_⟩
  refine ⟨(by show 0 ≤ sizeLine; decide), fun p hp => ?_⟩
  have s0 : Same H (upd H p (.lst [])) := same_new hp _
  refine ⟨_, rfl, l, rfl, ⟨_, SqL.of (s0 _ _ r1)⟩, ?_⟩
  refine for_list (K := K) (a := l) (xs := refs rs) (fun i σ H' => ∃ (rs' : RS) (v : Option V), σ = [some (.int c), some (.ref l), some (.ref p), v] ∧ Same H H' ∧ H' p = some (.lst (refs rs')) ∧ AllT H' rs' ∧ prs rs' = ps.take i)
    ⟨[], none, rfl, s0, upd_same, AllT.nil, rfl⟩ (fun i σ H' _ ⟨_, _, _, h, _⟩ => SqL.of (h _ _ r1)) ?_ ?_
  · rintro i x σ H' hi ⟨rs', v, rfl, s1, h1, h2, h3⟩
    obtain ⟨r, hr0, rfl⟩ := refs_at hi
    have hrow := r2.same s1 r (List.mem_of_getElem? hr0)
    have hsq := row_sq (K := K) hrow
    have ep : ps[i]? = some r.2 := by
      rw [← r3]
      unfold prs
      rw [List.getElem?_map, hr0]
      rfl
    have hl := g.lt _ (List.mem_of_getElem? ep)
    have hlen : rs'.length ≤ 100 := by
      have e := congrArg List.length h3
      rw [prs_length, List.length_take] at e
      omega
    -- nothing is refused
    refine ⟨_, rfl, r.1, _, rfl, hsq, rfl, _, rfl, ?_⟩
    refine iteF ?_
    refine ix_at (K := K) rfl hsq rfl ?_
    refine ⟨_, _, rfl, rfl, _, rfl, ?_⟩
    rw [decide_eq_false (show ¬ r.2.1 < 0 by omega)]
    refine iteF ?_
    refine ix_at (K := K) rfl hsq rfl ?_
    refine ix_at (K := K) rfl hsq rfl ?_
    refine ⟨_, _, rfl, rfl, _, rfl, ?_⟩
    rw [decide_eq_false (show ¬ r.2.2 ≤ r.2.1 by omega)]
    refine iteF ?_
    refine ix_at (K := K) rfl hsq rfl ?_
    refine ⟨_, rfl, _, _, rfl, rfl, _, rfl, ?_⟩
    rw [decide_eq_false (show ¬ c ≤ r.2.2 by omega)]
    refine iteF ?_
    refine in_test (K := K) rfl rfl hrow h1 h2 fun H1 s2 => ?_
    rw [decide_eq_false (by rw [h3]; exact fresh_at g.nd ep)]
    refine iteF ?_
    refine app_row (K := K) rfl rfl ((r2.same (s1.trans s2)) r (List.mem_of_getElem? hr0)) (s2 _ _ h1) hlen fun a2 H2 s3 ha2 => ?_
    have h1' := s3 _ _ (s2 _ _ h1)
    refine ⟨rs' ++ [(a2, r.2)], _, rfl, fun b o e => ?_, ?_, ?_, ?_⟩
    · rw [upd_ne (ne_of_none e hp)]
      exact s3 _ _ (s2 _ _ (s1 _ _ e))
    · rw [upd_same, refs_snoc]
    · refine (((h2.same s2).same s3).upd h1').snoc ?_
      show upd _ p _ a2 = _
      rw [upd_ne (ne_of ha2 h1' (fun z => by unfold tupO at z; cases z))]
      exact ha2
    · rw [prs_snoc, h3, List.take_add_one, ep]
      rfl
  · rintro σ H' ⟨rs', v, rfl, s1, h1, h2, h3⟩
    have e3 : prs rs' = ps := by
      rw [h3, refs_length, ← prs_length, r3, List.take_of_length_le (Nat.le_refl _)]
    refine sorted_at (K := K) rfl (SqL.of h1) h2 fun rs2 lp t2 srt _ hlp => ?_
    refine ⟨lp, _, rfl, .inl ⟨SqL.of upd_same, fun t ht => ?_⟩⟩
    have sl := same_new hlp (.lst (refs rs2))
    have st := same_new ht (.tup (refs rs2))
    rw [e3] at srt
    exact q t (prs rs2) _ (s1.trans (sl.trans st)) ⟨rs2, upd_same, t2.same (sl.trans st), rfl⟩ srt

theorem pf_ties (c : Int) (t1 : Addr) : (putF "ties" (V.ref t1) (putF "count" (V.int c) [])).lookup ("ties" : Str) = some (.ref t1) := by
  rw [lookup_putF, if_pos rfl]
theorem scInit : FnScope ["self", "count", "ties", "bows"] ["self", "count", "ties", "bows"] (defScope sInit) := ⟨rfl, rfl, rfl, by decide +kernel, rfl, by decide +kernel, by decide +kernel⟩
theorem ok_init {f C fP : Addr} {fd fdP : FuncData} {k1 k2 : Tok} (F : Fun K "__init__" "Drawing.__init__" sInit f fd) (N : Nm mg) (X : Tx K mg C) (m1 : mg "MOST_NAMES" = some (.int 6 k1)) (m2 : mg "MOST_BOWS" = some (.int 6 k2))
    (G : Callee P w K mg base "pairs_of" 1 fP fdP ["count", "pairs"] spPairsOf) : FnOk P w K mg base CX0 2 f fd ["self", "count", "ties", "bows"] (spInit C) := by
  refine F.ok scInit (fun vs H Q E h => ?_) (fun cdv A outer s H vs Q E hr h => ?_)
  · obtain ⟨x, dx, l1, l2, c, T0, B0, rfl, _⟩ := h
    rfl
  obtain ⟨x, dx, l1, l2, c, T0, B0, rfl, hx, ⟨c1, c6⟩, hT, hB, gT, gB, lT, lB, q⟩ := h
  refine ⟨_, pss_cons (ps_if (PW.pt (pw_or (pt_cmpR op_lt (pv 1) pe_int (nomark _)) (pw_or1 (pt_cmpR op_gt (pv 1) (pe_glob (v := .int 6) rfl m1 ⟨_, rfl⟩) (nomark _))))) pss_never pss_nil)
    (pss_cons (ps_fld (pv 0) (pv 1) rfl)
    (pss_cons (ps_fld (pv 0) (pe_call G.ok hr rfl G.m G.kp G.b .nil pass0 (pa_cons (pv 1) (pa_cons (pv 2) pa_nil))) rfl)
    (pss_cons (ps_if (pt_cmpR op_isN (pe_fld (pv 0) rfl) pe_non (nomark _)) pss_never pss_nil)
    (pss_cons (ps_fld (pv 0) (pe_call G.ok hr rfl G.m G.kp G.b .nil pass0 (pa_cons (pv 1) (pa_cons (pv 3) pa_nil))) rfl)
    (pss_one (ps_if (PW.pt (pw_or (pt_cmpR op_isN (pe_fld (pv 0) rfl) pe_non (nomark _))
      (pw_or1 (pt_cmpR op_gt (pe_callB call_len_seq rfl N.len PySem.boot_len (pa_cons (pe_fld (pv 0) rfl) pa_nil)) (pe_glob (v := .int 6) rfl m2 ⟨_, rfl⟩) (nomark _))))) pss_never pss_nil)))))), ?_⟩
  -- the count
  refine ⟨_, rfl, _, _, rfl, rfl, _, rfl, ?_⟩
  rw [decide_eq_false (show ¬ c < 1 by omega)]
  refine iteF ⟨_, rfl, _, _, rfl, rfl, _, rfl, ?_⟩
  rw [decide_eq_false (show ¬ (6 : Int) < c by omega)]
  refine iteF ?_
  refine ⟨_, rfl, _, rfl, x, C, dx, [], rfl, hx, X.cl, X.nCount, (by show 0 < 1000; decide), ?_⟩
  have k1' : ∀ b o, H b = some o → b ≠ x → (upd H x (.ins C dx (putF "count" (.int c) []))) b = some o := fun b o e n => by rw [upd_ne n]; exact e
  -- the ties
  refine ⟨_, rfl, _, rfl, c, l1, T0, rfl, hT.keep hx k1', gT, lT, fun t1 T H2 s2 tT sT => ?_⟩
  have x2 := s2 _ _ (upd_same (H := H) (a := x) (o := .ins C dx (putF "count" (.int c) [])))
  refine ⟨_, rfl, x, C, dx, _, rfl, x2, X.cl, X.nTies, (by show 1 < 1000; decide), ?_⟩
  have k2' : ∀ b o, H2 b = some o → b ≠ x → (upd H2 x (.ins C dx (putF "ties" (.ref t1) (putF "count" (.int c) [])))) b = some o := fun b o e n => by rw [upd_ne n]; exact e
  refine ⟨_, rfl, x, C, dx, _, _, rfl, upd_same, X.cl, X.nTies, pf_ties _ _, rfl, _, rfl, ?_⟩
  rw [decide_eq_false (show ¬ V.ref t1 = V.non by intro z; cases z)]
  refine iteF ?_
  -- the bows
  have hB2 : RowsAt (upd H2 x (.ins C dx (putF "ties" (.ref t1) (putF "count" (.int c) [])))) l2 B0 := ((hB.keep hx k1').same s2).keep x2 k2'
  have tT2 : TupsAt (upd H2 x (.ins C dx (putF "ties" (.ref t1) (putF "count" (.int c) [])))) t1 T := tT.keep x2 k2'
  refine ⟨_, rfl, _, rfl, c, l2, B0, rfl, hB2, gB, by omega, fun t2 B H3 s3 tB sB => ?_⟩
  have x3 := s3 _ _ (upd_same (H := H2) (a := x) (o := .ins C dx (putF "ties" (.ref t1) (putF "count" (.int c) []))))
  refine ⟨_, rfl, x, C, dx, _, rfl, x3, X.cl, X.nBows, (by show 2 < 1000; decide), ?_⟩
  have k3' : ∀ b o, H3 b = some o → b ≠ x → (upd H3 x (.ins C dx (df c t1 t2))) b = some o := fun b o e n => by rw [upd_ne n]; exact e
  have tB3 : TupsAt (upd H3 x (.ins C dx (df c t1 t2))) t2 B := tB.keep x3 k3'
  have tT3 : TupsAt (upd H3 x (.ins C dx (df c t1 t2))) t1 T := (tT2.same s3).keep x3 k3'
  obtain ⟨rb, b1, b2, b3⟩ := tB3
  refine ⟨_, rfl, x, C, dx, _, _, rfl, upd_same, X.cl, X.nBows, df_bows c t1 t2, rfl, _, rfl, ?_⟩
  rw [decide_eq_false (show ¬ V.ref t2 = V.non by intro z; cases z)]
  have lB' : (refs rb).length ≤ 6 := by
    rw [refs_length, ← prs_length, b3, sB.perm.length_eq]
    exact lB
  refine iteF ⟨_, rfl, x, C, dx, _, _, rfl, upd_same, X.cl, X.nBows, df_bows c t1 t2, t2, _, rfl, .inr (SqT.of b1), _, _, rfl, rfl, _, rfl, ?_⟩
  rw [decide_eq_false (show ¬ (6 : Int) < (((refs rb).length : Nat) : Int) by omega)]
  refine iteF ?_
  exact q T B _ (fun b o e n => k3' _ _ (s3 _ _ (k2' _ _ (s2 _ _ (k1' _ _ e n)) n)) n) ⟨dx, t1, t2, upd_same, tT3, rb, b1, b2, b3⟩ sT sB
end
end Dr

/-! The law's look at a drawing. -/
namespace Dr
open PySem L2

/-- a method as its callers have it -/
structure Mcal (P : Program) (w : World) (K : PySem.W.Frag) (mg : Str → Option Value) (base : Heap) (C : Addr) (m : Str) (k : Nat) (f : Addr) (fd : FuncData) (ps : List Str) (sp : Sp) : Prop where
  ok : FnOk P w K mg base CX0 k f fd ps sp
  m : Meth K C m f
  b : Binds K fd ps []
def spRight (C : Addr) : Sp := fun vs H Q _ => ∃ (x u t1 t2 : Addr) (c : Int) (T B : List (Int × Int)), vs = [.ref x, .ref u] ∧ DrawAt C H x c T B ∧ H u = some (.tup [.int c, .ref t1, .ref t2]) ∧ TupsAt H t1 T ∧ TupsAt H t2 B ∧
  Good c T ∧ T.Pairwise lt2 ∧ T.length ≤ 100 ∧ B.length ≤ 100 ∧ (1 ≤ c ∧ c ≤ 6) ∧ ∀ H', Same H H' → Q (.bl true) H'

theorem ok_due {c : Int} {T B : List (Int × Int)} (hT : T.length ≤ 100) (hB : B.length ≤ 100) : okD 3 (dueD c T B) := by
  refine ⟨by show 3 ≤ 100; decide, fun d hd => ?_⟩
  have h : d = .int c ∨ d = tupsD T ∨ d = tupsD B := by simpa using hd
  rcases h with rfl | rfl | rfl
  · exact True.intro
  · exact ok_tups 0 hT
  · exact ok_tups 0 hB
theorem ok_dueL {c : Int} {T B : List (Int × Int)} (hT : T.length ≤ 100) (hB : B.length ≤ 100) : okD 3 (.list [.int c, tupsD T, tupsD B]) := ok_due hT hB
theorem ok_ints {ns : List Int} (h : ns.length ≤ 100) : okD 3 (.tuple (ns.map PyData.int)) := by
  refine ⟨by rw [List.length_map]; exact h, fun d hd => ?_⟩
  obtain ⟨n, _, rfl⟩ := List.mem_map.mp hd
  exact True.intro
/-- (u, n) in ties -/
theorem tie_test {K : PySem.W.Frag} {σ : St} {H : Hp} {i j k : Nat} {t : Addr} {a b : Int} {T : List (Int × Int)} {Q : Bool → Hp → Prop} (hx : σ[i]? = some (some (.int a))) (hy : σ[j]? = some (some (.int b))) (ht : σ[k]? = some (some (.ref t))) (hT : TupsAt H t T)
    (q : ∀ H', Same H H' → Q (decide ((a, b) ∈ T)) H') : tTest (tOp (rInT K) (tTup (tCons (tVar i) (tCons (tVar j) tNil))) (tVar k)) σ H Q := by
  refine ⟨_, hx, _, hy, (by show 2 ≤ sizeLine; decide), fun p hp => ?_⟩
  have s := same_new hp (.tup [.int a, .int b])
  refine ⟨_, ht, pairD (a, b), T.map pairD, dp_pair upd_same, dp_tups (hT.same s), pair_shaped _, tups_shaped _, _, rfl, ?_⟩
  rw [any_pair]
  exact q _ s

section
variable {P : Program} {w : World} {K : PySem.W.Frag} {mg : Str → Option Value} {base : Heap}
abbrev nmRight : List Str := ["_law_drawing", "_law_due", "_law_count", "_law_ties", "_law_bows", "_law_name", "_law_u", "_law_v"]
theorem scRight : FnScope nmRight ["_law_drawing", "_law_due"] (defScope sRight) := ⟨rfl, rfl, rfl, by decide +kernel, rfl, by decide +kernel, by decide +kernel⟩
theorem ok_right {f C fS f1 f2 f3 : Addr} {fd fdS fd1 fd2 fd3 : FuncData} (F : Fun K "_law_right" "_law_right" sRight f fd) (N : Nm mg) (X : Tx K mg C) (S : Callee P w K mg base "_law_same" 4 fS fdS ["_law_found", "_law_due"] (spSame K 3))
    (M1 : Mcal P w K mg base C "sources" 3 f1 fd1 ["self", "name"] (spSour C)) (M2 : Mcal P w K mg base C "followers" 3 f2 fd2 ["self", "name"] (spFoll C)) (M3 : Mcal P w K mg base C "shape" 1 f3 fd3 ["self"] (spShape K C)) :
    FnOk P w K mg base CX0 5 f fd ["_law_drawing", "_law_due"] (spRight C) := by
  refine F.ok scRight (fun vs H Q E h => ?_) (fun cdv A outer s H vs Q E hr h => ?_)
  · obtain ⟨x, u, t1, t2, c, T, B, rfl, _⟩ := h
    rfl
  obtain ⟨x, u, t1, t2, c, T, B, rfl, hD, hu, hT, hB, gT, sT, lT, lB, ⟨c1, c6⟩, q⟩ := h
  have hr3 := hr.mono (show 3 ≤ 4 by decide)
  have hr1 := hr.mono (show 1 ≤ 4 by decide)
  refine ⟨_, pss_cons (ps_asg (pv 1) (pg_tup rfl (pgs_cons (pg_name (i := 2) scRight.nd rfl (.inl rfl)) (pgs_cons (pg_name (i := 3) scRight.nd rfl (.inr rfl)) (pgs_cons (pg_name (i := 4) scRight.nd rfl (.inl rfl)) pgs_nil)))))
    (pss_cons (ps_if (pt_not (pt_val (pe_call S.ok hr rfl S.m S.kp S.b .nil pass0 (pa_cons (pe_lst (pa_cons (pe_fld (pv 0) rfl) (pa_cons (pe_fld (pv 0) rfl) (pa_cons (pe_fld (pv 0) rfl) pa_nil))))
        (pa_cons (pe_callTy call_list_of rfl N.list PyProof.Rows.boot_list (pa_cons (pv 1) pa_nil)) pa_nil))))) pss_never pss_nil)
    (pss_cons (ps_for PassesOwn.never rfl (pi_range1 rfl N.range (pa_cons (pv 2) pa_nil)) (pg_name (i := 5) scRight.nd rfl (.inr rfl))
      (pss_cons (ps_if (pt_not (pt_val (pe_call S.ok hr rfl S.m S.kp S.b .nil pass0 (pa_cons (pe_meth (pv 0) X.cl M1.m M1.ok hr3 M1.b .nil pass0 (pa_cons (pv 5) pa_nil))
          (pa_cons (pe_callTy call_tuple_of rfl N.tuple PyProof.Rows.boot_tuple (pa_cons (pe_lc (own := [("_law_u", 6)]) (g := gName 6) rfl scRight.nd (pi_range1 rfl N.range (pa_cons (pv 5) pa_nil)) (blkOk_by (N := nmRight) (sc := defScope sRight) (by decide +kernel))
            (fun _ _ _ _ _ => pg_name (i := 6) scRight.nd rfl (.inl rfl)) (fun _ _ _ _ _ => pts_one (pt_cmpR (r := rInT K) (op_inT (hu65 hr)) (pe_tup (pa_cons (pv 6) (pa_cons (pv 5) pa_nil))) (pv 3) rfl)) (fun _ _ _ _ _ => pv 6)) pa_nil)) pa_nil))))) pss_never pss_nil)
      (pss_one (ps_if (pt_not (pt_val (pe_call S.ok hr rfl S.m S.kp S.b .nil pass0 (pa_cons (pe_meth (pv 0) X.cl M2.m M2.ok hr3 M2.b .nil pass0 (pa_cons (pv 5) pa_nil))
          (pa_cons (pe_callTy call_tuple_of rfl N.tuple PyProof.Rows.boot_tuple (pa_cons (pe_lc (own := [("_law_v", 7)]) (g := gName 7) rfl scRight.nd (pi_range1 rfl N.range (pa_cons (pv 2) pa_nil)) (blkOk_by (N := nmRight) (sc := defScope sRight) (by decide +kernel))
            (fun _ _ _ _ _ => pg_name (i := 7) scRight.nd rfl (.inl rfl)) (fun _ _ _ _ _ => pts_one (pt_cmpR (r := rInT K) (op_inT (hu65 hr)) (pe_tup (pa_cons (pv 5) (pa_cons (pv 7) pa_nil))) (pv 3) rfl)) (fun _ _ _ _ _ => pv 7)) pa_nil)) pa_nil))))) pss_never pss_nil))))
    (pss_one (ps_ret (pe_and (pe_call S.ok hr rfl S.m S.kp S.b .nil pass0 (pa_cons (pe_meth0 (pv 0) X.cl M3.m M3.ok hr1 M3.b .nil pass0) (pa_cons (pv 1) pa_nil)))
      (pe_one (pe_call S.ok hr rfl S.m S.kp S.b .nil pass0 (pa_cons (pe_meth0 (pv 0) X.cl M3.m M3.ok hr1 M3.b .nil pass0) (pa_cons (pv 1) pa_nil))))))))), ?_⟩
  -- the three of what is due
  refine ⟨_, rfl, u, _, rfl, SqT.of hu, rfl, _, _, rfl, _, _, rfl, _, _, rfl, rfl, ?_⟩
  -- count, ties and bows
  obtain ⟨dx, d1, d2, hx, hT1, hB1⟩ := id hD
  refine ⟨_, rfl, x, C, dx, _, _, rfl, hx, X.cl, X.nCount, df_count _ _ _, ?_⟩
  refine ⟨_, rfl, x, C, dx, _, _, rfl, hx, X.cl, X.nTies, df_ties _ _ _, ?_⟩
  refine ⟨_, rfl, x, C, dx, _, _, rfl, hx, X.cl, X.nBows, df_bows _ _ _, (by show 3 ≤ sizeLine; decide), fun p hp => ?_⟩
  have s1 := same_new hp (.lst [.int c, .ref d1, .ref d2])
  refine ⟨_, rfl, u, _, rfl, .inr (SqT.of (s1 _ _ hu)), fun l hl => ?_⟩
  have s2 := same_new hl (.lst [.int c, .ref t1, .ref t2])
  have s12 := s1.trans s2
  refine ⟨.ref p, .ref l, .list [.int c, tupsD T, tupsD B], rfl, .lst (SqL.of (s2 _ _ upd_same)) (.cons (.int c) (.cons (dp_tups (hT1.same s12)) (.cons (dp_tups (hB1.same s12)) .nil))),
    .lst (SqL.of upd_same) (.cons (.int c) (.cons (dp_tups (hT.same s12)) (.cons (dp_tups (hB.same s12)) .nil))), ok_dueL lT lB, true, rfl, iteF ?_⟩
  -- each name
  refine ⟨_, rfl, c, rfl, by omega, by omega, ?_⟩
  refine for_range (lo := 0) (n := c.toNat) (fun i σ H' => ∃ (v : Option V), σ = [some (.ref x), some (.ref u), some (.int c), some (.ref t1), some (.ref t2), v, none, none] ∧ Same H H') ⟨none, rfl, s12⟩ ?_ ?_
  · rintro i σ H1 hi ⟨v, rfl, s3⟩
    rw [Int.zero_add]
    have i0 : (0 : Int) ≤ (i : Int) := by omega
    have ic : (i : Int) < c := by omega
    have hx1 := s3 _ _ hx
    -- its sources
    refine ⟨_, rfl, x, dx, _, rfl, hx1, df_no _ _ _ (by decide +kernel) (by decide +kernel) (by decide +kernel), _, rfl, ?_⟩
    refine ⟨x, c, (i : Int), T, B, rfl, hD.same s3, i0, ic, lT, fun ts H2 s4 hts => ?_⟩
    have s34 := s3.trans s4
    refine ⟨_, rfl, (i : Int), rfl, by omega, by omega, fun D hD0 => ?_⟩
    refine lc_range (lo := 0) (n := (i : Int).toNat) (fun k H' => Same H2 H' ∧ H' D = some (.lst ((pick k fun a => decide ((a, (i : Int)) ∈ T)).map V.int))) ⟨same_new hD0 _, upd_same⟩ ?_ ?_
    · rintro k H3 hk ⟨s5, h5⟩
      rw [Int.zero_add]
      refine ⟨rfl, ?_⟩
      refine tie_test (K := K) rfl rfl rfl (hT.same (s34.trans s5)) fun H4 s6 => ?_
      refine ite2 (fun e => ?_) (fun e => ?_)
      · have hlen := pick_length k fun a => decide ((a, (i : Int)) ∈ T)
        refine ⟨_, rfl, _, s6 _ _ h5, small1000 (by rw [List.length_map]; omega), fun b o z => ?_, ?_⟩
        · rw [upd_ne (ne_of_none z hD0)]
          exact s6 _ _ (s5 _ _ z)
        · rw [upd_same, pick_succ, if_pos e, List.map_append]
          rfl
      · refine ⟨s5.trans s6, ?_⟩
        rw [pick_succ, if_neg e]
        exact s6 _ _ h5
    rintro H3 ⟨s5, h5⟩
    refine ⟨D, _, rfl, .inl ⟨SqL.of h5, fun t' ht' => ?_⟩⟩
    have st := same_new ht' (.tup ((pick (i : Int).toNat fun a => decide ((a, (i : Int)) ∈ T)).map V.int))
    rw [sour_eq sT gT i0] at st ⊢
    have lso : (sour T (i : Int)).length ≤ 100 := Nat.le_trans (sour_len _ _) lT
    refine ⟨.ref ts, .ref t', .tuple ((sour T (i : Int)).map PyData.int), rfl, .tup (SqT.of (st _ _ (s5 _ _ hts))) (dp_ints _), .tup (SqT.of upd_same) (dp_ints _), ok_ints lso, true, rfl, iteF ?_⟩
    have s6 : Same H _ := s34.trans (s5.trans st)
    have hx2 := s6 _ _ hx
    -- its followers
    refine ⟨_, rfl, x, dx, _, rfl, hx2, df_no _ _ _ (by decide +kernel) (by decide +kernel) (by decide +kernel), _, rfl, ?_⟩
    refine ⟨x, c, (i : Int), T, B, rfl, hD.same s6, i0, ic, lT, fun tf H5 s7 htf => ?_⟩
    have s67 := s6.trans s7
    refine ⟨_, rfl, c, rfl, by omega, by omega, fun D2 hD2 => ?_⟩
    refine lc_range (lo := 0) (n := c.toNat) (fun k H' => Same H5 H' ∧ H' D2 = some (.lst ((pick k fun a => decide (((i : Int), a) ∈ T)).map V.int))) ⟨same_new hD2 _, upd_same⟩ ?_ ?_
    · rintro k H6 hk ⟨s8, h8⟩
      rw [Int.zero_add]
      refine ⟨rfl, ?_⟩
      refine tie_test (K := K) rfl rfl rfl (hT.same (s67.trans s8)) fun H7 s9 => ?_
      refine ite2 (fun e => ?_) (fun e => ?_)
      · have hlen := pick_length k fun a => decide (((i : Int), a) ∈ T)
        refine ⟨_, rfl, _, s9 _ _ h8, small1000 (by rw [List.length_map]; omega), fun b o z => ?_, ?_⟩
        · rw [upd_ne (ne_of_none z hD2)]
          exact s9 _ _ (s8 _ _ z)
        · rw [upd_same, pick_succ, if_pos e, List.map_append]
          rfl
      · refine ⟨s8.trans s9, ?_⟩
        rw [pick_succ, if_neg e]
        exact s9 _ _ h8
    rintro H6 ⟨s8, h8⟩
    refine ⟨D2, _, rfl, .inl ⟨SqL.of h8, fun t2' ht2' => ?_⟩⟩
    have st2 := same_new ht2' (.tup ((pick c.toNat fun a => decide (((i : Int), a) ∈ T)).map V.int))
    rw [foll_eq sT gT (i : Int)] at st2 ⊢
    have lfo : (foll T (i : Int)).length ≤ 100 := Nat.le_trans (foll_len _ _) lT
    refine ⟨.ref tf, .ref t2', .tuple ((foll T (i : Int)).map PyData.int), rfl, .tup (SqT.of (st2 _ _ (s8 _ _ htf))) (dp_ints _), .tup (SqT.of upd_same) (dp_ints _), ok_ints lfo, true, rfl, iteF ?_⟩
    exact ⟨_, rfl, s67.trans (s8.trans st2)⟩
  · rintro σ H1 ⟨v, rfl, s3⟩
    -- the shape, twice
    refine ⟨_, rfl, x, dx, _, rfl, s3 _ _ hx, df_no _ _ _ (by decide +kernel) (by decide +kernel) (by decide +kernel), x, c, T, B, rfl, hD.same s3, fun ta H2 s4 da => ?_⟩
    have s34 := s3.trans s4
    refine ⟨_, rfl, .ref ta, .ref u, dueD c T B, rfl, da, dp_due (SqT.of (s34 _ _ hu)) (hT.same s34) (hB.same s34), ok_due lT lB, true, rfl, iteT ?_⟩
    refine ⟨_, rfl, x, dx, _, rfl, s34 _ _ hx, df_no _ _ _ (by decide +kernel) (by decide +kernel) (by decide +kernel), x, c, T, B, rfl, hD.same s34, fun tb H3 s5 db => ?_⟩
    have s345 := s34.trans s5
    refine ⟨_, rfl, .ref tb, .ref u, dueD c T B, rfl, db, dp_due (SqT.of (s345 _ _ hu)) (hT.same s345) (hB.same s345), ok_due lT lB, ?_⟩
    exact q _ s345
end
end Dr

/-! The law itself. -/
namespace Dr
open PySem L2

def spLaw (K : PySem.W.Frag) : Sp := fun vs H Q _ => ∃ (a : Addr) (ns : List Int), vs = [.ref a] ∧ SqL K H a (ns.map V.int) ∧ ns.length ≤ 63 ∧ ∀ H', Q (.bl true) H'

/-- tuple(sorted(list of pairs)), the first of some arguments -/
theorem tsort_cons {K : PySem.W.Frag} {σ : St} {H : Hp} {i : Nat} {l : Addr} {ps : List (Int × Int)} {tr : TA} {Q : List V → Hp → Prop} (hx : σ[i]? = some (some (.ref l))) (h : PairsAt H l ps)
    (q : ∀ (t : Addr) (qs : List (Int × Int)) (H' : Hp), Same H H' → TupsAt H' t qs → Srt ps qs → tr σ H' fun xs H2 => Q (.ref t :: xs) H2) : tCons (tCB (rTupOf K) (tCons (tCB (rSortedPO K) (tCons (tVar i) tNil)) tNil)) tr σ H Q := by
  obtain ⟨rs, h1, h2, rfl⟩ := h
  have z := sorted_at (K := K) (Q := fun x H1 => rTupOf K [x] H1 fun y H2 => tr σ H2 fun xs H3 => Q (y :: xs) H3) hx (SqL.of h1) h2 fun rs2 lp t2 srt _ hlp =>
    ⟨lp, _, rfl, .inl ⟨SqL.of upd_same, fun t ht => q t (prs rs2) _ ((same_new hlp _).trans (same_new ht _)) ⟨rs2, upd_same, t2.same ((same_new hlp _).trans (same_new ht _)), rfl⟩ srt⟩⟩
  exact z

/-! ### the rows' data -/
theorem row_data {K : PySem.W.Frag} {H : Hp} : ∀ {rs : RS}, AllR H rs → ∃ ds : List PyData, DpAll K H (refs rs) ds ∧ ds.length = rs.length ∧ ∀ d ∈ ds, okD 1 d
  | [], _ => ⟨[], .nil, rfl, (fun _ h => nomatch h)⟩
  | r :: rs, h => by
    obtain ⟨ds, h1, h2, h3⟩ := row_data (K := K) (rs := rs) fun x hx => h x (List.mem_cons_of_mem _ hx)
    rcases h r List.mem_cons_self with q | q
    · refine ⟨pairD r.2 :: ds, .cons (dp_pair q) h1, by rw [List.length_cons, List.length_cons, h2], fun d hd => ?_⟩
      rcases List.mem_cons.mp hd with rfl | hd
      · exact ok_pair 0 _
      · exact h3 d hd
    · refine ⟨.list [.int r.2.1, .int r.2.2] :: ds, .cons (.lst (SqL.of q) (.cons (.int _) (.cons (.int _) .nil))) h1, by rw [List.length_cons, List.length_cons, h2], fun d hd => ?_⟩
      rcases List.mem_cons.mp hd with rfl | hd
      · exact ok_pair 0 r.2
      · exact h3 d hd

/-! ### what stays behind the reversing -/
/-- all but the two lists and the pairs in lists is as it was -/
def Lax (h0 h1 : Addr) (H H' : Hp) : Prop := ∀ b o, H b = some o → b ≠ h0 → b ≠ h1 → H' b = some o ∨ ((∃ p, o = lstO p) ∧ ∃ p, H' b = some (lstO p))
theorem Lax.refl (h0 h1 : Addr) (H : Hp) : Lax h0 h1 H H := fun _ _ e _ _ => .inl e
theorem Lax.stay {h0 h1 b : Addr} {H H' : Hp} {xs ys : List V} {o : HO} (L : Lax h0 h1 H H') (e0 : H h0 = some (.lst xs)) (e1 : H h1 = some (.lst ys)) (e : H b = some o) (no : ∀ zs, o ≠ .lst zs) : H' b = some o := by
  rcases L b o e (ne_of e e0 (no _)) (ne_of e e1 (no _)) with q | ⟨⟨p, q⟩, _⟩
  · exact q
  · exact absurd q (no _)
theorem Lax.list {h0 h1 b : Addr} {H H' : Hp} {rs : RS} (L : Lax h0 h1 H H') (n0 : b ≠ h0) (n1 : b ≠ h1) (e : H b = some (.lst (refs rs))) : H' b = some (.lst (refs rs)) := by
  rcases L b _ e n0 n1 with q | ⟨⟨p, q⟩, _⟩
  · exact q
  · exact absurd q.symm (lst_ne _ _)
theorem Lax.row {h0 h1 : Addr} {H H' : Hp} {rs0 rs1 rs : RS} (L : Lax h0 h1 H H') (e0 : H h0 = some (.lst (refs rs0))) (e1 : H h1 = some (.lst (refs rs1))) (h : AllR H rs) {r : Addr × (Int × Int)} (hr : r ∈ rs) :
    H' r.1 = some (tupO r.2) ∨ ((∃ p, H r.1 = some (lstO p)) ∧ ∃ p, H' r.1 = some (lstO p)) := by
  rcases h r hr with q | q
  · exact .inl (L.stay e0 e1 q fun zs z => by unfold tupO at z; cases z)
  · rcases L _ _ q (ne_of q e0 (lst_ne _ _)) (ne_of q e1 (lst_ne _ _)) with z | ⟨_, z⟩
    · exact .inr ⟨⟨_, q⟩, _, z⟩
    · exact .inr ⟨⟨_, q⟩, z⟩
theorem Lax.turn {h0 h1 a : Addr} {H H' : Hp} {p q : Int × Int} (L : Lax h0 h1 H H') (e : H a = some (lstO p)) : Lax h0 h1 H (upd H' a (lstO q)) := fun b o hb n0 n1 => by
  by_cases z : b = a
  · subst z
    rw [e] at hb
    cases hb
    exact .inr ⟨⟨p, rfl⟩, q, upd_same⟩
  · rw [upd_ne z]
    exact L b o hb n0 n1
theorem Lax.clear {h0 h1 a : Addr} {H H' : Hp} {o : HO} (L : Lax h0 h1 H H') (e : a = h0 ∨ a = h1) : Lax h0 h1 H (upd H' a o) := fun b u hb n0 n1 => by
  have z : b ≠ a := by rcases e with rfl | rfl; exact n0; exact n1
  rw [upd_ne z]
  exact L b u hb n0 n1
theorem TupsAt.lax {h0 h1 t : Addr} {H H' : Hp} {xs ys : List V} {ps : List (Int × Int)} (h : TupsAt H t ps) (L : Lax h0 h1 H H') (e0 : H h0 = some (.lst xs)) (e1 : H h1 = some (.lst ys)) : TupsAt H' t ps := by
  obtain ⟨rs, q1, q2, q3⟩ := h
  exact ⟨rs, L.stay e0 e1 q1 (fun zs z => by cases z), fun r hr => L.stay e0 e1 (q2 r hr) (fun zs z => by unfold tupO at z; cases z), q3⟩
theorem RowsAt.upd {H : Hp} {l p : Addr} {o : HO} {rs2 : RS} {ps : List (Int × Int)} (h : RowsAt H l ps) (hp : H p = some (.lst (refs rs2))) (n : l ≠ p) : RowsAt (upd H p o) l ps := by
  obtain ⟨rs, q1, q2, q3⟩ := h
  exact ⟨rs, by rw [upd_ne n]; exact q1, q2.upd hp, q3⟩

section
variable {P : Program} {w : World} {K : PySem.W.Frag} {mg : Str → Option Value} {base : Heap}
abbrev nmLaw : List Str := ["_law_script", "_law_count", "_law_ties", "_law_bows", "_law_due", "_law_handed", "_law_held", "_law_drawing", "_law_rows", "_law_row", "_law_again"]
theorem scLaw : FnScope nmLaw ["_law_script"] (defScope sLaw) := ⟨rfl, rfl, rfl, by decide +kernel, rfl, by decide +kernel, by decide +kernel⟩
theorem ok_law {f C fI fC fP fH fS fR : Addr} {fd fdI fdC fdP fdH fdS fdR : FuncData} (F : Fun K "law" "law" sLaw f fd) (N : Nm mg) (X : Tx K mg C) (MK : Mk K C fI) (Ce : Callee P w K mg base "_law_cell_at" 1 fC fdC ["_law_script", "_law_k"] (spCell K))
    (Pr : Callee P w K mg base "_law_pairs" 2 fP fdP ["_law_script", "_law_at"] (spPairs K)) (Sh : Callee P w K mg base "_law_shuffled" 2 fH fdH ["_law_rows", "_law_number", "_law_bits"] spShuf)
    (I : Mcal P w K mg base C "__init__" 2 fI fdI ["self", "count", "ties", "bows"] (spInit C)) (S : Callee P w K mg base "_law_same" 4 fS fdS ["_law_found", "_law_due"] (spSame K 3))
    (R : Callee P w K mg base "_law_right" 5 fR fdR ["_law_drawing", "_law_due"] (spRight C)) : FnOk P w K mg base CX0 6 f fd ["_law_script"] (spLaw K) := by
  refine F.ok scLaw (fun vs H Q E h => ?_) (fun cdv A outer s H vs Q E hr h => ?_)
  · obtain ⟨a, ns, rfl, _⟩ := h
    rfl
  obtain ⟨a, ns, rfl, hS, h63, q⟩ := h
  have hr1 := hr.mono (show 1 ≤ 5 by decide)
  have hr2 := hr.mono (show 2 ≤ 5 by decide)
  have hr3 := hr.mono (show 3 ≤ 5 by decide)
  have hr4 := hr.mono (show 4 ≤ 5 by decide)
  refine ⟨_, (pss_cons (ps_asg (pe_call Pr.ok hr2 rfl Pr.m Pr.kp Pr.b .nil pass0 (pa_cons (pv 0) (pa_cons pe_int pa_nil))) (pg_tup rfl (pgs_cons (pg_name (i := 1) scLaw.nd rfl (.inl rfl)) (pgs_cons (pg_name (i := 2) scLaw.nd rfl (.inl rfl)) (pgs_cons (pg_name (i := 3) scLaw.nd rfl (.inl rfl)) pgs_nil)))))
    (pss_cons (ps_set (i := 4) scLaw.nd rfl (.inl rfl) (pe_tup (pa_cons (pv 1) (pa_cons (pe_callTy call_tuple_of rfl N.tuple PyProof.Rows.boot_tuple (pa_cons (pe_callB cr_sortedPO rfl N.sorted PyProof.Rows.boot_sorted (pa_cons (pv 2) pa_nil)) pa_nil)) (pa_cons (pe_callTy call_tuple_of rfl N.tuple PyProof.Rows.boot_tuple (pa_cons (pe_callB cr_sortedPO rfl N.sorted PyProof.Rows.boot_sorted (pa_cons (pv 3) pa_nil)) pa_nil)) pa_nil)))))
    (pss_cons (ps_set (i := 5) scLaw.nd rfl (.inl rfl) (pe_lst (pa_cons (pe_call Sh.ok hr2 rfl Sh.m Sh.kp Sh.b .nil pass0 (pa_cons (pv 2) (pa_cons (pe_call Ce.ok hr1 rfl Ce.m Ce.kp Ce.b .nil pass0 (pa_cons (pv 0) (pa_cons pe_int pa_nil))) (pa_cons (pe_call Ce.ok hr1 rfl Ce.m Ce.kp Ce.b .nil pass0 (pa_cons (pv 0) (pa_cons pe_int pa_nil))) pa_nil)))) pa_nil)))
    (pss_cons (ps_expr (pe_bm PySem.F.plainAttrs_list PySem.F.slot_list_append PySem.F.type_list_append mt_append (pv 5) (pa_cons (pe_call Sh.ok hr2 rfl Sh.m Sh.kp Sh.b .nil pass0 (pa_cons (pv 3) (pa_cons (pe_call Ce.ok hr1 rfl Ce.m Ce.kp Ce.b .nil pass0 (pa_cons (pv 0) (pa_cons pe_int pa_nil))) (pa_cons (pe_call Ce.ok hr1 rfl Ce.m Ce.kp Ce.b .nil pass0 (pa_cons (pv 0) (pa_cons pe_int pa_nil))) pa_nil)))) pa_nil)))
    (pss_cons (ps_set (i := 6) scLaw.nd rfl (.inl rfl) (pe_lst (pa_cons (pe_callTy call_list_of rfl N.list PyProof.Rows.boot_list (pa_cons (pe_ix ix_list (pv 5) pe_int (fun _ _ => rfl)) pa_nil)) (pa_cons (pe_callTy call_list_of rfl N.list PyProof.Rows.boot_list (pa_cons (pe_ix ix_list (pv 5) pe_int (fun _ _ => rfl)) pa_nil)) pa_nil))))
    (pss_cons (ps_set (i := 7) scLaw.nd rfl (.inl rfl) (pe_make MK I.ok hr3 rfl X.mg I.b .nil pass0 (pa_cons (pv 1) (pa_cons (pe_ix ix_list (pv 5) pe_int (fun _ _ => rfl)) (pa_cons (pe_ix ix_list (pv 5) pe_int (fun _ _ => rfl)) pa_nil)))))
    (pss_cons (ps_if (pt_not (pt_val (pe_call S.ok hr4 rfl S.m S.kp S.b .nil pass0 (pa_cons (pv 5) (pa_cons (pv 6) pa_nil))))) pss_never pss_nil)
    (C8.pss_cut (ps_for PassesOwn.never rfl (pi_list (pv 5)) (pg_name (i := 8) scLaw.nd rfl (.inl rfl)) (pss_cons (ps_for PassesOwn.never rfl (pi_list (pv 8)) (pg_name (i := 9) scLaw.nd rfl (.inl rfl)) (pss_one (ps_if (pt_val (pe_callB call_isi rfl N.isi PyProof.Rows.boot_isinstance (pa_cons (pv 9) (pa_cons (pe_bltn (v := .ty "list") rfl N.list PyProof.Rows.boot_list rfl) pa_nil)))) (pss_one (ps_expr (pe_bm0 PySem.F.plainAttrs_list PySem.F.slot_list_reverse PySem.F.type_list_reverse mt_reverse (pv 9)))) pss_nil))) (pss_one (ps_expr (pe_bm0 PySem.F.plainAttrs_list PySem.F.slot_list_clear PySem.F.type_list_clear mt_clear (pv 8))))))
    (pss_cons (ps_set (i := 10) scLaw.nd rfl (.inl rfl) (pe_make MK I.ok hr3 rfl X.mg I.b .nil pass0 (pa_cons (pv 1) (pa_cons (pe_callTy call_list_of rfl N.list PyProof.Rows.boot_list (pa_cons (pe_fld (pv 7) rfl) pa_nil)) (pa_cons (pe_callTy call_list_of rfl N.list PyProof.Rows.boot_list (pa_cons (pe_fld (pv 7) rfl) pa_nil)) pa_nil)))))
    (pss_one (ps_ret (pe_and (pe_call R.ok hr rfl R.m R.kp R.b .nil pass0 (pa_cons (pv 7) (pa_cons (pv 4) pa_nil))) (pe_one (pe_call R.ok hr rfl R.m R.kp R.b .nil pass0 (pa_cons (pv 10) (pa_cons (pv 4) pa_nil)))))))))))))))), ?_⟩
  -- the drawn pairs
  refine ⟨_, rfl, a, ns, rfl, hS, fun tp l1 l2 c T0 B0 H1 s1 htp ⟨c1, c6⟩ hT0 hB0 gT0 gB0 lT0 lB0 => ?_⟩
  refine ⟨tp, _, rfl, SqT.of htp, rfl, _, _, rfl, _, _, rfl, _, _, rfl, rfl, ?_⟩
  -- what is due
  refine ⟨_, rfl, ?_⟩
  refine tsort_cons (K := K) rfl hT0 fun tT T H2 s2 hT sT => ?_
  refine tsort_cons (K := K) rfl (hB0.same s2) fun tB B H3 s3 hB sB => ?_
  refine ⟨(by show 3 ≤ sizeLine; decide), fun u hu => ?_⟩
  have s4 := same_new hu (.tup [.int c, .ref tT, .ref tB])
  have s14 := s2.trans (s3.trans s4)
  generalize eH4 : upd H3 u (.tup [.int c, .ref tT, .ref tB]) = H4 at s4 s14
  have du : H4 u = some (.tup [.int c, .ref tT, .ref tB]) := by rw [← eH4]; exact upd_same
  have dT : TupsAt H4 tT T := hT.same (s3.trans s4)
  have dB : TupsAt H4 tB B := hB.same s4
  -- the ties in a drawn order
  refine ⟨_, rfl, _, rfl, a, ns, 2, rfl, (s1.trans s14).seq hS, fun z1 => ?_⟩
  refine ⟨_, rfl, a, ns, 3, rfl, (s1.trans s14).seq hS, fun z2 => ?_⟩
  refine ⟨l1, z1, z2, T0, rfl, hT0.same s14, by omega, fun h0 T1 H5 s5 f0 r0 pT => ?_⟩
  refine ⟨(by show 1 ≤ sizeLine; decide), fun hd fd0 => ?_⟩
  have s6 := same_new fd0 (.lst [.ref h0])
  have s46 := s14.trans (s5.trans s6)
  -- the bows in a drawn order
  refine ⟨_, rfl, .inl ⟨rfl, _, SqL.of upd_same⟩, ?_⟩
  refine ⟨_, rfl, _, rfl, a, ns, 4, rfl, (s1.trans s46).seq hS, fun z3 => ?_⟩
  refine ⟨_, rfl, a, ns, 5, rfl, (s1.trans s46).seq hS, fun z4 => ?_⟩
  refine ⟨l2, z3, z4, B0, rfl, hB0.same s46, by omega, fun h1 B1 H7 s7 f1 r1 pB => ?_⟩
  have hd7 : H7 hd = some (.lst [.ref h0]) := s7 _ _ upd_same
  refine ⟨hd, _, _, rfl, rfl, hd7, (by show 1 < sizeLine; decide), ?_⟩
  have n0d : h0 ≠ hd := by
    obtain ⟨rs, e, _⟩ := r0
    exact ne_of_none e fd0
  have n1d : h1 ≠ hd := (ne_of_none (upd_same (H := H5) (a := hd) (o := .lst [.ref h0])) f1).symm
  have s58 : Same H5 (upd H7 hd (.lst ([.ref h0] ++ [.ref h1]))) := same_list (s6.trans s7) fd0
  have r1' : RowsAt (upd H7 hd (.lst ([.ref h0] ++ [.ref h1]))) h1 B1 := r1.upd (rs2 := [(h0, (0, 0))]) hd7 n1d
  have hd8 : (upd H7 hd (.lst ([.ref h0] ++ [.ref h1]))) hd = some (.lst [.ref h0, .ref h1]) := upd_same
  have n01 : h0 ≠ h1 := by
    obtain ⟨rs, e, _⟩ := r0
    exact ne_of_none (s6 _ _ e) f1
  generalize eH8 : upd H7 hd (.lst ([.ref h0] ++ [.ref h1])) = H8 at s58 r1' hd8 ⊢
  obtain ⟨rs0, e0, a0, p0⟩ := r0.same s58
  obtain ⟨rs1, e1, a1, p1⟩ := r1'
  have s48 : Same H4 H8 := s5.trans s58
  -- what is held
  refine ⟨_, rfl, hd, _, _, _, rfl, rfl, SqL.of hd8, rfl, h0, _, rfl, .inl (SqL.of e0), fun g0 fg0 => ?_⟩
  have s9 := same_new fg0 (.lst (refs rs0))
  refine ⟨_, rfl, hd, _, _, _, rfl, rfl, SqL.of (s9 _ _ hd8), rfl, h1, _, rfl, .inl (SqL.of (s9 _ _ e1)), fun g1 fg1 => ?_⟩
  have s10 := same_new fg1 (.lst (refs rs1))
  refine ⟨(by show 2 ≤ sizeLine; decide), fun he fhe => ?_⟩
  have s11 := same_new fhe (.lst [.ref g0, .ref g1])
  have s8b := s9.trans (s10.trans s11)
  have eg0 := s11 _ _ (s10 _ _ (upd_same (H := H8) (a := g0) (o := .lst (refs rs0))))
  have eg1 := s11 _ _ (upd_same (H := upd H8 g0 (.lst (refs rs0))) (a := g1) (o := .lst (refs rs1)))
  have ehe := upd_same (H := upd (upd H8 g0 (.lst (refs rs0))) g1 (.lst (refs rs1))) (a := he) (o := .lst [.ref g0, .ref g1])
  generalize eH11 : upd (upd (upd H8 g0 (.lst (refs rs0))) g1 (.lst (refs rs1))) he (.lst [.ref g0, .ref g1]) = H11 at s8b eg0 eg1 ehe ⊢
  -- the drawing
  have gT1 : Good c T1 := gT0.perm pT
  have gB1 : Good c B1 := gB0.perm pB
  have lT1 : T1.length ≤ 15 := by rw [pT.length_eq]; exact lT0
  have lB1 : B1.length ≤ 6 := by rw [pB.length_eq]; exact lB0
  refine ⟨_, rfl, _, rfl, hd, _, _, _, rfl, rfl, SqL.of (s8b _ _ hd8), rfl, _, rfl, hd, _, _, _, rfl, rfl, SqL.of (s8b _ _ hd8), rfl, fun x dx nx ndx nex => ?_⟩
  have sm : Same H11 (upd (upd H11 dx (.own x)) x (.ins C dx [])) := fun b o e => by
    rw [upd_ne (ne_of_none e nx), upd_ne (ne_of_none e ndx)]
    exact e
  refine ⟨x, dx, h0, h1, c, T1, B1, rfl, upd_same, ⟨c1, c6⟩, ⟨rs0, sm _ _ (s8b _ _ e0), (a0.same s8b).same sm, p0⟩, ⟨rs1, sm _ _ (s8b _ _ e1), (a1.same s8b).same sm, p1⟩, gT1, gB1, by omega, lB1, fun T2 B2 H12 k12 hD sT2 sB2 => ⟨rfl, ?_⟩⟩
  have s12 : Same H11 H12 := Same.made nx ndx k12
  have s8c := s8b.trans s12
  obtain rfl : T2 = T := sT2.uniq sT pT
  obtain rfl : B2 = B := sB2.uniq sB pB
  have lT : T2.length ≤ 15 := by rw [sT.perm.length_eq]; exact lT0
  have lB : B2.length ≤ 6 := by rw [sB.perm.length_eq]; exact lB0
  -- the lists handed in stay
  have hd12 := s8c _ _ hd8
  have e0' := s8c _ _ e0
  have e1' := s8c _ _ e1
  have a0' := a0.same s8c
  have a1' := a1.same s8c
  have s4c : Same H4 H12 := s48.trans s8c
  obtain ⟨ds0, dd0, dl0, do0⟩ := row_data (K := K) a0'
  obtain ⟨ds1, dd1, dl1, do1⟩ := row_data (K := K) a1'
  have lr0 : rs0.length ≤ 15 := by rw [← prs_length, p0]; exact lT1
  have lr1 : rs1.length ≤ 6 := by rw [← prs_length, p1]; exact lB1
  refine ⟨_, rfl, _, rfl, .ref hd, .ref he, .list [.list ds0, .list ds1], rfl, .lst (SqL.of hd12) (.cons (.lst (SqL.of e0') dd0) (.cons (.lst (SqL.of e1') dd1) .nil)),
    .lst (SqL.of (s12 _ _ ehe)) (.cons (.lst (SqL.of (s12 _ _ eg0)) dd0) (.cons (.lst (SqL.of (s12 _ _ eg1)) dd1) .nil)), ?_, true, rfl, iteF ?_⟩
  · refine ⟨by show 2 ≤ 100; decide, fun d hd' => ?_⟩
    have hdd : d = .list ds0 ∨ d = .list ds1 := by simpa using hd'
    rcases hdd with rfl | rfl
    · exact ⟨by omega, do0⟩
    · exact ⟨by omega, do1⟩
  -- they are changed
  refine ⟨fun σ H' => (∃ v8 v9 : Option V, σ = [some (.ref a), some (.int c), some (.ref l1), some (.ref l2), some (.ref u), some (.ref hd), some (.ref he), some (.ref x), v8, v9, none]) ∧ Lax h0 h1 H12 H', ?_, ?_⟩
  · refine ⟨_, rfl, hd, rfl, ⟨_, SqL.of hd12⟩, ?_⟩
    refine for_list (K := K) (a := hd) (xs := [.ref h0, .ref h1]) (fun i σ H' => (∃ v8 v9 : Option V, σ = [some (.ref a), some (.int c), some (.ref l1), some (.ref l2), some (.ref u), some (.ref hd), some (.ref he), some (.ref x), v8, v9, none]) ∧
        Lax h0 h1 H12 H' ∧ (i = 0 → H' h0 = some (.lst (refs rs0))) ∧ (i ≤ 1 → H' h1 = some (.lst (refs rs1))))
      ⟨⟨none, none, rfl⟩, Lax.refl _ _ _, fun _ => e0', fun _ => e1'⟩ (fun i σ H' _ ⟨_, L, _⟩ => SqL.of (L.list (rs := [(h0, (0, 0)), (h1, (0, 0))]) n0d.symm n1d.symm hd12)) ?_ ?_
    · rintro i y σ H' hi ⟨⟨v8, v9, rfl⟩, L, k0, k1⟩
      obtain ⟨hb, rs, rfl, hbo, ab, eb, ek, il⟩ : ∃ (hb : Addr) (rs : RS), y = V.ref hb ∧ (hb = h0 ∨ hb = h1) ∧ AllR H12 rs ∧ H' hb = some (.lst (refs rs)) ∧ (i = 0 → hb = h0) ∧ i ≤ 1 := by
        match i, hi with
        | 0, hi => exact ⟨h0, rs0, (Option.some.inj hi).symm, .inl rfl, a0', k0 rfl, fun _ => rfl, by omega⟩
        | 1, hi => exact ⟨h1, rs1, (Option.some.inj hi).symm, .inr rfl, a1', k1 (by omega), fun e => absurd e (by omega), by omega⟩
        | j + 2, hi => simp at hi
      refine ⟨_, rfl, hb, rfl, ⟨_, SqL.of eb⟩, ?_⟩
      refine for_list (K := K) (a := hb) (xs := refs rs) (fun j σ H' => (∃ v9 : Option V, σ = [some (.ref a), some (.int c), some (.ref l1), some (.ref l2), some (.ref u), some (.ref hd), some (.ref he), some (.ref x), some (.ref hb), v9, none]) ∧
          Lax h0 h1 H12 H' ∧ H' hb = some (.lst (refs rs)) ∧ (i = 0 → H' h1 = some (.lst (refs rs1))))
        ⟨⟨v9, rfl⟩, L, eb, fun e => k1 (by omega)⟩ (fun j σ H' _ ⟨_, _, e, _⟩ => SqL.of e) ?_ ?_
      · rintro j y2 σ H2' hj ⟨⟨v9', rfl⟩, L2, eb2, k2⟩
        obtain ⟨r, hr, rfl⟩ := refs_at hj
        rcases L2.row e0' e1' ab (List.mem_of_getElem? hr) with q' | ⟨⟨p', q0⟩, p, q'⟩
        · refine isi_at (K := K) rfl (ty_t (SqT.of q')) tt_tl ⟨_, rfl, iteF ?_⟩
          exact ⟨⟨_, rfl⟩, L2, eb2, k2⟩
        · refine isi_at (K := K) rfl (ty_l (SqL.of q')) tt_ll ⟨_, rfl, iteT ?_⟩
          refine ⟨_, rfl, .inl ⟨rfl, _, SqL.of q'⟩, r.1, _, rfl, rfl, q', ?_⟩
          refine ⟨⟨_, rfl⟩, L2.turn (q := (p.2, p.1)) q0, ?_, fun e => ?_⟩
          · rw [upd_ne (ne_of eb2 q' (fun z => lst_ne _ _ z.symm))]
            exact eb2
          · rw [upd_ne (ne_of (k2 e) q' (fun z => lst_ne _ _ z.symm))]
            exact k2 e
      · rintro σ H2' ⟨⟨v9', rfl⟩, L2, eb2, k2⟩
        refine ⟨_, rfl, .inl ⟨rfl, _, SqL.of eb2⟩, hb, _, rfl, rfl, eb2, ?_⟩
        refine ⟨⟨_, _, rfl⟩, L2.clear hbo, fun e => absurd e (by omega), fun e => ?_⟩
        have ei : i = 0 := by omega
        rw [upd_ne (by rw [ek ei]; exact n01.symm)]
        exact k2 ei
    · rintro σ H' ⟨⟨v8, v9, rfl⟩, L, _, _⟩
      exact ⟨⟨_, _, rfl⟩, L⟩
  · rintro σ H13 ⟨⟨v8, v9, rfl⟩, L⟩
    have hD13 : DrawAt C H13 x c T2 B2 := by
      obtain ⟨dx', t1, t2, hx, hT2, hB2⟩ := hD
      exact ⟨dx', t1, t2, L.stay e0' e1' hx (fun zs z => by cases z), hT2.lax L e0' e1', hB2.lax L e0' e1'⟩
    have du13 : H13 u = some (.tup [.int c, .ref tT, .ref tB]) := L.stay e0' e1' (s4c _ _ du) (fun zs z => by cases z)
    have dT13 : TupsAt H13 tT T2 := (dT.same s4c).lax L e0' e1'
    have dB13 : TupsAt H13 tB B2 := (dB.same s4c).lax L e0' e1'
    have gT : Good c T2 := gT0.perm sT.perm
    have gB : Good c B2 := gB0.perm sB.perm
    have stT : T2.Pairwise lt2 := sT.strict gT0
    obtain ⟨dx', t1, t2, hx, ⟨ra, ra1, ra2, ra3⟩, ⟨rb, rb1, rb2, rb3⟩⟩ := id hD13
    -- the same once more, from its own ties and bows
    refine ⟨_, rfl, _, rfl, x, C, dx', _, _, rfl, hx, X.cl, X.nTies, df_ties _ _ _, t1, _, rfl, .inr (SqT.of ra1), fun la fla => ?_⟩
    have s14' := same_new fla (.lst (refs ra))
    refine ⟨_, rfl, x, C, dx', _, _, rfl, s14' _ _ hx, X.cl, X.nBows, df_bows _ _ _, t2, _, rfl, .inr (SqT.of (s14' _ _ rb1)), fun lb flb => ?_⟩
    have s15 := same_new flb (.lst (refs rb))
    have s1415 := s14'.trans s15
    intro x2 dx2 nx2 ndx2 nex2
    have sm2 : Same (upd (upd H13 la (.lst (refs ra))) lb (.lst (refs rb))) (upd (upd (upd (upd H13 la (.lst (refs ra))) lb (.lst (refs rb))) dx2 (.own x2)) x2 (.ins C dx2 [])) := fun b o e => by
      rw [upd_ne (ne_of_none e nx2), upd_ne (ne_of_none e ndx2)]
      exact e
    refine ⟨x2, dx2, la, lb, c, T2, B2, rfl, upd_same, ⟨c1, c6⟩, ⟨ra, sm2 _ _ (s15 _ _ upd_same), (ra2.same (s1415.trans sm2)).rows, ra3⟩, ⟨rb, sm2 _ _ upd_same, (rb2.same (s1415.trans sm2)).rows, rb3⟩, gT, gB, by omega, lB, fun T3 B3 H16 k16 hD2 sT3 sB3 => ⟨rfl, ?_⟩⟩
    have s16 := Same.made nx2 ndx2 k16
    have s136 := s1415.trans s16
    obtain rfl : T3 = T2 := sT3.uniq sT.self (List.Perm.refl _)
    obtain rfl : B3 = B2 := sB3.uniq sB.self (List.Perm.refl _)
    -- both are right
    refine ⟨_, rfl, _, rfl, x, u, tT, tB, c, T3, B3, rfl, hD13.same s136, s136 _ _ du13, dT13.same s136, dB13.same s136, gT, stT, by omega, by omega, ⟨c1, c6⟩, fun H17 s17 => ⟨true, rfl, iteT ?_⟩⟩
    have s137 := s136.trans s17
    refine ⟨_, rfl, _, rfl, x2, u, tT, tB, c, T3, B3, rfl, hD2.same s17, s137 _ _ du13, dT13.same s137, dB13.same s137, gT, stT, by omega, by omega, ⟨c1, c6⟩, fun H18 _ => ?_⟩
    exact q H18
end
end Dr

/-! What the top has written, and the law's row. -/
namespace Dr
open PySem L2

theorem all_mk {l : PySem.W.OpenLaw} {w : World} {K : PySem.W.Frag} {h : Heap} {mg : Str → Option Value} {fa C f1 f2 f3 f4 f5 f6 f7 f8 f9 f10 f11 f12 f13 f14 f15 : Addr} (KX : K.In h) (G : h.Ns mainGlobals mg) (hfa : mg "law" = some (.ref fa)) {tk1 tk2 : Tok}
    {od1 an1 od2 an2 od3 an3 od4 an4 od5 an5 od6 an6 od7 an7 od8 an8 od9 an9 od10 an10 od11 an11 od12 an12 od13 an13 od14 an14 od15 an15 : Option Addr}
    {sl1 sl2 sl3 sl4 sl5 sl6 sl7 sl8 sl9 sl10 sl11 sl12 sl13 sl14 sl15 : Array (Option Value)}
    {oc1 kV1 dc1 pm1 cd1 ct1 oc2 kV2 dc2 pm2 cd2 ct2 oc3 kV3 dc3 pm3 cd3 ct3 oc4 kV4 dc4 pm4 cd4 ct4 oc5 kV5 dc5 pm5 cd5 ct5 oc6 kV6 dc6 pm6 cd6 ct6 oc7 kV7 dc7 pm7 cd7 ct7 oc8 kV8 dc8 pm8 cd8 ct8 oc9 kV9 dc9 pm9 cd9 ct9 oc10 kV10 dc10 pm10 cd10 ct10 oc11 kV11 dc11 pm11 cd11 ct11 oc12 kV12 dc12 pm12 cd12 ct12 oc13 kV13 dc13 pm13 cd13 ct13 oc14 kV14 dc14 pm14 cd14 ct14 oc15 kV15 dc15 pm15 cd15 ct15 : Value}
    (aC : PySem.W.nsIn K mainGlobals "Drawing" = some (some (.ref C)))
    (a1 : PySem.W.nsIn K mainGlobals "is_set" = some (some (.ref f1))) (l1 : K.lookup f1 = some ⟨oc1, od1, .func (PySem.W.fnOf "is_set" "is_set" (defArgs sIsSet) (defBody sIsSet) (defScope sIsSet) .none kV1 dc1 pm1 an1 cd1 ct1), sl1⟩) (c1 : PySem.W.codeIn K cd1 "is_set" = true) (k1 : PySem.W.keepIn K (.ref f1) = true)
    (a2 : PySem.W.nsIn K mainGlobals "look_at_set" = some (some (.ref f2))) (l2 : K.lookup f2 = some ⟨oc2, od2, .func (PySem.W.fnOf "look_at_set" "look_at_set" (defArgs sLook) (defBody sLook) (defScope sLook) .none kV2 dc2 pm2 an2 cd2 ct2), sl2⟩) (c2 : PySem.W.codeIn K cd2 "look_at_set" = true) (k2 : PySem.W.keepIn K (.ref f2) = true)
    (a3 : PySem.W.nsIn K mainGlobals "pairs_of" = some (some (.ref f3))) (l3 : K.lookup f3 = some ⟨oc3, od3, .func (PySem.W.fnOf "pairs_of" "pairs_of" (defArgs sPairsOf) (defBody sPairsOf) (defScope sPairsOf) .none kV3 dc3 pm3 an3 cd3 ct3), sl3⟩) (c3 : PySem.W.codeIn K cd3 "pairs_of" = true) (k3 : PySem.W.keepIn K (.ref f3) = true)
    (a4 : PySem.W.nsIn K mainGlobals "_law_cell_at" = some (some (.ref f4))) (l4 : K.lookup f4 = some ⟨oc4, od4, .func (PySem.W.fnOf "_law_cell_at" "_law_cell_at" (defArgs sCell) (defBody sCell) (defScope sCell) .none kV4 dc4 pm4 an4 cd4 ct4), sl4⟩) (c4 : PySem.W.codeIn K cd4 "_law_cell_at" = true) (k4 : PySem.W.keepIn K (.ref f4) = true)
    (a5 : PySem.W.nsIn K mainGlobals "_law_mixed" = some (some (.ref f5))) (l5 : K.lookup f5 = some ⟨oc5, od5, .func (PySem.W.fnOf "_law_mixed" "_law_mixed" (defArgs sMixed) (defBody sMixed) (defScope sMixed) .none kV5 dc5 pm5 an5 cd5 ct5), sl5⟩) (c5 : PySem.W.codeIn K cd5 "_law_mixed" = true) (k5 : PySem.W.keepIn K (.ref f5) = true)
    (a6 : PySem.W.nsIn K mainGlobals "_law_pairs" = some (some (.ref f6))) (l6 : K.lookup f6 = some ⟨oc6, od6, .func (PySem.W.fnOf "_law_pairs" "_law_pairs" (defArgs sPairs) (defBody sPairs) (defScope sPairs) .none kV6 dc6 pm6 an6 cd6 ct6), sl6⟩) (c6 : PySem.W.codeIn K cd6 "_law_pairs" = true) (k6 : PySem.W.keepIn K (.ref f6) = true)
    (a7 : PySem.W.nsIn K mainGlobals "_law_order" = some (some (.ref f7))) (l7 : K.lookup f7 = some ⟨oc7, od7, .func (PySem.W.fnOf "_law_order" "_law_order" (defArgs sOrder) (defBody sOrder) (defScope sOrder) .none kV7 dc7 pm7 an7 cd7 ct7), sl7⟩) (c7 : PySem.W.codeIn K cd7 "_law_order" = true) (k7 : PySem.W.keepIn K (.ref f7) = true)
    (a8 : PySem.W.nsIn K mainGlobals "_law_shuffled" = some (some (.ref f8))) (l8 : K.lookup f8 = some ⟨oc8, od8, .func (PySem.W.fnOf "_law_shuffled" "_law_shuffled" (defArgs sShuf) (defBody sShuf) (defScope sShuf) .none kV8 dc8 pm8 an8 cd8 ct8), sl8⟩) (c8 : PySem.W.codeIn K cd8 "_law_shuffled" = true) (k8 : PySem.W.keepIn K (.ref f8) = true)
    (a9 : PySem.W.nsIn K mainGlobals "_law_same" = some (some (.ref f9))) (l9 : K.lookup f9 = some ⟨oc9, od9, .func (PySem.W.fnOf "_law_same" "_law_same" (defArgs sSame) (defBody sSame) (defScope sSame) .none kV9 dc9 pm9 an9 cd9 ct9), sl9⟩) (c9 : PySem.W.codeIn K cd9 "_law_same" = true) (k9 : PySem.W.keepIn K (.ref f9) = true)
    (a10 : PySem.W.nsIn K mainGlobals "_law_right" = some (some (.ref f10))) (l10 : K.lookup f10 = some ⟨oc10, od10, .func (PySem.W.fnOf "_law_right" "_law_right" (defArgs sRight) (defBody sRight) (defScope sRight) .none kV10 dc10 pm10 an10 cd10 ct10), sl10⟩) (c10 : PySem.W.codeIn K cd10 "_law_right" = true) (k10 : PySem.W.keepIn K (.ref f10) = true)
    (a11 : PySem.W.nsIn K mainGlobals "law" = some (some (.ref f11))) (l11 : K.lookup f11 = some ⟨oc11, od11, .func (PySem.W.fnOf "law" "law" (defArgs sLaw) (defBody sLaw) (defScope sLaw) .none kV11 dc11 pm11 an11 cd11 ct11), sl11⟩) (c11 : PySem.W.codeIn K cd11 "law" = true) (k11 : PySem.W.keepIn K (.ref f11) = true)
    (a12 : PySem.W.findIn K (.ref C) "__init__" = some (some (.ref f12))) (i12 : PySem.W.isFn K (.ref f12) = true) (l12 : K.lookup f12 = some ⟨oc12, od12, .func (PySem.W.fnOf "__init__" "Drawing.__init__" (defArgs sInit) (defBody sInit) (defScope sInit) .none kV12 dc12 pm12 an12 cd12 ct12), sl12⟩) (c12 : PySem.W.codeIn K cd12 "Drawing.__init__" = true) (k12 : PySem.W.keepIn K (.ref f12) = true)
    (a13 : PySem.W.findIn K (.ref C) "sources" = some (some (.ref f13))) (i13 : PySem.W.isFn K (.ref f13) = true) (l13 : K.lookup f13 = some ⟨oc13, od13, .func (PySem.W.fnOf "sources" "Drawing.sources" (defArgs sSour) (defBody sSour) (defScope sSour) .none kV13 dc13 pm13 an13 cd13 ct13), sl13⟩) (c13 : PySem.W.codeIn K cd13 "Drawing.sources" = true) (k13 : PySem.W.keepIn K (.ref f13) = true)
    (a14 : PySem.W.findIn K (.ref C) "followers" = some (some (.ref f14))) (i14 : PySem.W.isFn K (.ref f14) = true) (l14 : K.lookup f14 = some ⟨oc14, od14, .func (PySem.W.fnOf "followers" "Drawing.followers" (defArgs sFoll) (defBody sFoll) (defScope sFoll) .none kV14 dc14 pm14 an14 cd14 ct14), sl14⟩) (c14 : PySem.W.codeIn K cd14 "Drawing.followers" = true) (k14 : PySem.W.keepIn K (.ref f14) = true)
    (a15 : PySem.W.findIn K (.ref C) "shape" = some (some (.ref f15))) (i15 : PySem.W.isFn K (.ref f15) = true) (l15 : K.lookup f15 = some ⟨oc15, od15, .func (PySem.W.fnOf "shape" "Drawing.shape" (defArgs sShape) (defBody sShape) (defScope sShape) .none kV15 dc15 pm15 an15 cd15 ct15), sl15⟩) (c15 : PySem.W.codeIn K cd15 "Drawing.shape" = true) (k15 : PySem.W.keepIn K (.ref f15) = true)
    (pgC : PySem.W.plainGet K C Str.empty = true) (hdC : PySem.W.hasDictIn K C = true) (poC : PySem.W.plainOver K C = true) (saC : PySem.W.findIn K (.ref C) "__setattr__" = some (some (.builtin "object.__setattr__"))) (mkC : PySem.W.makesIn K C = true) (kcC : PySem.W.keepIn K (.ref C) = true)
    (nCo : PySem.W.findIn K (.ref C) "count" = some none) (nTi : PySem.W.findIn K (.ref C) "ties" = some none) (nBo : PySem.W.findIn K (.ref C) "bows" = some none)
    (v1 : PySem.W.nsIn K mainGlobals "MOST_NAMES" = some (some (.int 6 tk1))) (v2 : PySem.W.nsIn K mainGlobals "MOST_BOWS" = some (some (.int 6 tk2)))
    (zLen : PySem.W.nsIn K mainGlobals "len" = some none) (zRan : PySem.W.nsIn K mainGlobals "range" = some none) (zTup : PySem.W.nsIn K mainGlobals "tuple" = some none) (zLis : PySem.W.nsIn K mainGlobals "list" = some none) (zSor : PySem.W.nsIn K mainGlobals "sorted" = some none) (zIsi : PySem.W.nsIn K mainGlobals "isinstance" = some none) (zBoo : PySem.W.nsIn K mainGlobals "bool" = some none) (zInt : PySem.W.nsIn K mainGlobals "int" = some none) :
    ∃ fd : FuncData, (∀ (s : Shared) (v : Value), BindsTo s fd ⟨[v], []⟩ [("_law_script", v)]) ∧ ∀ base : Heap, K.In base → base.Ns mainGlobals mg → FnOk l.prog w K mg base CX0 6 fa fd ["_law_script"] (spLaw K) := by
  have e := hfa.symm.trans (PySem.W.mg_of KX G a11)
  cases e
  have N : Nm mg := ⟨PySem.W.mg_none_of KX G zLen, PySem.W.mg_none_of KX G zRan, PySem.W.mg_none_of KX G zTup, PySem.W.mg_none_of KX G zLis, PySem.W.mg_none_of KX G zSor, PySem.W.mg_none_of KX G zIsi, PySem.W.mg_none_of KX G zBoo, PySem.W.mg_none_of KX G zInt⟩
  have X : Tx K mg C := ⟨⟨pgC, hdC, poC, saC⟩, nCo, nTi, nBo, PySem.W.mg_of KX G aC⟩
  have F1 := fun_mk (st := sIsSet) l1 c1 k1
  have F2 := fun_mk (st := sLook) l2 c2 k2
  have F3 := fun_mk (st := sPairsOf) l3 c3 k3
  have F4 := fun_mk (st := sCell) l4 c4 k4
  have F5 := fun_mk (st := sMixed) l5 c5 k5
  have F6 := fun_mk (st := sPairs) l6 c6 k6
  have F7 := fun_mk (st := sOrder) l7 c7 k7
  have F8 := fun_mk (st := sShuf) l8 c8 k8
  have F9 := fun_mk (st := sSame) l9 c9 k9
  have F10 := fun_mk (st := sRight) l10 c10 k10
  have F11 := fun_mk (st := sLaw) l11 c11 k11
  have F12 := fun_mk (st := sInit) l12 c12 k12
  have F13 := fun_mk (st := sSour) l13 c13 k13
  have F14 := fun_mk (st := sFoll) l14 c14 k14
  have F15 := fun_mk (st := sShape) l15 c15 k15
  have b1 := F1.binds (ps := ["drawing", "names"]) fun _ _ _ _ _ _ us hl => match us, hl with | [_, _], _ => rfl
  have b2 := F2.binds (ps := ["drawing", "names"]) fun _ _ _ _ _ _ us hl => match us, hl with | [_, _], _ => rfl
  have b3 := F3.binds (ps := ["count", "pairs"]) fun _ _ _ _ _ _ us hl => match us, hl with | [_, _], _ => rfl
  have b4 := F4.binds (ps := ["_law_script", "_law_k"]) fun _ _ _ _ _ _ us hl => match us, hl with | [_, _], _ => rfl
  have b5 := F5.binds (ps := ["_law_cell", "_law_many"]) fun _ _ _ _ _ _ us hl => match us, hl with | [_, _], _ => rfl
  have b6 := F6.binds (ps := ["_law_script", "_law_at"]) fun _ _ _ _ _ _ us hl => match us, hl with | [_, _], _ => rfl
  have b7 := F7.binds (ps := ["_law_number", "_law_many"]) fun _ _ _ _ _ _ us hl => match us, hl with | [_, _], _ => rfl
  have b8 := F8.binds (ps := ["_law_rows", "_law_number", "_law_bits"]) fun _ _ _ _ _ _ us hl => match us, hl with | [_, _, _], _ => rfl
  have b9 := F9.binds (ps := ["_law_found", "_law_due"]) fun _ _ _ _ _ _ us hl => match us, hl with | [_, _], _ => rfl
  have b10 := F10.binds (ps := ["_law_drawing", "_law_due"]) fun _ _ _ _ _ _ us hl => match us, hl with | [_, _], _ => rfl
  have b12 := F12.binds (ps := ["self", "count", "ties", "bows"]) fun _ _ _ _ _ _ us hl => match us, hl with | [_, _, _, _], _ => rfl
  have b13 := F13.binds (ps := ["self", "name"]) fun _ _ _ _ _ _ us hl => match us, hl with | [_, _], _ => rfl
  have b14 := F14.binds (ps := ["self", "name"]) fun _ _ _ _ _ _ us hl => match us, hl with | [_, _], _ => rfl
  have b15 := F15.binds (ps := ["self"]) fun _ _ _ _ _ _ us hl => match us, hl with | [_], _ => rfl
  refine ⟨PySem.W.fnOf "law" "law" (defArgs sLaw) (defBody sLaw) (defScope sLaw) .none kV11 dc11 pm11 an11 cd11 ct11, fun s v => .of_eq rfl, fun base _ _ => ?_⟩
  have mg' : ∀ {x : Str} {f : Addr}, PySem.W.nsIn K mainGlobals x = some (some (.ref f)) → mg x = some (.ref f) := fun z => PySem.W.mg_of KX G z
  have D1 : Callee l.prog w K mg base "is_set" 1 f1 _ ["drawing", "names"] (spIsSet C) := ⟨ok_isset F1 N X, mg' a1, b1, k1⟩
  have D2 : Callee l.prog w K mg base "look_at_set" 2 f2 _ ["drawing", "names"] (spLook C) := ⟨ok_look F2 D1, mg' a2, b2, k2⟩
  have D3 : Callee l.prog w K mg base "pairs_of" 1 f3 _ ["count", "pairs"] spPairsOf := ⟨ok_pairsof F3 N, mg' a3, b3, k3⟩
  have D4 : Callee l.prog w K mg base "_law_cell_at" 1 f4 _ ["_law_script", "_law_k"] (spCell K) := ⟨ok_cell F4 N, mg' a4, b4, k4⟩
  have D5 : Callee l.prog w K mg base "_law_mixed" 1 f5 _ ["_law_cell", "_law_many"] spMixed := ⟨ok_mixed F5 N, mg' a5, b5, k5⟩
  have D6 : Callee l.prog w K mg base "_law_pairs" 2 f6 _ ["_law_script", "_law_at"] (spPairs K) := ⟨ok_pairs F6 N D4 D5, mg' a6, b6, k6⟩
  have D7 : Callee l.prog w K mg base "_law_order" 1 f7 _ ["_law_number", "_law_many"] spOrder := ⟨ok_order F7 N, mg' a7, b7, k7⟩
  have D8 : Callee l.prog w K mg base "_law_shuffled" 2 f8 _ ["_law_rows", "_law_number", "_law_bits"] spShuf := ⟨ok_shuf F8 N D7, mg' a8, b8, k8⟩
  have D9 : Callee l.prog w K mg base "_law_same" 4 f9 _ ["_law_found", "_law_due"] (spSame K 3) := ⟨ok_same F9 N (mg' a9) b9 3, mg' a9, b9, k9⟩
  have M12 : Mcal l.prog w K mg base C "__init__" 2 f12 _ ["self", "count", "ties", "bows"] (spInit C) := ⟨ok_init F12 N X (PySem.W.mg_of KX G v1) (PySem.W.mg_of KX G v2) D3, ⟨a12, i12, k12⟩, b12⟩
  have M13 : Mcal l.prog w K mg base C "sources" 3 f13 _ ["self", "name"] (spSour C) := ⟨ok_sour F13 N X D2, ⟨a13, i13, k13⟩, b13⟩
  have M14 : Mcal l.prog w K mg base C "followers" 3 f14 _ ["self", "name"] (spFoll C) := ⟨ok_foll F14 N X D2, ⟨a14, i14, k14⟩, b14⟩
  have M15 : Mcal l.prog w K mg base C "shape" 1 f15 _ ["self"] (spShape K C) := ⟨ok_shape F15 X, ⟨a15, i15, k15⟩, b15⟩
  have D10 : Callee l.prog w K mg base "_law_right" 5 f10 _ ["_law_drawing", "_law_due"] (spRight C) := ⟨ok_right F10 N X D9 M13 M14 M15, mg' a10, b10, k10⟩
  exact ok_law F11 N X ⟨mkC, a12, i12, kcC⟩ D4 D6 D8 M12 D9 D10
theorem walk {l : PySem.W.OpenLaw} {q : Program} {loose : List Str} {XP : (Str → Option Value) → Heap → Prop} {YP : World → Heap → Prop} {d : DefRec} {K : Params → PySem.W.Frag} (hn : l.most = some 63) (hdf : d.params.defaults = [])
    (hY : ∀ (w : World) (h : Heap), YP w h → (K w.params).In h)
    (F : ∀ (w : World) (mg : Str → Option Value) (fa : Addr) (h : Heap), (K w.params).In h → h.Ns mainGlobals mg → mg d.name = some (.ref fa) →
      ∃ fd : FuncData, (∀ (s : Shared) (u : Value), BindsTo s fd ⟨[u], []⟩ [("_law_script", u)]) ∧ ∀ base : Heap, (K w.params).In base → base.Ns mainGlobals mg → FnOk l.prog w (K w.params) mg base CX0 6 fa fd ["_law_script"] (spLaw (K w.params))) :
    PySem.W.WalkO q loose XP YP l.row.toRowW d [] (fun f vs => PySem.call f vs) :=
  L2.walk_of (n := 63) (k := 6) (x := "_law_script") (CX := fun _ => CX0) (sp := fun w => spLaw (K w.params)) hn (by decide) hdf ⟨rfl, by decide, by decide⟩ hY F (fun _ _ a ns hl _ hS => ⟨a, ns, rfl, hS, hl, fun _ => rfl⟩) fun _ _ _ _ _ z => z
end Dr
open PySem PySem.W PyProof.Rows
set_option maxRecDepth 100000 in
set_option maxHeartbeats 0 in
theorem PySem.Challenge.cw_doingbook_k06_drawings_made_holds : PySem.Challenge.rw_doingbook_k06_drawings_made.Holds := by
  w_on; o_law; k_head; (case hw => w_witness2)
  k_fill
  refine Dr.walk (l := PySem.Challenge.rw_doingbook_k06_drawings_made) rfl rfl (fun w h Y => PySem.W.kIn_of Y) ?F
  case F =>
    intro w mg fa h KX G hmg
    refine' Dr.all_mk KX G hmg ?aC ?a1 ?l1 ?c1 ?k1 ?a2 ?l2 ?c2 ?k2 ?a3 ?l3 ?c3 ?k3 ?a4 ?l4 ?c4 ?k4 ?a5 ?l5 ?c5 ?k5 ?a6 ?l6 ?c6 ?k6 ?a7 ?l7 ?c7 ?k7 ?a8 ?l8 ?c8 ?k8 ?a9 ?l9 ?c9 ?k9 ?a10 ?l10 ?c10 ?k10 ?a11 ?l11 ?c11 ?k11 ?a12 ?i12 ?l12 ?c12 ?k12 ?a13 ?i13 ?l13 ?c13 ?k13 ?a14 ?i14 ?l14 ?c14 ?k14 ?a15 ?i15 ?l15 ?c15 ?k15 ?pgC ?hdC ?poC ?saC ?mkC ?kcC ?nCo ?nTi ?nBo ?v1 ?v2 ?zLen ?zRan ?zTup ?zLis ?zSor ?zIsi ?zBoo ?zInt
    (case aC => k_is)
    (case a1 => k_is)
    (case l1 => k_is)
    (case c1 => k_is)
    (case k1 => k_is)
    (case a2 => k_is)
    (case l2 => k_is)
    (case c2 => k_is)
    (case k2 => k_is)
    (case a3 => k_is)
    (case l3 => k_is)
    (case c3 => k_is)
    (case k3 => k_is)
    (case a4 => k_is)
    (case l4 => k_is)
    (case c4 => k_is)
    (case k4 => k_is)
    (case a5 => k_is)
    (case l5 => k_is)
    (case c5 => k_is)
    (case k5 => k_is)
    (case a6 => k_is)
    (case l6 => k_is)
    (case c6 => k_is)
    (case k6 => k_is)
    (case a7 => k_is)
    (case l7 => k_is)
    (case c7 => k_is)
    (case k7 => k_is)
    (case a8 => k_is)
    (case l8 => k_is)
    (case c8 => k_is)
    (case k8 => k_is)
    (case a9 => k_is)
    (case l9 => k_is)
    (case c9 => k_is)
    (case k9 => k_is)
    (case a10 => k_is)
    (case l10 => k_is)
    (case c10 => k_is)
    (case k10 => k_is)
    (case a11 => k_is)
    (case l11 => k_is)
    (case c11 => k_is)
    (case k11 => k_is)
    (case a12 => k_is)
    (case i12 => k_is)
    (case l12 => k_is)
    (case c12 => k_is)
    (case k12 => k_is)
    (case a13 => k_is)
    (case i13 => k_is)
    (case l13 => k_is)
    (case c13 => k_is)
    (case k13 => k_is)
    (case a14 => k_is)
    (case i14 => k_is)
    (case l14 => k_is)
    (case c14 => k_is)
    (case k14 => k_is)
    (case a15 => k_is)
    (case i15 => k_is)
    (case l15 => k_is)
    (case c15 => k_is)
    (case k15 => k_is)
    (case pgC => k_is)
    (case hdC => k_is)
    (case poC => k_is)
    (case saC => k_is)
    (case mkC => k_is)
    (case kcC => k_is)
    (case nCo => k_is)
    (case nTi => k_is)
    (case nBo => k_is)
    (case v1 => k_is)
    (case v2 => k_is)
    (case zLen => k_is)
    (case zRan => k_is)
    (case zTup => k_is)
    (case zLis => k_is)
    (case zSor => k_is)
    (case zIsi => k_is)
    (case zBoo => k_is)
    (case zInt => k_is)
#print axioms PySem.Challenge.cw_doingbook_k06_drawings_made_holds
