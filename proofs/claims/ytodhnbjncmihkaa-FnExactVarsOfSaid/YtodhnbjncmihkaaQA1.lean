import Derived.Test.YtodhnbjncmihkaaQA0

section
/- The symbolic machine V: append, the object. -/
set_option linter.unusedVariables false
set_option linter.unusedSimpArgs false
namespace Go.Proofs.Ytodhnbjncmihkaa.V
open Go
variable {T : TypeId → Option TI} {w : World} {c : Cx} {S : Sto} {nx : Nat}

/-- A row turns. -/
theorem row_turn {w' : World} {c2 : Cx} {S2 : Sto} {Lo : Nat → Prop} (hg : Gs T w c S nx c2 S2 Lo) {id e ver : Nat} {q : RK} {xs : List (List D)} (ho : geto S2 id = .row e q ver xs) (hfr : q ≠ .froz) (zs : List (List D)) {A : Option Addr} {n m : Nat} (X' : Nat → Prop)
    (hw : w'.os = w.os ∧ w'.tape = w.tape ∧ w'.output = w.output ∧ w.heap.size ≤ w'.heap.size) (hk : ∀ k, k < w.heap.size → ¬ c2.X id k → w'.heap[k]? = w.heap[k]?)
    (hX' : ∀ k, X' k → k < w'.heap.size ∧ (c2.X id k ∨ Lo k ∨ w.heap.size ≤ k)) (hot : q = .tree → Ow T w' X' (.sl e) (.sl zs) (.slice A n m)) (hos : q = .sh → Sh T w' c2.Z X' e zs (.slice A n m)) :
    ∃ c3, Step T w c S nx w' c3 ((id, .row e q (ver + 1) zs) :: S2) nx ∧ LR T w' c3 ((id, .row e q (ver + 1) zs) :: S2) nx (.all id (ver + 1)) (.slice A n m) := by
  have hs := hg.sat
  have hid := row_lt hs ho (by simp)
  let c3 : Cx := ⟨c2.Z, up c2.cur id (.slice A n m), up c2.X id X'⟩
  have hst : Stays c2 S2 nx c3 ((id, .row e q (ver + 1) zs) :: S2) := by
    refine .mk (fun i e' k ver' xs' hi hr => ?_) (fun i t ls' hi hr => ?_)
    · rw [geto_cons] at hr; split at hr
      · rename_i e; subst e; cases hr; exact ⟨_, _, _, ho, .inl (by omega)⟩
      · rename_i hne; exact ⟨k, ver', xs', hr, .inr ⟨rfl, rfl, up_other _ _ _ (Ne.symm hne)⟩⟩
    · rw [geto_cons] at hr; split at hr
      · cases hr
      · rename_i hne; exact ⟨ls', hr, up_other _ _ _ (Ne.symm hne)⟩
  have hcX : c3.X id = X' := up_same _ _ _
  have hcc : c3.cur id = .slice A n m := up_same _ _ _
  refine ⟨c3, ⟨hs.turn hid _ hw.2.2.2 hk (fun i hi => up_other _ _ _ hi) (fun i hi => up_other _ _ _ hi) (fun k hkx => ?_) (fun _ h => h) (fun _ h => .inl h) hst ?_, ⟨hw.1, hw.2.1, hw.2.2.1, hw.2.2.2, fun k hk' hx => ?_, hg.ext.zup, hg.ext.znew, fun i k hk' hx => ?_⟩, hg.st.trans hst (Nat.le_refl _), Nat.le_refl _⟩, hid, ⟨_, _, _, rfl⟩, fun e2 k2 v2 x2 hr2 => ?_⟩
  · rw [hcX] at hkx
    obtain ⟨h1, h2 | h2 | h2⟩ := hX' k hkx
    · exact ⟨h1, hs.xz id k h2, fun i hi h => hi (hs.disj i id k h h2)⟩
    · obtain ⟨_, g2, g3, _⟩ := hg.lo k h2
      exact ⟨h1, g3, fun i _ => g2 i⟩
    · exact ⟨h1, fun h => by have := hs.zlt k h; omega, fun i _ h => by have := hs.xlt i k h; omega⟩
  · cases q with
    | froz => exact absurd rfl hfr
    | tree => simp only [OS]; rw [hcX, hcc]; exact hot rfl
    | sh => simp only [OS]; rw [hcX, hcc]; exact hos rfl
  · refine hk k hk' fun e => ?_
    obtain ⟨i, hi⟩ := hg.ext.xnew id k hk' e
    exact hx i hi
  · by_cases e : i = id
    · subst e
      rw [hcX] at hx
      obtain ⟨h1, h2 | h2 | h2⟩ := hX' k hx
      · exact hg.ext.xnew i k hk' h2
      · exact (hg.lo k h2).2.2.2
      · omega
    · have : c3.X i = c2.X i := up_other _ _ _ e
      rw [this] at hx
      exact hg.ext.xnew i k hk' hx
  · rw [geto_cons, if_pos rfl] at hr2
    cases hr2
    exact ⟨Nat.le_refl _, fun _ => hcc.symm⟩
theorem RowL.take {q : RK} {Y : Nat → Nat → Nat → Prop} {ks : List LK} {xs : List (List D)} {us : List Value} (h : RowL T w c q Y ks xs us) {n : Nat} (hn : n ≤ xs.length) : RowL T w c q Y ks (xs.take n) (us.take (n * ks.length)) := by
  have hle : n * ks.length ≤ us.length := by rw [h.len]; exact Nat.mul_le_mul_right _ hn
  have hx : ∀ {p : Nat} {x : List D}, (xs.take n)[p]? = some x → p < n ∧ xs[p]? = some x := by
    intro p x hp
    have h1 := (List.getElem?_eq_some_iff.1 hp).1
    simp at h1
    rw [List.getElem?_take_of_lt (by omega)] at hp
    exact ⟨by omega, hp⟩
  refine ⟨by simp [Nat.min_eq_left hn]; omega, fun p x hp => h.hx _ _ (hx hp).2, fun hq p x j κ d u a1 a2 a3 a4 => ?_, fun hq p x j κ d u a1 a2 a3 a4 => ?_, h.disj, fun v hv => h.one v (List.mem_of_mem_take hv)⟩
  · obtain ⟨b1, b2⟩ := hx a1
    rw [List.getElem?_take_of_lt (idx_lt b1 (List.getElem?_eq_some_iff.1 a2).1)] at a4
    exact h.own hq _ _ _ _ _ _ b2 a2 a3 a4
  · obtain ⟨b1, b2⟩ := hx a1
    rw [List.getElem?_take_of_lt (idx_lt b1 (List.getElem?_eq_some_iff.1 a2).1)] at a4
    exact h.rd hq _ _ _ _ _ _ b2 a2 a3 a4
theorem heap_drew_alloc (w : World) (o : Obj) (k : Nat) (h : k < w.heap.size) : (w.drew.alloc o).heap[k]? = w.heap[k]? := by
  rw [heap_alloc_old _ _ _ (by simpa using h)]; rfl
theorem zok_len {ks : List LK} {us : List Value} (h : zOks ks us = true) : us.length = ks.length := by
  induction ks generalizing us with
  | nil => cases us <;> simp [zOks] at h ⊢
  | cons κ ks ih =>
    cases us with
    | nil => simp [zOks] at h
    | cons u us =>
      simp only [zOks, Bool.and_eq_true] at h
      simp [ih h.2]
theorem RowL.cond {q : RK} {Y : Nat → Nat → Nat → Prop} {ks : List LK} {xs : List (List D)} {us : List Value} (h : RowL T w c q Y ks xs us) : RowL T w c q (fun p j k => q = .tree ∧ Y p j k) ks xs us := by
  refine ⟨h.len, h.hx, fun hq p x j κ d u a1 a2 a3 a4 => ?_, h.rd, fun p j p' j' k h1 h2 => h.disj _ _ _ _ _ h1.2 h2.2, h.one⟩
  have : (fun k => q = .tree ∧ Y p j k) = Y p j := by funext k; simp [hq]
  rw [this]
  exact h.own hq p x j κ d u a1 a2 a3 a4
theorem RowO.srcTake {P : Program} {id : Nat} {e : TypeId} {ie : TI} {q : RK} {xs : List (List D)} {Y : Nat → Nat → Nat → Prop} {us : List Value} (h : RowO T w c id e ie q xs Y us) {A : Option Addr} {n cap : Nat} (hn : n ≤ xs.length) (hcur : c.cur id = .slice A xs.length cap) : Src P w ie.ks.length (.slice A n cap) n (us.take (n * ie.ks.length)) := by
  rcases h.at_ with ⟨rfl, h1, _⟩ | ⟨b, cap', arr, h1, h2, h3, _⟩
  · simp at hn
    subst hn
    rw [Nat.zero_mul, List.take_zero]
    exact Src.zero
  · rw [hcur] at h1
    injection h1 with h1 _ _
    subst h1
    have hr := h.row.take hn
    refine Src.sliceSome (by rw [hr.len]; simp [Nat.min_eq_left hn]) (fun j v hj => ?_) hr.one
    rw [add_plain, Nat.zero_add, cell_at h2]
    have hlt := (List.getElem?_eq_some_iff.1 hj).1
    rw [h3, List.take_take, Nat.min_eq_left (Nat.mul_le_mul_right _ hn)] at hj hlt
    simp at hlt
    rw [List.getElem?_take_of_lt (by omega), Array.getElem?_toList] at hj
    exact hj
/-- Append to a row of one's own. -/
theorem appOwn {P : Program} {t u0 ty e : TypeId} {ie : TI} {inf : TypeInfo} {z : Value} (hT : T e = some ie) (hat : AT P t u0 e ie inf z) (hby : 1 ≤ ie.bytes)
    {c2 : Cx} {S2 : Sto} {Y2 : Nat → Nat → Nat → Prop} {q : RK} (hfr : q ≠ .froz) (hg : Gs T w c S nx c2 S2 fun b => q = .tree ∧ ∃ p j, Y2 p j b) {id ver : Nat} {xs : List (List D)} (ho : geto S2 id = .row e q ver xs) {A : Option Addr} {n cap : Nat} (hn : n ≤ xs.length) (hcur : c2.cur id = .slice A xs.length cap)
    {ys : List (List D)} {us2 : List Value} (hy : RowL T w c2 q Y2 ie.ks ys us2) {x : Value} (hx : Src P w ie.ks.length x ys.length us2) (hb : (n + ys.length) * ie.bytes ≤ 140737488355328) :
    ∃ r w' c3, (Builtin.append_ #[t, u0] ty #[.slice A n cap, x]).run P w = .ok r w' ∧ Step T w c S nx w' c3 ((id, .row e q (ver + 1) (xs.take n ++ ys)) :: S2) nx ∧ LR T w' c3 ((id, .row e q (ver + 1) (xs.take n ++ ys)) :: S2) nx (.all id (ver + 1)) r := by
  have hs := hg.sat
  have h0 := hs.os id
  rw [ho] at h0
  obtain ⟨Y, us, hopen⟩ := h0.opened hT hfr
  have hr1 := hopen.row.take hn
  have hzl : (xs.take n ++ ys).length = n + ys.length := by simp [Nat.min_eq_left hn]
  have h63 : n + ys.length ≤ 140737488355328 := by
    have : (n + ys.length) * 1 ≤ (n + ys.length) * ie.bytes := Nat.mul_le_mul_left _ hby
    omega
  have hrow := hr1.cond.app hy.cond (fun p j p' j' k h1 h2 => (hg.lo k ⟨h1.1, _, _, h2.2⟩).2.1 id (hopen.sub h1.1 _ _ _ h1.2))
  generalize hYY : (fun p j k => (p < (xs.take n).length ∧ q = .tree ∧ Y p j k) ∨ ((xs.take n).length ≤ p ∧ q = .tree ∧ Y2 (p - (xs.take n).length) j k)) = YY at hrow
  have hYY' : ∀ p j k, YY p j k → q = .tree ∧ ((∃ p j, Y p j k) ∨ ∃ p j, Y2 p j k) := by
    intro p j k h
    rw [← hYY] at h
    rcases h with ⟨_, h1, h2⟩ | ⟨_, h1, h2⟩
    · exact ⟨h1, .inl ⟨_, _, h2⟩⟩
    · exact ⟨h1, .inr ⟨_, _, h2⟩⟩
  have hYlt : ∀ p j k, YY p j k → k < w.heap.size ∧ (c2.X id k ∨ (q = .tree ∧ ∃ p j, Y2 p j k)) := by
    intro p j k h
    obtain ⟨h1, ⟨p', j', h2⟩ | ⟨p', j', h2⟩⟩ := hYY' p j k h
    · have := hopen.sub h1 _ _ _ h2
      exact ⟨hs.xlt id k this, .inl this⟩
    · exact ⟨(hg.lo k ⟨h1, _, _, h2⟩).1, .inr ⟨h1, _, _, h2⟩⟩
  have hlen := hrow.len
  rw [hzl] at hlen
  have hm : (xs.take n ++ ys).length ≤ maxI := by rw [hzl]; simp [maxI]; omega
  have hold := hopen.srcTake (P := P) hn hcur
  -- the row at its place, at a later moment
  have fin : ∀ {w' : World} {r : Value} {b cap' : Nat} {rest : List Value}, (Builtin.append_ #[t, u0] ty #[.slice A n cap, x]).run P w = .ok r w' → r = .slice (some ⟨b, 0, none⟩) (n + ys.length) cap' →
      (w'.os = w.os ∧ w'.tape = w.tape ∧ w'.output = w.output ∧ w.heap.size ≤ w'.heap.size) → (∀ k, k < w.heap.size → k ≠ b → w'.heap[k]? = w.heap[k]?) → b < w'.heap.size → (c2.X id b ∨ w.heap.size ≤ b) → (∀ p j, ¬ YY p j b) →
      w'.heap[b]? = some (.cells (us.take (n * ie.ks.length) ++ us2 ++ rest).toArray e (0, 0)) → (us.take (n * ie.ks.length) ++ us2 ++ rest).length = cap' * ie.ks.length → n + ys.length ≤ cap' →
      ∃ r w' c3, (Builtin.append_ #[t, u0] ty #[.slice A n cap, x]).run P w = .ok r w' ∧ Step T w c S nx w' c3 ((id, .row e q (ver + 1) (xs.take n ++ ys)) :: S2) nx ∧ LR T w' c3 ((id, .row e q (ver + 1) (xs.take n ++ ys)) :: S2) nx (.all id (ver + 1)) r := by
    intro w' r b cap' rest hrun hr hw hk hblt hbX hYb hbh hcap hle
    subst hr
    have hzb : ∀ k, c2.Z k → w'.heap[k]? = w.heap[k]? := fun k hz => hk k (hs.zlt k hz) fun e => by
      subst e
      rcases hbX with h | h
      · exact hs.xz id k h hz
      · have := hs.zlt k hz; omega
    have hrow' : RowL T w' c2 q YY ie.ks (xs.take n ++ ys) (us.take (n * ie.ks.length) ++ us2) := hrow.mono (fun p j k h => hk k (hYlt p j k h).1 fun e => hYb p j (e ▸ h)) hzb (fun _ h => h)
    obtain ⟨c3, h1, h2⟩ := row_turn (A := some ⟨b, 0, none⟩) (n := n + ys.length) (m := cap') (w' := w') hg ho hfr (xs.take n ++ ys) (fun k => k = b ∨ (q = .tree ∧ ∃ p j, p < (xs.take n ++ ys).length ∧ j < ie.ks.length ∧ YY p j k)) hw
      (fun k hk' hx' => hk k hk' fun e => by
        subst e
        rcases hbX with h | h
        · exact hx' h
        · omega)
      (fun k hkx => by
        rcases hkx with rfl | ⟨e, p, j, _, _, h⟩
        · exact ⟨hblt, hbX.elim .inl fun h => .inr (.inr h)⟩
        · obtain ⟨g1, g2⟩ := hYlt p j k h
          exact ⟨by have := hw.2.2.2; omega, g2.elim .inl fun h => .inr (.inl h)⟩)
      (fun e => by
        subst e
        have := hrow'.ow hT hbh hm hcap (by rw [hzl]; exact hle) hYb
        rw [hzl] at this ⊢
        simpa using this)
      (fun e => by
        subst e
        have := hrow'.sh (by simp) (X := fun k => k = b) hT hbh hm hcap (by rw [hzl]; exact hle) (fun k => Iff.rfl)
        rw [hzl] at this
        simpa using this)
    exact ⟨_, _, c3, hrun, h1, h2⟩
  by_cases hroom : n + ys.length ≤ cap
  · rcases hopen.at_ with ⟨rfl, h1, h2⟩ | ⟨b, cap', arr, h1, h2, h3, h4, h5, h6, h7, h8⟩
    · rw [hcur] at h1
      injection h1 with h1 _ h4
      subst h1; subst h4
      simp at hn
      subst hn
      have hy0 : ys = [] := List.eq_nil_of_length_eq_zero (by omega)
      subst hy0
      have hrun := run_app_none (t := t) (u := u0) (ty := ty) hat (by simpa using hx)
      obtain ⟨c3, h4, h5⟩ := row_turn (A := none) (n := 0) (m := 0) (w' := w) hg ho hfr ((([] : List (List D)).take 0) ++ []) (fun _ => False) ⟨rfl, rfl, rfl, Nat.le_refl _⟩ (fun _ _ _ => rfl) (fun _ h => h.elim) (fun _ => .nil fun _ h => h) (fun _ => .nil fun _ h => h)
      exact ⟨_, _, c3, hrun, h4, h5⟩
    · rw [hcur] at h1
      injection h1 with h1 _ h9
      subst h1; subst h9
      have hfit : n * ie.ks.length + us2.length ≤ arr.size := by
        rw [h4, hx.len, ← Nat.add_mul]
        exact Nat.mul_le_mul_right _ hroom
      have hrun := run_app_room (t := t) (u := u0) (ty := ty) hat h2 hx hroom hfit
      have htake : arr.toList.take (n * ie.ks.length) = us.take (n * ie.ks.length) := by
        rw [h3, List.take_take, Nat.min_eq_left (Nat.mul_le_mul_right _ hn)]
      refine fin (b := b) (rest := arr.toList.drop (n * ie.ks.length + us2.length)) hrun rfl ⟨rfl, rfl, rfl, by simp⟩ (fun k _ hk => setRow_other _ _ _ _ hk) (by simpa using hs.xlt id b h6) (.inl h6) (fun p j h => ?_) ?_ ?_ hroom
      · obtain ⟨g1, ⟨p', j', g2⟩ | ⟨p', j', g2⟩⟩ := hYY' p j b h
        · exact h7 g1 _ _ g2
        · exact (hg.lo b ⟨g1, _, _, g2⟩).2.1 id h6
      · rw [setRow_heap _ _ _ _ _ _ h2, put, htake]
      · have := put_size hfit
        rw [put, htake] at this
        simp only [List.size_toArray] at this
        rw [this, h4]
  · have hrun := run_app_grow (t := t) (u := u0) (ty := ty) hat (A := A) (sLen := n) (sCap := cap) (olds := us.take (n * ie.ks.length)) hold.get hx (by omega) hby hb
    have hge := grownCap_ge w (n + ys.length) cap e
    have hzs : z.cells.size = ie.ks.length := by simpa using zok_len hat.he.zok
    refine fin hrun rfl ⟨rfl, rfl, rfl, by simp⟩ (fun k hk _ => heap_drew_alloc _ _ _ hk) (by simp) (.inr (Nat.le_refl _)) (fun p j h => by have := (hYlt p j _ h).1; omega) (heap_alloc_new _ _) ?_ hge
    have hz0 : ∀ m, (Builtin.zeroCells z.cells m).toList.length = m * ie.ks.length := fun m => by rw [Array.length_toList, size_zeroCells, hzs]
    rw [List.length_append, hlen, hz0, ← Nat.add_mul]
    congr 1
    omega
end Go.Proofs.Ytodhnbjncmihkaa.V
end

section
/- The symbolic machine V: append, whole. -/
set_option linter.unusedVariables false
set_option linter.unusedSimpArgs false
namespace Go.Proofs.Ytodhnbjncmihkaa.V
open Go
variable {T : TypeId → Option TI} {w : World} {c : Cx} {S : Sto} {nx : Nat}

theorem newNil {c1 : Cx} {S1 : Sto} {Lo : Nat → Prop} (hg : Gs T w c S nx c1 S1 Lo) (e : TypeId) {q : RK} (hfr : q ≠ .froz) :
    ∃ c', Step T w c S nx w c' ((nx, .row e q 0 []) :: S1) (nx + 1) ∧ LR T w c' ((nx, .row e q 0 []) :: S1) (nx + 1) (.all nx 0) (.slice none 0 0) := by
  have hs := hg.sat
  let c' := c1.new nx (.slice none 0 0) fun _ => False
  have hst : Stays c1 S1 nx c' ((nx, .row e q 0 []) :: S1) := by
    refine .mk (fun id e k ver xs hi hr => ?_) (fun id t ls hi hr => ?_)
    · rw [geto_cons, if_neg (by omega)] at hr
      exact ⟨k, ver, xs, hr, .inr ⟨rfl, rfl, up_other _ _ _ (by omega)⟩⟩
    · rw [geto_cons, if_neg (by omega)] at hr
      exact ⟨ls, hr, up_other _ _ _ (by omega)⟩
  have hXn : c'.X nx = fun _ => False := up_same _ _ _
  have hXo : ∀ id, id ≠ nx → c'.X id = c1.X id := fun id h => up_other _ _ _ h
  have hcn : c'.cur nx = .slice none 0 0 := up_same _ _ _
  have hx : ∀ id b, c'.X id b → c1.X id b := fun id b h => by
    by_cases e : id = nx
    · subst e; rw [hXn] at h; exact h.elim
    · rw [hXo id e] at h; exact h
  have hsat : Sat T w c' ((nx, .row e q 0 []) :: S1) (nx + 1) := by
    refine hs.of hst (by omega) (Nat.le_refl _) (fun _ h => h) (fun _ _ => rfl) (fun id => ?_) (fun id hid => ?_) (fun id id' b h1 h2 => hs.disj id id' b (hx _ _ h1) (hx _ _ h2)) (fun id b h => hs.xz id b (hx _ _ h)) hs.zlt (fun id b h => hs.xlt id b (hx _ _ h))
    · by_cases hid : id = nx
      · subst hid
        refine .inl ?_
        rw [geto_cons, if_pos rfl]
        cases q with
        | froz => exact absurd rfl hfr
        | tree => simp only [OS]; rw [hXn, hcn]; exact .nil fun _ h => h
        | sh => simp only [OS]; rw [hXn, hcn]; exact .nil fun _ h => h
      · exact .inr ⟨by rw [geto_cons, if_neg (Ne.symm hid)], hXo id hid, up_other _ _ _ hid, fun _ _ => rfl⟩
    · rw [geto_cons, if_neg (by omega)]; exact hs.lt id (by omega)
  refine ⟨c', ⟨hsat, hg.ext.trans ⟨rfl, rfl, rfl, Nat.le_refl _, fun _ _ _ => rfl, fun _ h => h, fun _ _ h => .inl h, fun id b _ h => ⟨id, hx _ _ h⟩⟩, hg.st.trans hst (Nat.le_refl _), by omega⟩, by omega, ⟨_, _, _, rfl⟩, fun e2 k2 v2 x2 hr => ?_⟩
  rw [geto_cons, if_pos rfl] at hr
  cases hr
  exact ⟨Nat.le_refl _, fun _ => hcn.symm⟩

/-- A run that yields a value. -/
def GoodV (P : Program) (T : TypeId → Option TI) (w : World) (c : Cx) (S : Sto) (nx : Nat) (s : Sem Value) (K : V → Sto → Nat → Prop) : Prop :=
  ∃ u v w' c' S' nx', s.run P w = .ok u w' ∧ Step T w c S nx w' c' S' nx' ∧ VR T w' c' S' nx' v u ∧ K v S' nx'
theorem TyF.at_of {C : Cfg} (hT : TOk C.P C.T) {t u0 e : TypeId} {i iu ie : TI} (hi : C.T t = some i) (hd : i.d = .sl e) (hu : C.T u0 = some iu) (hud : (match iu.d with | .sl _ => true | .str => true | _ => false) = true) (hie : C.T e = some ie) : ∃ inf z, AT C.P t u0 e ie inf z := by
  obtain ⟨inf, z, ht⟩ := hT.at hi
  obtain ⟨infu, zu, htu⟩ := hT.at hu
  obtain ⟨infe, ze, he⟩ := hT.at hie
  refine ⟨infe, ze, ht.sl hd, ?_, he⟩
  split at hud
  · rename_i e' hd'
    exact ⟨_, htu.sl hd', fun k h => nomatch h⟩
  · rename_i hd'
    exact ⟨_, htu.strT hd', fun k h => nomatch h⟩
  · cases hud
theorem append_sound {C : Cfg} (hT : TOk C.P C.T) (hs : Sat C.T w c S nx) {t u0 ty e : TypeId} {i iu : TI} (hi : C.T t = some i) (hd : i.d = .sl e) (hu : C.T u0 = some iu) (hud : (match iu.d with | .sl _ => true | .str => true | _ => false) = true)
    {s x : L} {us ux : Value} (hls : LR C.T w c S nx s us) (hlx : LR C.T w c S nx x ux) {K : V → Sto → Nat → Prop} (h : appendwp C e s x S nx K) : GoodV C.P C.T w c S nx (Builtin.append_ #[t, u0] ty #[us, ux]) K := by
  unfold appendwp at h
  split at h
  · exact h.elim
  rename_i ie0 hie0
  replace h := guardT_eq h
  obtain ⟨hby, h⟩ := h
  have hby : 1 ≤ ie0.bytes := Nat.le_of_ble_eq_true hby
  obtain ⟨infe, ze, hat⟩ := TyF.at_of hT hi hd hu hud hie0
  have own : ∀ {id ver : Nat} {q : RK} {xs : List (List D)} {A : Option Addr} {n cap : Nat}, geto S id = .row e q ver xs → q ≠ .froz → mem id (idsL x) = false → n ≤ xs.length → c.cur id = .slice A xs.length cap → us = .slice A n cap →
      takeIn C.T e q S x (fun ys q S => (n + ys.length) * ie0.bytes ≤ 140737488355328 ∧ K (.one (.all id (ver + 1))) ((id, .row e q (ver + 1) (xs.take n ++ ys)) :: S) nx) → GoodV C.P C.T w c S nx (Builtin.append_ #[t, u0] ty #[us, ux]) K := by
    intro id ver q xs A n cap hr hfr hm hn hcur hus ht
    obtain ⟨ie, ys, q', S1, c1, Y, us2, hie, ⟨hb, hK⟩, hg, hq, hrow, hsrc, hsame⟩ := takeIn_sound (P := C.P) ht hfr hs hlx
    rw [hie0] at hie; cases hie
    obtain ⟨f1, f2, f3⟩ := hsame id (mem_not hm)
    subst hus
    rcases hq with rfl | rfl
    · obtain ⟨r, w', c3, h1, h2, h3⟩ := appOwn (t := t) (u0 := u0) (ty := ty) hie0 hat hby hfr hg (f1.trans hr) hn (f3.trans hcur) hrow hsrc hb
      exact ⟨r, _, w', c3, _, nx, h1, h2, .one h3, hK⟩
    · cases q with
      | froz => exact absurd rfl hfr
      | sh =>
        obtain ⟨r, w', c3, h1, h2, h3⟩ := appOwn (t := t) (u0 := u0) (ty := ty) hie0 hat hby (by simp) hg (f1.trans hr) hn (f3.trans hcur) hrow hsrc hb
        exact ⟨r, _, w', c3, _, nx, h1, h2, .one h3, hK⟩
      | tree =>
        obtain ⟨c2, hg2, hc2⟩ := Gs.share hg.sat (f1.trans hr)
        have hrow2 := hrow.mono (c' := c2) (w' := w) (fun _ _ _ _ => rfl) (fun _ _ => rfl) hg2.ext.zup
        obtain ⟨r, w', c3, h1, h2, h3⟩ := appOwn (t := t) (u0 := u0) (ty := ty) hie0 hat hby (by simp) ((hg.trans hg2).less fun b hb => by cases hb.1) (by rw [geto_cons, if_pos rfl]) hn (by rw [hc2]; exact f3.trans hcur) hrow2 hsrc hb
        have hsm : ∀ i, geto ((id, O.row e .sh (ver + 1) (xs.take n ++ ys)) :: S1) i = geto ((id, O.row e .sh (ver + 1) (xs.take n ++ ys)) :: (id, O.row e .sh ver xs) :: S1) i := fun i => by
          rw [geto_cons, geto_cons, geto_cons]; split <;> rfl
        have h4 := h2.same hsm
        exact ⟨r, _, w', c3, _, nx, h1, h4, .one (h3.step (Stays.same _ _ hsm) (Nat.le_refl _) (fun _ _ => rfl) (fun _ h => h)), hK⟩
  split at h
  · obtain ⟨rfl, _⟩ := hls
    obtain ⟨ie, ys, q', S1, c1, Y, us2, hie, ⟨hb, hK⟩, hg, hq, hrow, hsrc, hsame⟩ := takeIn_sound (P := C.P) h (by simp) hs hlx
    rw [hie0] at hie; cases hie
    have hfr : q' ≠ .froz := by rcases hq with rfl | rfl <;> simp
    rcases Nat.eq_zero_or_pos ys.length with h0 | h0
    · have : ys = [] := List.eq_nil_of_length_eq_zero h0
      subst this
      obtain ⟨c', h1, h2⟩ := newNil hg e hfr
      exact ⟨_, _, _, c', _, _, run_app_none (t := t) (u := u0) (ty := ty) hat (by simpa using hsrc), h1, .one h2, hK⟩
    · have h63 : ys.length ≤ 140737488355328 := by
        have : ys.length * 1 ≤ ys.length * ie0.bytes := Nat.mul_le_mul_left _ hby
        omega
      have hrun := run_app_grow (t := t) (u := u0) (ty := ty) hat (A := none) (sLen := 0) (sCap := 0) (olds := []) (fun w' _ => run_firstCells_none (P := C.P) w' _ 0 0 0) hsrc (by omega) hby (by rw [Nat.zero_add]; exact hb)
      simp only [List.nil_append, Nat.zero_add] at hrun
      have hge := grownCap_ge w ys.length 0 e
      have hzs : ze.cells.size = ie0.ks.length := by simpa using zok_len hat.he.zok
      have hz0 : ∀ m, (Builtin.zeroCells ze.cells m).toList.length = m * ie0.ks.length := fun m => by rw [Array.length_toList, size_zeroCells, hzs]
      obtain ⟨c', h1, h2⟩ := newRow_step (rest := (Builtin.zeroCells ze.cells (grownCap w ys.length 0 e - ys.length)).toList) hfr hg hie0 hrow (cap := grownCap w ys.length 0 e) (by simp [maxI]; omega) (by rw [List.length_append, hrow.len, hz0, ← Nat.add_mul]; congr 1; omega) hge (w1 := w.drew) ⟨rfl, rfl, rfl, rfl⟩
      exact ⟨_, _, _, c', _, _, hrun, h1, .one h2, hK⟩
  · rename_i id ver
    split at h
    · exact h.elim
    · rename_i e' q ver' xs hfr hr
      replace h := guardT_eq h
      obtain ⟨hb, h⟩ := h
      simp only [Bool.and_eq_true] at hb
      cases beq_t hb.1.1
      cases beq_t hb.1.2
      obtain ⟨h1, ⟨A, n, m, h3⟩, h2⟩ := hls
      have hcur := (h2 _ _ _ _ hr).2 rfl
      have h0 := hs.os id
      rw [hr] at h0
      have hfr' : q ≠ .froz := fun e => hfr e
      have hn : n = xs.length := by
        have hrd := h0.rd
        rw [← hcur, h3] at hrd
        cases hrd with
        | nil => rfl
        | sl => rfl
      subst hn
      refine own hr hfr' (by simpa using hb.2) (Nat.le_refl _) (hcur.symm.trans h3) h3 ?_
      rw [List.take_length]
      exact h
    · exact h.elim
  · rename_i id ver n
    split at h
    · exact h.elim
    · rename_i e' q ver' xs hfr hr
      replace h := guardT_eq h
      obtain ⟨hb, h⟩ := h
      simp only [Bool.and_eq_true] at hb
      cases beq_t hb.1.1
      cases beq_t hb.1.2
      obtain ⟨h1, _, h2⟩ := hls
      obtain ⟨hle, _, h4⟩ := (h2 _ _ _ _ hr).2 rfl
      obtain ⟨A, cap, h5, h6⟩ := h4 rfl
      exact own hr (fun e => hfr e) (by simpa using hb.2) (by omega) h5 h6 h
    · exact h.elim
  · exact h.elim
end Go.Proofs.Ytodhnbjncmihkaa.V
end

section
/- The symbolic machine V: each operation. -/
set_option linter.unusedVariables false
set_option linter.unusedSimpArgs false
namespace Go.Proofs.Ytodhnbjncmihkaa.V
open Go
variable {w : World} {c : Cx} {S : Sto} {nx : Nat}

theorem GoodV.good {P : Program} {T : TypeId → Option TI} {s : Sem Value} {K : V → Sto → Nat → Prop} (h : GoodV P T w c S nx s K) : Good P T w c S nx ((do pure (Next.value (← s)) : Sem Next).run P w) K := by
  obtain ⟨u, v, w', c', S', nx', h1, h2, h3, h4⟩ := h
  exact ⟨u, v, w', c', S', nx', .inl (by simp [h1]), h2, h3, h4⟩
theorem GoodV.still {P : Program} {T : TypeId → Option TI} {s : Sem Value} {K : V → Sto → Nat → Prop} (hs : Sat T w c S nx) {u : Value} {v : V} (h : s.run P w = .ok u w) (hv : VR T w c S nx v u) (hk : K v S nx) : GoodV P T w c S nx s K :=
  ⟨u, v, w, c, S, nx, h, Step.refl hs, hv, hk⟩
theorem fork_sound {T : TypeId → Option TI} {v : V} {u : Value} {K : Bool → Prop} (hv : VR T w c S nx v u) (h : fork v K) : ∃ b, u = .bool b ∧ K b := by
  unfold fork at h
  split at h
  · exact ⟨_, hv.inv1, h⟩
  · rename_i p
    refine ⟨p, hv.inv1.1, ?_⟩
    cases p with
    | true => exact h.1 rfl
    | false => exact h.2 rfl
  · exact h.elim
theorem OS.lenI {T : TypeId → Option TI} {id e ver : Nat} {k : RK} {xs : List (List D)} (h : OS T w c S nx id (.row e k ver xs)) : xs.length ≤ maxI := by
  have := h.rd
  generalize c.cur id = v at this
  cases this with
  | nil => simp
  | sl u hT hm => exact hm
theorem OS.lenV {T : TypeId → Option TI} {id e ver : Nat} {k : RK} {xs : List (List D)} (h : OS T w c S nx id (.row e k ver xs)) {A : Option Addr} {n m : Nat} (hc : c.cur id = .slice A n m) : n = xs.length := by
  have := h.rd
  rw [hc] at this
  cases this with
  | nil => rfl
  | sl u hT hm => rfl

/-- What it yields hangs on no world. -/
def GoodP (P : Program) (T : TypeId → Option TI) (w : World) (c : Cx) (S : Sto) (nx : Nat) (s : Sem Value) (K : V → Prop) : Prop :=
  ∃ u v, (∀ w2, s.run P w2 = .ok u w2) ∧ VR T w c S nx v u ∧ K v
def GoodN (P : Program) (T : TypeId → Option TI) (w : World) (c : Cx) (S : Sto) (nx : Nat) (s : Sem Next) (K : V → Prop) : Prop :=
  ∃ u v, (∀ w2, s.run P w2 = .ok (.value u) w2) ∧ VR T w c S nx v u ∧ K v
theorem GoodP.good {P : Program} {T : TypeId → Option TI} {s : Sem Value} {K : V → Prop} (h : GoodP P T w c S nx s K) : GoodN P T w c S nx (do pure (Next.value (← s)) : Sem Next) K := by
  obtain ⟨u, v, h1, h2, h3⟩ := h
  exact ⟨u, v, fun w2 => by simp [h1], h2, h3⟩
theorem len_sound {C : Cfg} (hT : TOk C.P C.T) (hs : Sat C.T w c S nx) {t ty : TypeId} {i : TI} (hi : C.T t = some i) {v : V} {u : Value} (hv : VR C.T w c S nx v u) {K : V → Prop} (h : lenwp i.d S v K) :
    GoodP C.P C.T w c S nx (Builtin.len_ #[t] ty #[u]) K := by
  obtain ⟨inf, z, ht⟩ := hT.at hi
  have fin : ∀ {n : Nat}, (∀ w2, (Builtin.len_ #[t] ty #[u]).run C.P w2 = .ok (.int .i64 n) w2) → n ≤ maxI → K (.one (.sc (.int .i64 n))) → GoodP C.P C.T w c S nx (Builtin.len_ #[t] ty #[u]) K :=
    fun h1 h2 h3 => ⟨_, _, h1, .one (LR.int (by simp only [maxI] at h2; simp only [rng]; omega)), h3⟩
  unfold lenwp at h
  split at h
  · rename_i s hd
    obtain ⟨rfl, hsz⟩ := str_of hv rfl
    exact fin (fun w2 => by simp [Builtin.len_, underlying, ht.strT hd, goInt]) hsz (h hsz)
  · rename_i e hd
    obtain ⟨rfl, _⟩ := hv.inv1
    exact fin (n := 0) (fun w2 => by simp [Builtin.len_, underlying, ht.sl hd, goInt]) (by simp) h
  · rename_i e e' xs hd
    have hr : Rd C.T w c.Z (.sl e') (.sl xs) u := hv.inv1
    cases hr with
    | nil => exact fin (n := 0) (fun w2 => by simp [Builtin.len_, underlying, ht.sl hd, goInt]) (by simp) (h (by simp))
    | sl u hT' hm => exact fin (n := xs.length) (fun w2 => by simp [Builtin.len_, underlying, ht.sl hd, goInt]) hm (h hm)
  · rename_i e id ver hd
    split at h
    · rename_i e' k ver' xs hr
      replace h := guardT_eq h
      obtain ⟨hb, h⟩ := h
      cases beq_t hb
      obtain ⟨h1, ⟨A, n, m, rfl⟩, h2⟩ := hv.inv1
      have hcur := (h2 _ _ _ _ hr).2 rfl
      have h0 := hs.os id
      rw [hr] at h0
      have hn := h0.lenV hcur.symm
      subst hn
      exact fin (fun w2 => by simp [Builtin.len_, underlying, ht.sl hd, goInt]) h0.lenI (h h0.lenI)
    · exact h.elim
  · rename_i e id ver lo n hd
    split at h
    · rename_i e' k ver' xs hr
      replace h := guardT_eq h
      obtain ⟨hb, h⟩ := h
      cases beq_t hb
      obtain ⟨h1, ⟨A, m, rfl, _⟩, h2⟩ := hv.inv1
      obtain ⟨hle, _⟩ := (h2 _ _ _ _ hr).2 rfl
      have h0 := hs.os id
      rw [hr] at h0
      have hm := h0.lenI
      have hn : n ≤ maxI := by omega
      exact fin (fun w2 => by simp [Builtin.len_, underlying, ht.sl hd, goInt]) hn (h hn)
    · exact h.elim
  · exact h.elim

/-- Literals of structs. -/
theorem fsOk_places {P : Program} : ∀ {fs : List (Nat × TypeId)} {l : List Field}, fsOk P fs l = true → ∃ places, l.mapM (fun f => (P.info? f.type).map fun i => (f.offset, i.size)) = some places ∧ ∀ f o ft, fieldOff fs f = some (o, ft) → ∃ i, P.info? ft = some i ∧ places[f]? = some (o, i.size)
  | [], [], _ => ⟨[], by simp, fun f o ft h => by simp [fieldOff] at h⟩
  | [], _ :: _, h => by simp [fsOk] at h
  | _ :: _, [], h => by simp [fsOk] at h
  | (o', t') :: fs, fl :: l, h => by
    simp only [fsOk, Bool.and_eq_true] at h
    obtain ⟨⟨⟨h1, h2⟩, h3⟩, h4⟩ := h
    obtain ⟨places, h5, h6⟩ := fsOk_places h4
    split at h3
    · rename_i i hi
      refine ⟨(fl.offset, i.size) :: places, by simp [List.mapM_cons, hi, h5], fun f o ft hf => ?_⟩
      cases f with
      | zero =>
        simp only [fieldOff, Option.some.injEq, Prod.mk.injEq] at hf
        obtain ⟨rfl, rfl⟩ := hf
        refine ⟨i, by rw [beq_t h2]; exact hi, by simp [beq_t h1]⟩
      | succ f => exact h6 f o ft hf
    · simp at h3
theorem fill_sound {C : Cfg} (hT : TOk C.P C.T) {fs : List (Nat × TypeId)} {places : List (Nat × Nat)} (hp : ∀ f o ft, fieldOff fs f = some (o, ft) → ∃ i, C.P.info? ft = some i ∧ places[f]? = some (o, i.size)) {F : Frm} {a : Act} (hF : ∀ t, VR C.T w c S nx (get F t) (a.tmps.getD t undef)) :
    ∀ {parts : List (Nat × Operand)} {ls : List L} {cells : Array Value} {ls' : List L}, (∀ p ∈ parts, xOk p.2 = true) → LRs C.T w c S nx ls cells.toList → fillL C.T fs F ls parts = some ls' →
      ∃ cells', Instr.fill (places.toArray[·]?) cells (parts.map fun p => (p.1, a.eval p.2)) = some cells' ∧ LRs C.T w c S nx ls' cells'.toList
  | [], ls, cells, ls', _, hl, h => by
    simp only [fillL, Option.some.injEq] at h
    subst h
    exact ⟨cells, rfl, hl⟩
  | (f, x) :: r, ls, cells, ls', hx, hl, h => by
    simp only [fillL] at h
    split at h
    · rename_i o ft vs hf hvs
      split at h
      · rename_i fi hfi
        split at h
        · rename_i hb
          simp only [Bool.and_eq_true] at hb
          have hn := beq_t hb.1
          have hle := Nat.le_of_ble_eq_true hb.2
          have hv := Value.cells_list (ev_sound hF (hx (f, x) (by simp))) hvs
          obtain ⟨i, h1, h2⟩ := hp f o ft hf
          obtain ⟨inf, z, hti⟩ := hT.at hfi
          have h3 : i.size = fi.ks.length := by
            have := hti.hi
            rw [h1] at this
            rw [Option.some.inj this, hti.size]
          have hlen := hl.1
          have hvl := hv.1
          simp at hlen hvl
          have hsz : o + (a.eval x).cells.size ≤ cells.size := by omega
          have := fill_one (a.eval x) o cells hsz
          obtain ⟨cells', h4, h5⟩ := fill_sound hT hp hF (parts := r) (fun p hp => hx p (by simp [hp])) (hl.splice hv hle) h
          refine ⟨cells', ?_, h5⟩
          simp only [List.map_cons, Instr.fill]
          have h2' : places.toArray[f]? = some (o, i.size) := by simpa using h2
          rw [h2']
          simp only
          have e1 : (a.eval x).cells.size = i.size := by omega
          rw [if_neg (by simp [e1]; omega), this]
          exact h4
        · cases h
      · cases h
    · cases h
theorem capIds_sound {T : TypeId → Option TI} : ∀ {vs : List V} {us : List Value} {ids : List Nat}, us.length = vs.length → (∀ (j : Nat) (v : V) (u : Value), vs[j]? = some v → us[j]? = some u → VR T w c S nx v u) → capIds vs = some ids → boxesB S ids = true →
    (∀ id, id ∈ ids → id < nx) ∧ us.length = ids.length ∧ ∀ (q id : Nat), ids[q]? = some id → ∃ x, us[q]? = some x ∧ (∃ a, x = .pointer (some a)) ∧ ∀ t ls, geto S id = .box t ls → x = c.cur id
  | [], us, ids, hl, hv, h, _ => by
    simp only [capIds, Option.some.injEq] at h
    subst h
    exact ⟨fun id h => by simp at h, by simpa using hl, fun q id h => by simp at h⟩
  | v :: vs, us, ids, hl, hv, h, hb => by
    unfold capIds at h
    split at h
    · rename_i h'; cases h'
    · rename_i id0 v0 p0 vs' heq
      cases heq
      cases us with
      | nil => simp at hl
      | cons u us =>
      split at h
      · rename_i ids' hids
        cases h
        unfold boxesB at hb
        split at hb
        · rename_i t0 ls0 ho
          obtain ⟨h1, h2, h3⟩ := capIds_sound (us := us) (by simpa using hl) (fun j v u a b => hv (j + 1) v u (by simpa using a) (by simpa using b)) hids hb
          have h4 := (hv 0 _ _ rfl rfl).inv1
          obtain ⟨g1, g2, g3, g4⟩ := h4
          refine ⟨fun id hid => ?_, by simp [h2], fun q id hq => ?_⟩
          · rcases List.mem_cons.1 hid with rfl | hid
            · exact g1
            · exact h1 id hid
          · cases q with
            | zero =>
              simp at hq; subst hq
              refine ⟨u, rfl, g2, fun t ls hr => ?_⟩
              obtain ⟨b, g5, g6⟩ := g4 t ls hr
              rw [g5, g6]
            | succ q => exact h3 q id (by simpa using hq)
        · cases hb
      · cases h
    · cases h
theorem argsOf_get {F : Frm} : ∀ {xs : List Operand} {j : Nat} {v : V}, (argsOf F xs)[j]? = some v → ∃ x, xs[j]? = some x ∧ v = ev F x
  | [], j, v, h => by simp [argsOf] at h
  | x :: xs, 0, v, h => by simp [argsOf] at h; exact ⟨x, rfl, h.symm⟩
  | x :: xs, j + 1, v, h => by
    obtain ⟨y, h1, h2⟩ := argsOf_get (xs := xs) (j := j) (by simpa [argsOf] using h)
    exact ⟨y, by simpa using h1, h2⟩
theorem argsOf_len {F : Frm} : ∀ (xs : List Operand), (argsOf F xs).length = xs.length
  | [] => rfl
  | x :: xs => by simp [argsOf, argsOf_len xs]
theorem argsOf_sound {T : TypeId → Option TI} {F : Frm} {a : Act} (hF : ∀ t, VR T w c S nx (get F t) (a.tmps.getD t undef)) {xs : List Operand} (hx : ∀ x ∈ xs, xOk x = true) (j : Nat) (v : V) (u : Value) (h1 : (argsOf F xs)[j]? = some v) (h2 : (xs.map a.eval)[j]? = some u) : VR T w c S nx v u := by
  obtain ⟨x, h3, rfl⟩ := argsOf_get h1
  rw [List.getElem?_map, h3] at h2
  cases h2
  exact ev_sound hF (hx x (List.mem_of_getElem? h3))
end Go.Proofs.Ytodhnbjncmihkaa.V
end

section
/- The symbolic machine V: each operation, whole. -/
set_option linter.unusedVariables false
set_option linter.unusedSimpArgs false
namespace Go.Proofs.Ytodhnbjncmihkaa.V
open Go
variable {w : World} {c : Cx} {S : Sto} {nx : Nat}

def isFn (op : Op) : Bool :=
  match op with
  | .call c => match c.callee with | .value _ => true | _ => false
  | _ => false
theorem opsOk1 {o : Op} {x : Operand} (h : ∀ x ∈ o.operands.toList, xOk x = true) (hx : x ∈ o.operands.toList) : xOk x = true := h x hx
theorem args1 {F : Frm} {xs : Array Operand} {v : V} (h : argsOf F xs.toList = [v]) : ∃ x, xs = #[x] ∧ v = ev F x := by
  have hl := congrArg List.length h
  rw [argsOf_len] at hl
  obtain ⟨l⟩ := xs
  match l, hl, h with
  | [x], _, h => exact ⟨x, rfl, by simpa [argsOf] using h.symm⟩
theorem args2 {F : Frm} {xs : Array Operand} {v1 v2 : V} (h : argsOf F xs.toList = [v1, v2]) : ∃ x y, xs = #[x, y] ∧ v1 = ev F x ∧ v2 = ev F y := by
  have hl := congrArg List.length h
  rw [argsOf_len] at hl
  obtain ⟨l⟩ := xs
  match l, hl, h with
  | [x, y], _, h =>
    simp only [argsOf, List.cons.injEq, and_true] at h
    exact ⟨x, y, rfl, h.1.symm, h.2.symm⟩
/-- What it yields hangs on no world. -/
def isPure (op : Op) : Bool :=
  match op with
  | .move _ | .assign _ | .pick _ _ _ | .build _ _ | .nilCheck _ | .binOp _ _ _ _ _ | .unOp _ _ _ | .convert _ _ _ | .slice _ _ _ _ _
  | .fieldAddr _ _ _ | .field _ _ _ | .indexAddr _ _ _ | .index _ _ _ | .extract _ _ | .makeFunc _ _ _ => true
  | .call c => match c.callee with
    | .builtin .len | .builtin .min | .builtin .max => true
    | _ => false
  | _ => false
theorem pure_sound {C : Cfg} (hT : TOk C.P C.T) (hs : Sat C.T w c S nx) {F : Frm} {a : Act} (hF : ∀ t, VR C.T w c S nx (get F t) (a.tmps.getD t undef)) {o : Oper} (hx : ∀ x ∈ o.op.operands.toList, xOk x = true) (hp : isPure o.op = true) {K : V → Sto → Nat → Prop} (h : execwp C o.op F S nx K) :
    GoodN C.P C.T w c S nx (execOp a.eval o) fun v => K v S nx := by
  have ev1 : ∀ {x : Operand}, xOk x = true → VR C.T w c S nx (ev F x) (a.eval x) := fun h => ev_sound hF h
  unfold execOp
  generalize o.op = op at hx hp h
  unfold execwp at h
  split at h
  · -- move
    exact ⟨_, _, fun _ => rfl, ev1 (hx _ (by simp [Op.operands])), force_eq h⟩
  · exact ⟨_, _, fun _ => rfl, ev1 (hx _ (by simp [Op.operands])), force_eq h⟩
  · -- pick
    rename_i cc x y
    obtain ⟨b, h1, h2⟩ := fork_sound (ev1 (hx cc (by simp [Op.operands]))) h
    cases b with
    | true => exact ⟨_, _, fun w2 => by simp only [h1, asBool, Sem.run_bind, Sem.run_pure, Result.andThen_ok]; rfl, ev1 (hx x (by simp [Op.operands])), force_eq h2⟩
    | false => exact ⟨_, _, fun w2 => by simp only [h1, asBool, Sem.run_bind, Sem.run_pure, Result.andThen_ok]; rfl, ev1 (hx y (by simp [Op.operands])), force_eq h2⟩
  · -- alloc
    simp [isPure] at hp
  · -- box
    simp [isPure] at hp
  · -- build
    rename_i t parts
    split at h
    · rename_i i hi
      split at h
      · rename_i fs hd
        split at h
        · rename_i ls hls
          replace h := guardT_eq h
          obtain ⟨hn, h⟩ := h
          obtain ⟨inf, z, ht⟩ := hT.at hi
          obtain ⟨arr, hu, hfs⟩ := ht.st hd
          obtain ⟨places, hp, hpl⟩ := fsOk_places hfs
          obtain ⟨cells', h1, h2⟩ := fill_sound hT hpl hF (parts := parts.toList) (fun p hp => hx _ (by simp [Op.operands]; exact ⟨p.1, by simpa using hp⟩)) (zLs (T := C.T) ht.zok hn) hls
          refine GoodP.good ⟨.agg cells', _, fun w2 => run_build w2 t _ cells' ?_, .agg h2, h⟩
          simp only [Program.built, ht.hi, hu, ht.hz, hp]
          simpa using h1
        · exact h.elim
      · exact h.elim
    · exact h.elim
  · -- buildSlice
    simp [isPure] at hp
  · -- makeSlice
    simp [isPure] at hp
  · -- load
    simp [isPure] at hp
  · -- store
    simp [isPure] at hp
  · -- nilCheck
    rename_i x
    have hv := ev1 (hx x (by simp [Op.operands]))
    split at h
    · rename_i id ver i j heq
      rw [heq] at hv
      obtain ⟨_, ⟨ad, e⟩, _⟩ := hv.inv1
      simp only [e]
      rw [e] at hv
      exact ⟨_, _, fun _ => rfl, hv, h⟩
    · rename_i ks ds j heq
      rw [heq] at hv
      obtain ⟨ad, e, _⟩ := hv.inv1
      simp only [e]
      rw [e] at hv
      exact ⟨_, _, fun _ => rfl, hv, h⟩
    · rename_i f cs heq
      rw [heq] at hv
      obtain ⟨_, us, e, _⟩ := hv.inv1
      simp only [e]
      rw [e] at hv
      exact ⟨_, _, fun _ => rfl, hv, h⟩
    · exact h.elim
  · -- binOp
    rename_i bop t x y _
    split at h
    · rename_i l r hl hr
      have h1 := ev1 (hx x (by simp [Op.operands]))
      have h2 := ev1 (hx y (by simp [Op.operands]))
      rw [hl] at h1
      rw [hr] at h2
      obtain ⟨l', u, h3, h4, h5⟩ := bin_sound (P := C.P) (t := t) (fun hb => by
        split at hb
        · rename_i i hi
          obtain ⟨inf, z, ht⟩ := hT.at hi
          split at hb
          · rename_i hd; exact ht.boolT hd
          · cases hb
        · cases hb) h1.inv1 h2.inv1 h x y
      exact GoodP.good ⟨_, _, h3, .one h4, h5⟩
    · exact h.elim
  · -- unOp
    rename_i uop t x
    split at h
    · rename_i l hl
      have h1 := ev1 (hx x (by simp [Op.operands]))
      rw [hl] at h1
      obtain ⟨l', u, h3, h4, h5⟩ := un_sound (P := C.P) h1.inv1 h
      exact GoodP.good ⟨_, _, h3, .one h4, h5⟩
    · exact h.elim
  · -- convert
    rename_i s d x
    have h1 := ev1 (hx x (by simp [Op.operands]))
    split at h
    · rename_i is i k n his hi heq
      obtain ⟨infs, zs, hts⟩ := hT.at his
      obtain ⟨inf, z, ht⟩ := hT.at hi
      obtain ⟨ds, hds⟩ : ∃ ds, C.P.underlying s = some ds := by
        have := hts.d
        unfold dOk at this
        split at this <;> first | (simp at this; done) | exact ⟨_, by assumption⟩
      rw [heq] at h1
      obtain ⟨e, _, hr, _⟩ := h1.inv1
      have hr := hr _ _ rfl
      split at h
      · rename_i k' hd
        have hrun : ∀ w2, (convert s d (a.eval x)).run C.P w2 = .ok (.int k' (k'.wrap n)) w2 := fun w2 => by
          rw [e]
          cases ds <;> simp [convert, underlying, hds, ht.intT hd, Conv.intToInt]
        split at h
        · rename_i hk
          cases kEq_t hk
          rw [rng_of_wrap hr] at hrun
          exact GoodP.good ⟨_, _, hrun, .one (LR.int hr), h⟩
        · exact GoodP.good ⟨_, _, hrun, .one (LR.int (rng_wrap _ _)), h⟩
      · exact h.elim
    · rename_i is i s' his hi heq
      obtain ⟨infs, zs, hts⟩ := hT.at his
      obtain ⟨inf, z, ht⟩ := hT.at hi
      obtain ⟨ds, hds⟩ : ∃ ds, C.P.underlying s = some ds := by
        have := hts.d
        unfold dOk at this
        split at this <;> first | (simp at this; done) | exact ⟨_, by assumption⟩
      rw [heq] at h1
      obtain ⟨e, _, _, hr⟩ := h1.inv1
      split at h
      · rename_i hd
        have hrun : ∀ w2, (convert s d (a.eval x)).run C.P w2 = .ok (.string s') w2 := fun w2 => by
          rw [e]
          cases ds <;> simp [convert, underlying, hds, ht.strT hd]
        exact GoodP.good ⟨_, _, hrun, .one (LR.strv (hr _ rfl)), h⟩
      · exact h.elim
    · exact h.elim
  · -- slice
    rename_i t x lo hi
    split at h
    · rename_i i hti
      replace h := guardT_eq h
      obtain ⟨hg, h⟩ := h
      obtain ⟨r, v', h1, h2, h3⟩ := slice_sound hT hs hF hti (ev1 (hx x (by simp [Op.operands]))) (fun o ho => hx o (by subst ho; simp [Op.operands])) (fun o ho => hx o (by subst ho; simp [Op.operands])) (fun e he => by
        rw [he] at hg
        simp only at hg
        split at hg
        · exact ⟨_, by assumption⟩
        · cases hg) h
      exact GoodP.good ⟨_, _, h1, h2, h3⟩
    · exact h.elim
  · -- fieldAddr
    rename_i t x f
    split at h
    · rename_i i hi
      split at h
      · rename_i fs hd
        split at h
        · rename_i o' ft hf'
          have h1 := ev1 (hx x (by simp [Op.operands]))
          split at h
          · rename_i id ver p j heq
            rw [heq] at h1
            have hl := h1.inv1
            obtain ⟨_, ⟨ad, e⟩, _⟩ := hl
            simp only [e]
            have hl := h1.inv1
            rw [e] at hl
            exact GoodP.good ⟨_, _, fun _ => run_fieldAt hT hi hd hf' ad, .one hl.move, h⟩
          · rename_i ks ds j heq
            rw [heq] at h1
            have hl := h1.inv1
            obtain ⟨ad, e, _⟩ := hl
            simp only [e]
            have hl := h1.inv1
            rw [e] at hl
            exact GoodP.good ⟨_, _, fun _ => run_fieldAt hT hi hd hf' ad, .one hl.rmove, h⟩
          · exact h.elim
        · exact h.elim
      · exact h.elim
    · exact h.elim
  · -- field
    rename_i t x f
    split at h
    · rename_i i ls hi heq
      split at h
      · rename_i fs hd
        split at h
        · rename_i o' ft hf'
          split at h
          · rename_i fi hfi
            replace h := guardT_eq h
            obtain ⟨hb, h⟩ := h
            have h1 := ev1 (hx x (by simp [Op.operands]))
            rw [heq] at h1
            generalize hu : a.eval x = u at h1
            cases h1 with
            | agg hl =>
              obtain ⟨u', h2, h3⟩ := field_sound hT hl hi hd hf' hfi (Nat.le_of_ble_eq_true hb)
              exact GoodP.good ⟨_, _, (by rw [hu]; exact h2), h3, force_eq h⟩
          · exact h.elim
        · exact h.elim
      · exact h.elim
    · exact h.elim
  · -- indexAddr
    rename_i t x ix
    obtain ⟨r, v', h1, h2, h3⟩ := index_sound hT hs (ev1 (hx x (by simp [Op.operands]))) (ev1 (hx ix (by simp [Op.operands]))) h
    exact GoodP.good ⟨_, _, h1, h2, h3⟩
  · -- index
    rename_i t x ix
    split at h
    · rename_i i s n hi hsx hn
      split at h
      · rename_i hd
        obtain ⟨hb, h⟩ := h
        obtain ⟨inf, z, ht⟩ := hT.at hi
        obtain ⟨e1, _⟩ := str_of (ev1 (hx x (by simp [Op.operands]))) hsx
        obtain ⟨k, e2, _⟩ := Rd.int_of (ev1 (hx ix (by simp [Op.operands]))) hn
        have hlt : n.toNat < s.data.size := by
          have : s.size = s.data.size := rfl
          omega
        have hrun : ∀ w2, (Instr.index t (a.eval x) (a.eval ix)).run C.P w2 = .ok (.int .u8 ((s.data.getD n.toNat 0).toNat : Int)) w2 := fun w2 => by
          rw [e1, e2]
          have hget : s[n.toNat]? = some (s.data.getD n.toNat 0) := by
            rw [show s[n.toNat]? = s.data[n.toNat]? from by
              rw [getElem?_def, getElem?_def]
              rfl]
            have hlt' : n.toNat < s.size := hlt
            simp [Array.getD, hlt']
          simp [Instr.index, asIntOf, underlying, ht.strT hd, hb.1, hget]
        exact GoodP.good ⟨_, _, hrun, .one (LR.int (by
          have := (s.data.getD n.toNat 0).toNat_lt
          simp only [rng]; omega)), h⟩
      · exact h.elim
    · exact h.elim
  · -- extract
    rename_i x j
    split at h
    · rename_i vs heq
      replace h := guardT_eq h
      obtain ⟨hb, h⟩ := h
      have hj : j < vs.length := by
        have : Nat.ble (j + 1) vs.length = true := hb
        exact Nat.le_of_ble_eq_true this
      have h1 := ev1 (hx x (by simp [Op.operands]))
      rw [heq] at h1
      generalize hu : a.eval x = u at h1
      cases h1 with
      | @tup _ us hl hv =>
        have e1 : us[j]? = some us[j] := Array.getElem?_eq_getElem (by omega)
        refine GoodP.good ⟨us[j], vs.getD j .junk, ?_, ?_, force_eq h⟩
        · intro w2; simp [Instr.extract, hu, e1]
        · exact hv j _ _ (by simp [List.getD, List.getElem?_eq_getElem hj]) e1
    · exact h.elim
  · -- makeFunc
    rename_i f first caps
    replace h := guardT_eq h
    obtain ⟨hb, h⟩ := h
    split at h
    · rename_i ids hids
      replace h := guardT_eq h
      obtain ⟨hbox, h⟩ := h
      have hz := beq_t hb
      have hfe : first = #[] := Array.eq_empty_of_size_eq_zero hz
      subst hfe
      obtain ⟨h1, h2, h3⟩ := capIds_sound (us := caps.toList.map a.eval) (by simp [argsOf_len]) (fun j v u g1 g2 => argsOf_sound hF (fun x hx' => hx x (by simpa [Op.operands] using hx')) j v u g1 g2) hids hbox
      refine GoodP.good ⟨.func (.func f) #[] (caps.toList.map a.eval).toArray, .one (.fn f ids), ?_, .one ⟨h1, _, rfl, h2, h3⟩, h⟩
      have e : Array.map a.eval caps = (caps.toList.map a.eval).toArray := by apply Array.ext'; simp
      intro w2
      show Result.ok (Value.func (.func f) (Array.map a.eval #[]) (Array.map a.eval caps)) w2 = _
      rw [e, List.map_toArray, List.map_nil]
    · exact h.elim
  · -- call
    rename_i cl
    have hargs : ∀ x ∈ cl.args.toList, xOk x = true := fun x hx' => hx x (by simp [Op.operands, Call.operands]; simp at hx'; exact .inr hx')
    have hA := fun j v u => argsOf_sound hF hargs j v u
    split at h
    · -- len
      rename_i hcl
      split at h
      · rename_i v t hv ht
        split at h
        · rename_i i hi
          obtain ⟨x, hx1, rfl⟩ := args1 hv
          have ht1 : cl.argTypes = #[t] := Array.toList_inj.1 (by simpa using ht)
          have h1 := hA 0 (ev F x) (a.eval x) (by rw [hv]; rfl) (by rw [hx1]; rfl)
          obtain ⟨u, v, g1, g2, g3⟩ := len_sound hT hs (ty := o.type) hi h1 h
          refine ⟨u, v, fun w2 => ?_, g2, g3⟩
          simp only [resolve, hcl, ht1, hx1]
          rw [Sem.run_bind]
          simp only [Sem.run_pure, Result.andThen_ok, invoke, builtin, List.map_toArray, List.map_cons, List.map_nil]
          simp [g1]
        · exact h.elim
      · exact h.elim
    · rename_i hcl; simp [isPure, hcl] at hp
    · -- min
      rename_i hcl
      split at h
      · rename_i k n k' m hv
        replace h := guardT_eq h
        obtain ⟨hk, h⟩ := h
        cases kEq_t hk
        obtain ⟨x1, x2, hx1, e1, e2⟩ := args2 hv
        have h1 := (hA 0 _ (a.eval x1) (by rw [hv]; rfl) (by rw [hx1]; rfl)).inv1
        have h2 := (hA 1 _ (a.eval x2) (by rw [hv]; rfl) (by rw [hx1]; rfl)).inv1
        refine ⟨.int k (if m < n then m else n), _, fun w2 => ?_, .one (LR.int ?_), h⟩
        · simp only [resolve, hcl, hx1]
          rw [Sem.run_bind]
          simp only [Sem.run_pure, Result.andThen_ok, invoke, builtin, List.map_toArray, List.map_cons, List.map_nil]
          rw [h1.1, h2.1]; simp [run_min_int2]
        · split
          · exact h2.2.2.1 _ _ rfl
          · exact h1.2.2.1 _ _ rfl
      · exact h.elim
    · -- max
      rename_i hcl
      split at h
      · rename_i k n k' m hv
        replace h := guardT_eq h
        obtain ⟨hk, h⟩ := h
        cases kEq_t hk
        obtain ⟨x1, x2, hx1, e1, e2⟩ := args2 hv
        have h1 := (hA 0 _ (a.eval x1) (by rw [hv]; rfl) (by rw [hx1]; rfl)).inv1
        have h2 := (hA 1 _ (a.eval x2) (by rw [hv]; rfl) (by rw [hx1]; rfl)).inv1
        refine ⟨.int k (if m > n then m else n), _, fun w2 => ?_, .one (LR.int ?_), h⟩
        · simp only [resolve, hcl, hx1]
          rw [Sem.run_bind]
          simp only [Sem.run_pure, Result.andThen_ok, invoke, builtin, List.map_toArray, List.map_cons, List.map_nil]
          rw [h1.1, h2.1]; simp [run_max_int2]
        · split
          · exact h2.2.2.1 _ _ rfl
          · exact h1.2.2.1 _ _ rfl
      · exact h.elim
    · rename_i g hcl
      simp [isPure, hcl] at hp
    · exact h.elim
  · exact h.elim
/-- What it does makes new memory alone. -/
def isNew (op : Op) : Bool :=
  match op with
  | .alloc _ | .box _ _ | .buildSlice _ _ _ | .makeSlice _ _ _ => true
  | _ => false
def GoodA (P : Program) (T : TypeId → Option TI) (w : World) (c : Cx) (S : Sto) (nx : Nat) (q : Bool) (r : Result Next) (K : V → Sto → Nat → Prop) : Prop :=
  ∃ u v w' c' S' nx', (r = .ok (.value u) w' ∨ (r = .ok .skip w' ∧ u = undef)) ∧ Step T w c S nx w' c' S' nx' ∧ VR T w' c' S' nx' v u ∧ K v S' nx' ∧ (q = true → Quiet w w')
theorem exec_sound {C : Cfg} (hT : TOk C.P C.T) (hs : Sat C.T w c S nx) {F : Frm} {a : Act} (hF : ∀ t, VR C.T w c S nx (get F t) (a.tmps.getD t undef)) {o : Oper} (hx : ∀ x ∈ o.op.operands.toList, xOk x = true) (hf : isFn o.op = false) {K : V → Sto → Nat → Prop} (h : execwp C o.op F S nx K) :
    GoodA C.P C.T w c S nx (isNew o.op || isPure o.op) ((execOp a.eval o).run C.P w) K := by
  by_cases hp : isPure o.op = true
  · obtain ⟨u, v, h1, h2, h3⟩ := pure_sound hT hs hF hx hp h
    refine ⟨u, v, w, c, S, nx, .inl (h1 w), Step.refl hs, h2, h3, fun _ b _ => rfl⟩
  have hp : isPure o.op = false := by simpa using hp
  have ev1 : ∀ {x : Operand}, xOk x = true → VR C.T w c S nx (ev F x) (a.eval x) := fun h => ev_sound hF h
  unfold execOp
  generalize o.op = op at hx hf h hp
  unfold execwp at h
  split at h
  · simp [isPure] at hp
  · simp [isPure] at hp
  · simp [isPure] at hp
  · -- alloc
    rename_i t
    split at h
    · rename_i i hi
      replace h := guardT_eq h
      obtain ⟨hn, h⟩ := h
      obtain ⟨inf, z, ht⟩ := hT.at hi
      obtain ⟨c', h1, h2⟩ := newBox hs (t := t) (us := z.cells) (zLs (T := C.T) ht.zok hn)
      refine ⟨_, _, _, c', _, _, .inl ?_, h1, .one h2, h, fun _ => Quiet.alloc _ _⟩
      simp [Instr.alloc, zeroValue, typeInfo, ht.hi, ht.hz, newVar, newRow]
    · exact h.elim
  · -- box
    rename_i t x
    split at h
    · rename_i i ls hi hls
      replace h := guardT_eq h
      obtain ⟨hn, h⟩ := h
      have hv := Value.cells_list (ev1 (hx x (by simp [Op.operands]))) hls
      obtain ⟨c', h1, h2⟩ := newBox hs (t := t) (us := (a.eval x).cells) hv
      refine ⟨_, _, _, c', _, _, .inl ?_, h1, .one h2, h, fun _ => Quiet.alloc _ _⟩
      simp [Instr.box, newVar, newRow]
    · exact h.elim
  · simp [isPure] at hp
  · -- buildSlice
    rename_i t len parts
    split at h
    · rename_i i hi
      split at h
      · rename_i e hd
        split at h
        · rename_i ie hie
          replace h := guardT_eq h
          obtain ⟨hb, h⟩ := h
          simp only [Bool.and_eq_true] at hb
          have hlen := beq_t hb.2
          subst hlen
          obtain ⟨r, w', c', S', v, h1, h2, h3, h4, h5⟩ := buildSlice_sound hT hs hi hd hie hF (parts := parts) (fun p hp => hx _ (by simp [Op.operands]; exact ⟨p.1, by simpa using hp⟩)) (Nat.le_of_ble_eq_true hb.1.1) (Nat.le_of_ble_eq_true hb.1.2) h
          refine ⟨r, v, w', c', S', _, .inl ?_, h2, h3, h4, fun _ => h5⟩
          rw [Sem.run_bind]
          exact (congrArg (fun x => Result.andThen x fun a w' => Sem.run C.P (pure (Next.value a)) w') h1).trans rfl
        · exact h.elim
      · exact h.elim
    · exact h.elim
  · -- makeSlice
    rename_i t l cc
    split at h
    · rename_i i n m hi hn hm
      split at h
      · rename_i e hd
        split at h
        · rename_i ie hie
          replace h := guardT_eq h
          obtain ⟨hb, rfl, ⟨h0, hby⟩, h⟩ := h
          simp only [Bool.and_eq_true] at hb
          obtain ⟨kl, e1, _⟩ := Rd.int_of (ev1 (hx l (by simp [Op.operands]))) hn
          obtain ⟨kc, e2, _⟩ := Rd.int_of (ev1 (hx cc (by simp [Op.operands]))) hm
          obtain ⟨r, w', c', h1, h2, h3, h4⟩ := makeSlice_sound hT hs hi hd hie hb.1 (kl := kl) (kc := kc) h0 (Nat.le_of_ble_eq_true hb.2) hby
          simp only [e1, e2]
          exact ⟨r, _, w', c', _, _, .inl (by simp [h1]), h2, .one h3, h, fun _ => h4⟩
        · exact h.elim
      · exact h.elim
    · exact h.elim
  · -- load
    rename_i t x
    obtain ⟨u, v, w', c', S', n', h1, h2, h3, h4⟩ := load_sound hT h hs (ev1 (hx x (by simp [Op.operands])))
    exact ⟨u, v, w', c', S', n', h1, h2, h3, h4, fun h => by simp_all [isNew]⟩
  · -- store
    rename_i t x y
    obtain ⟨w', c', S', h1, h2, h3⟩ := store_sound hT hs (ev1 (hx x (by simp [Op.operands]))) (ev1 (hx y (by simp [Op.operands]))) h
    exact ⟨undef, .junk, w', c', S', nx, .inr ⟨by simp [h1], rfl⟩, h2, .junk, h3, fun h => by simp_all [isNew]⟩
  · simp [isPure] at hp
  · simp [isPure] at hp
  · simp [isPure] at hp
  · simp [isPure] at hp
  · simp [isPure] at hp
  · simp [isPure] at hp
  · simp [isPure] at hp
  · simp [isPure] at hp
  · simp [isPure] at hp
  · simp [isPure] at hp
  · simp [isPure] at hp
  · -- call
    rename_i cl
    have hargs : ∀ x ∈ cl.args.toList, xOk x = true := fun x hx' => hx x (by simp [Op.operands, Call.operands]; simp at hx'; exact .inr hx')
    have hA := fun j v u => argsOf_sound hF hargs j v u
    split at h
    · rename_i hcl; simp [isPure, hcl] at hp
    · -- append
      rename_i hcl
      split at h
      · rename_i s x t u0 hv ht
        split at h
        · rename_i i iu hi hiu
          split at h
          · rename_i e hd
            replace h := guardT_eq h
            obtain ⟨hud, h⟩ := h
            obtain ⟨x1, x2, hx1, e1, e2⟩ := args2 hv
            have ht1 : cl.argTypes = #[t, u0] := Array.toList_inj.1 (by simpa using ht)
            have h1 := hA 0 (.one s) (a.eval x1) (by rw [hv]; rfl) (by rw [hx1]; rfl)
            have h2 := hA 1 (.one x) (a.eval x2) (by rw [hv]; rfl) (by rw [hx1]; rfl)
            have g := append_sound hT hs (ty := o.type) hi hd hiu hud h1.inv1 h2.inv1 h
            simp only [resolve, hcl, ht1, hx1]
            rw [Sem.run_bind]
            simp only [Sem.run_pure, Result.andThen_ok, invoke, builtin, List.map_toArray, List.map_cons, List.map_nil]
            obtain ⟨u, v, w', c', S', n', g1, g2, g3, g4⟩ := g
            exact ⟨u, v, w', c', S', n', .inl (by simp [g1]), g2, g3, g4, fun h => by simp_all [isNew]⟩
          · exact h.elim
        · exact h.elim
      · exact h.elim
    · rename_i hcl; simp [isPure, hcl] at hp
    · rename_i hcl; simp [isPure, hcl] at hp
    · rename_i g hcl
      simp [isFn, hcl] at hf
    · exact h.elim
  · exact h.elim
end Go.Proofs.Ytodhnbjncmihkaa.V
end

section
/- The symbolic machine V: numbers of objects, handed to a call and back. -/
set_option linter.unusedVariables false
set_option linter.unusedSimpArgs false
namespace Go.Proofs.Ytodhnbjncmihkaa.V
open Go

theorem mem_iff (x : Nat) : ∀ (l : List Nat), mem x l = true ↔ x ∈ l
  | [] => by simp [mem]
  | y :: r => by
    simp only [mem, List.mem_cons]
    split
    · rename_i h; simp [beq_t h]
    · rename_i h
      rw [mem_iff x r]
      have : x ≠ y := fun e => by subst e; simp at h
      simp [this]
theorem addAll_nodup : ∀ (l acc : List Nat), acc.Nodup → (addAll acc l).Nodup
  | [], acc, h => h
  | x :: r, acc, h => by
    simp only [addAll]
    split
    · exact addAll_nodup r acc h
    · rename_i hm
      refine addAll_nodup r _ (List.nodup_append.2 ⟨h, by simp, fun a ha b hb => ?_⟩)
      simp at hb
      subst hb
      intro e
      subst e
      have := (mem_iff a acc).2 ha
      rw [this] at hm; cases hm
theorem close_nodup (S : Sto) : ∀ (n : Nat) (acc : List Nat), acc.Nodup → (close S n acc).Nodup
  | 0, acc, h => h
  | n + 1, acc, h => close_nodup S n _ (addAll_nodup _ _ h)
theorem pos_some {x k : Nat} : ∀ {l : List Nat}, pos x l = some k → l[k]? = some x
  | [], h => by simp [pos] at h
  | y :: r, h => by
    simp only [pos] at h
    split at h
    · rename_i hb; cases h; simp [beq_t hb]
    · split at h
      · rename_i hk; cases h; simpa using pos_some hk
      · cases h
theorem pos_none {x : Nat} : ∀ {l : List Nat}, pos x l = none → x ∉ l
  | [], _ => by simp
  | y :: r, h => by
    simp only [pos] at h
    split at h
    · cases h
    · rename_i hb
      split at h
      · cases h
      · rename_i hk
        simp only [List.mem_cons, not_or]
        exact ⟨fun e => by subst e; simp at hb, pos_none hk⟩
theorem pos_at {x k : Nat} : ∀ {l : List Nat}, l.Nodup → l[k]? = some x → pos x l = some k
  | [], _, h => by simp at h
  | y :: r, hn, h => by
    simp only [pos]
    cases k with
    | zero => simp at h; subst h; simp
    | succ k =>
      simp at h
      have hmem : x ∈ r := List.mem_of_getElem? h
      have hne : x ≠ y := fun e => by subst e; exact (List.nodup_cons.1 hn).1 hmem
      have : Nat.beq x y = false := Bool.eq_false_iff.2 fun h' => hne (beq_t h')
      rw [this]
      simp [pos_at (List.nodup_cons.1 hn).2 h]
theorem bk_lt {nx k x : Nat} : ∀ {b : List Nat}, b[k]? = some x → bk b nx k = x
  | [], h => by simp at h
  | y :: r, h => by
    cases k with
    | zero => simpa [bk] using h
    | succ k => simp at h; simpa [bk] using bk_lt h
theorem bk_ge {nx : Nat} : ∀ {b : List Nat} {k : Nat}, b.length ≤ k → bk b nx k = nx + (k - b.length)
  | [], k, _ => by simp [bk]
  | y :: r, 0, h => by simp at h
  | y :: r, k + 1, h => by
    simp only [bk, List.length_cons]
    rw [bk_ge (by simpa using h)]
    omega
/-- The number that an object has in the call. -/
def iv (b : List Nat) (nx id : Nat) : Option Nat :=
  match pos id b with
  | some k => some k
  | none => if nx ≤ id then some (b.length + (id - nx)) else none
theorem iv_bk {b : List Nat} {nx : Nat} (hn : b.Nodup) (hb : ∀ x ∈ b, x < nx) (k : Nat) : iv b nx (bk b nx k) = some k := by
  by_cases h : k < b.length
  · have := List.getElem?_eq_getElem h
    rw [bk_lt this]
    simp [iv, pos_at hn this]
  · rw [bk_ge (by omega)]
    unfold iv
    split
    · rename_i k' hk
      have := hb _ (List.mem_of_getElem? (pos_some hk))
      omega
    · simp; omega
theorem bk_iv {b : List Nat} {nx id k : Nat} (h : iv b nx id = some k) : bk b nx k = id := by
  unfold iv at h
  split at h
  · rename_i k' hk; cases h; exact bk_lt (pos_some hk)
  · split at h
    · cases h; rw [bk_ge (by omega)]; omega
    · cases h
theorem geto_mapS {g : Nat → Nat} (hg : ∀ i j, g i = g j → i = j) : ∀ (T : Sto) (R : Sto) (k : Nat), geto (mapS g T ++ R) (g k) = match T.find? (fun p => Nat.beq p.1 k) with | some p => mapO g p.2 | none => geto R (g k)
  | [], R, k => rfl
  | (i, o) :: r, R, k => by
    simp only [mapS, List.cons_append, geto_cons, List.find?_cons]
    by_cases h : i = k
    · subst h; simp
    · have h1 : g i ≠ g k := fun e => h (hg _ _ e)
      have h2 : Nat.beq i k = false := Bool.eq_false_iff.2 fun h' => h (beq_t h')
      rw [if_neg h1, h2]
      exact geto_mapS hg r R k
theorem geto_find (T : Sto) (k : Nat) : geto T k = match T.find? (fun p => Nat.beq p.1 k) with | some p => p.2 | none => .dead := by
  induction T with
  | nil => rfl
  | cons p r ih =>
    obtain ⟨i, o⟩ := p
    rw [geto_cons, List.find?_cons]
    by_cases h : i = k
    · subst h; simp
    · have h2 : Nat.beq i k = false := Bool.eq_false_iff.2 fun h' => h (beq_t h')
      rw [if_neg h, h2]
      exact ih
theorem geto_deads {b : List Nat} {S : Sto} {id : Nat} : geto (deads b ++ S) id = if id ∈ b then .dead else geto S id := by
  induction b with
  | nil => simp [deads]
  | cons x r ih =>
    simp only [deads, List.cons_append, geto_cons, List.mem_cons]
    by_cases h : x = id
    · subst h; simp
    · rw [if_neg h, ih]
      have : id ≠ x := Ne.symm h
      simp [this]
end Go.Proofs.Ytodhnbjncmihkaa.V
end

section
/- The symbolic machine V: the store that a call sees; the store behind it. -/
set_option linter.unusedVariables false
set_option linter.unusedSimpArgs false
namespace Go.Proofs.Ytodhnbjncmihkaa.V
open Go
variable {T : TypeId → Option TI} {w : World} {c : Cx} {S : Sto} {nx : Nat}

theorem renIds_at {b : List Nat} : ∀ {xs ks : List Nat}, renIds b xs = some ks → ks.length = xs.length ∧ ∀ (q k : Nat), ks[q]? = some k → ∃ x, xs[q]? = some x ∧ b[k]? = some x
  | [], ks, h => by simp [renIds] at h; subst h; exact ⟨rfl, fun q k h => by simp at h⟩
  | x :: r, ks, h => by
    simp only [renIds] at h
    split at h
    · rename_i k ks' hk hks
      cases h
      obtain ⟨h1, h2⟩ := renIds_at hks
      refine ⟨by simp [h1], fun q k' hq => ?_⟩
      cases q with
      | zero => simp at hq; subst hq; exact ⟨x, rfl, pos_some hk⟩
      | succ q => exact h2 q k' (by simpa using hq)
    · cases h
theorem renS_at {b : List Nat} {S : Sto} : ∀ {l : List Nat} {k0 : Nat} {S' : Sto}, renS b S l k0 = some S' → (∀ k id, l[k]? = some id → ∃ o, renO b (geto S id) = some o ∧ geto S' (k0 + k) = o) ∧ (∀ k, k < k0 ∨ k0 + l.length ≤ k → geto S' k = .dead)
  | [], k0, S', h => by simp [renS] at h; subst h; exact ⟨fun k id h => by simp at h, fun k _ => rfl⟩
  | x :: r, k0, S', h => by
    simp only [renS] at h
    split at h
    · rename_i o S1 ho hS
      cases h
      obtain ⟨h1, h2⟩ := renS_at hS
      refine ⟨fun k id hk => ?_, fun k hk => ?_⟩
      · cases k with
        | zero => simp at hk; subst hk; exact ⟨o, ho, by rw [geto_cons, Nat.add_zero, if_pos rfl]⟩
        | succ k =>
          obtain ⟨o', g1, g2⟩ := h1 k id (by simpa using hk)
          exact ⟨o', g1, by rw [geto_cons, if_neg (by omega), show k0 + (k + 1) = k0 + 1 + k by omega]; exact g2⟩
      · rw [geto_cons, if_neg (by simp at hk; omega)]
        exact h2 k (by simp at hk; omega)
    · cases h
/-- The call's context. -/
def Cx.call (c : Cx) (b : List Nat) : Cx := ⟨c.Z, fun k => match b[k]? with | some id => c.cur id | none => undef, fun k => match b[k]? with | some id => c.X id | none => fun _ => False⟩
theorem call_cur {b : List Nat} {k id : Nat} (h : b[k]? = some id) : (c.call b).cur k = c.cur id := by simp [Cx.call, h]
theorem call_X {b : List Nat} {k id : Nat} (h : b[k]? = some id) : (c.call b).X k = c.X id := by simp [Cx.call, h]
theorem call_Xb {b : List Nat} {k z : Nat} (h : (c.call b).X k z) : ∃ id, b[k]? = some id ∧ c.X id z := by
  simp only [Cx.call] at h
  cases hk : b[k]? with
  | none => rw [hk] at h; exact h.elim
  | some id => rw [hk] at h; exact ⟨id, rfl, h⟩
/-- What stands in the call's store. -/
theorem ren_row {b : List Nat} {S' : Sto} (hS : renS b S b 0 = some S') {k id : Nat} (hk : b[k]? = some id) {e q ver xs} (h : geto S' k = .row e q ver xs) : geto S id = .row e q ver xs := by
  obtain ⟨o, h1, h2⟩ := (renS_at hS).1 k id hk
  rw [Nat.zero_add, h] at h2
  subst h2
  cases hg : geto S id with
  | box t ls => rw [hg] at h1; simp only [renO] at h1; split at h1 <;> simp at h1
  | dead => rw [hg] at h1; simp [renO] at h1
  | row e' q' v' x' => rw [hg] at h1; simpa [renO] using h1
theorem ren_box {b : List Nat} {S' : Sto} (hS : renS b S b 0 = some S') {k id : Nat} (hk : b[k]? = some id) {t ls} (h : geto S' k = .box t ls) : ∃ ls0, geto S id = .box t ls0 ∧ renLs b ls0 = some ls := by
  obtain ⟨o, h1, h2⟩ := (renS_at hS).1 k id hk
  rw [Nat.zero_add, h] at h2
  subst h2
  cases hg : geto S id with
  | box t' ls0 =>
    rw [hg] at h1; simp only [renO] at h1
    split at h1
    · rename_i xs hx
      cases h1
      exact ⟨ls0, rfl, hx⟩
    · cases h1
  | dead => rw [hg] at h1; simp [renO] at h1
  | row e' q' v' x' => rw [hg] at h1; simp [renO] at h1
theorem renL_sound {b : List Nat} {S' : Sto} (hS : renS b S b 0 = some S') {l l' : L} {u : Value} (h : renL b l = some l') (hl : LR T w c S nx l u) : LR T w (c.call b) S' b.length l' u := by
  have hlt : ∀ {k x : Nat}, b[k]? = some x → k < b.length := fun h => (List.getElem?_eq_some_iff.1 h).1
  cases l with
  | sc v => simp [renL] at h; subst h; exact hl
  | kb v => simp [renL] at h; subst h; exact hl
  | ro e xs => simp [renL] at h; subst h; exact hl
  | rptr ks ds j => simp [renL] at h; subst h; exact hl
  | all id v =>
    simp only [renL] at h
    split at h
    · rename_i k hk
      cases h
      have hk := pos_some hk
      obtain ⟨h1, h2, h3⟩ := hl
      refine ⟨hlt hk, h2, fun e q ver' xs hr => ?_⟩
      rw [call_cur hk]
      exact h3 e q ver' xs (ren_row hS hk hr)
    · cases h
  | part id v lo n =>
    simp only [renL] at h
    split at h
    · rename_i k hk
      cases h
      have hk := pos_some hk
      obtain ⟨h1, h2, h3⟩ := hl
      refine ⟨hlt hk, h2, fun e q ver' xs hr => ?_⟩
      rw [call_cur hk]
      exact h3 e q ver' xs (ren_row hS hk hr)
    · cases h
  | ptr id v i j =>
    simp only [renL] at h
    split at h
    · rename_i k hk
      cases h
      have hk := pos_some hk
      obtain ⟨h1, h2, h3, h4⟩ := hl
      refine ⟨hlt hk, h2, fun e q ver' xs hr => ?_, fun t ls hr => ?_⟩
      · rw [call_cur hk]
        exact h3 e q ver' xs (ren_row hS hk hr)
      · rw [call_cur hk]
        obtain ⟨ls0, h5, _⟩ := ren_box hS hk hr
        exact h4 t ls0 h5
    · cases h
  | fn f caps =>
    simp only [renL] at h
    split at h
    · rename_i ks hks
      cases h
      obtain ⟨h1, us, h2, h3, h4⟩ := hl
      obtain ⟨g1, g2⟩ := renIds_at hks
      refine ⟨fun k hk => ?_, us, h2, by rw [h3, g1], fun q k hq => ?_⟩
      · obtain ⟨q, hq⟩ := List.mem_iff_getElem?.1 hk
        obtain ⟨x, _, g4⟩ := g2 q k hq
        exact hlt g4
      · obtain ⟨x, g3, g4⟩ := g2 q k hq
        obtain ⟨y, h5, h6, h7⟩ := h4 q x g3
        refine ⟨y, h5, h6, fun t ls hr => ?_⟩
        obtain ⟨ls0, h8, _⟩ := ren_box hS g4 hr
        rw [call_cur g4]
        exact h7 t ls0 h8
    · cases h
theorem renLs_at {b : List Nat} : ∀ {ls ls' : List L}, renLs b ls = some ls' → ls'.length = ls.length ∧ ∀ (j : Nat) (l' : L), ls'[j]? = some l' → ∃ l, ls[j]? = some l ∧ renL b l = some l'
  | [], ls', h => by simp [renLs] at h; subst h; exact ⟨rfl, fun j l' h => by simp at h⟩
  | l :: r, ls', h => by
    simp only [renLs] at h
    split at h
    · rename_i x xs hx hxs
      cases h
      obtain ⟨h1, h2⟩ := renLs_at hxs
      refine ⟨by simp [h1], fun j l' hj => ?_⟩
      cases j with
      | zero => simp at hj; subst hj; exact ⟨l, rfl, hx⟩
      | succ j => exact h2 j l' (by simpa using hj)
    · cases h
theorem renLs_sound {b : List Nat} {S' : Sto} (hS : renS b S b 0 = some S') {ls ls' : List L} {us : List Value} (h : renLs b ls = some ls') (hl : LRs T w c S nx ls us) : LRs T w (c.call b) S' b.length ls' us := by
  obtain ⟨h1, h2⟩ := renLs_at h
  refine ⟨by rw [h1]; exact hl.1, fun j l' hj => ?_⟩
  obtain ⟨l, h3, h4⟩ := h2 j l' hj
  obtain ⟨u, h5, h6⟩ := hl.2 j l h3
  exact ⟨u, h5, renL_sound hS h4 h6⟩
theorem renVs_sound {b : List Nat} {S' : Sto} (hS : renS b S b 0 = some S') : ∀ {vs vs' : List V} {us : List Value}, renVs b vs = some vs' → us.length = vs.length → (∀ (j : Nat) (v : V) (u : Value), vs[j]? = some v → us[j]? = some u → VR T w c S nx v u) → us.length = vs'.length ∧ ∀ (j : Nat) (v : V) (u : Value), vs'[j]? = some v → us[j]? = some u → VR T w (c.call b) S' b.length v u
  | [], vs', us, h, hl, hv => by simp [renVs] at h; subst h; exact ⟨hl, fun j v u h => by simp at h⟩
  | v :: r, vs', us, h, hl, hv => by
    simp only [renVs] at h
    split at h
    · rename_i x xs hx hxs
      cases h
      cases us with
      | nil => simp at hl
      | cons u us =>
      obtain ⟨h1, h2⟩ := renVs_sound hS (us := us) hxs (by simpa using hl) (fun j v u a b => hv (j + 1) v u (by simpa using a) (by simpa using b))
      refine ⟨by simp [h1], fun j v' u' a b' => ?_⟩
      cases j with
      | succ j => exact h2 j v' u' (by simpa using a) (by simpa using b')
      | zero =>
        simp at a b'
        subst a; subst b'
        have h0 := hv 0 v u rfl rfl
        unfold renV1 at hx
        split at hx
        · split at hx
          · rename_i y hy; cases hx; exact .one (renL_sound hS hy h0.inv1)
          · cases hx
        · split at hx
          · rename_i ys hy
            cases hx
            cases h0 with
            | agg h0 => exact .agg (renLs_sound hS hy h0)
          · cases hx
        · cases hx
    · cases h
theorem Sat.call {b : List Nat} {S' : Sto} (hs : Sat T w c S nx) (hn : b.Nodup) (hS : renS b S b 0 = some S') : Sat T w (c.call b) S' b.length := by
  obtain ⟨h1, h2⟩ := renS_at hS
  refine ⟨fun k => ?_, fun k hk => h2 k (.inr (by omega)), fun k k' z hx hx' => ?_, fun k z hx => ?_, hs.zlt, fun k z hx => ?_⟩
  · cases hk : b[k]? with
    | none =>
      have : geto S' k = .dead := h2 k (.inr (by simpa using hk))
      rw [this]
      intro z hz
      obtain ⟨id, h3, _⟩ := call_Xb hz
      rw [hk] at h3; cases h3
    | some id =>
      have h0 := hs.os id
      cases ho : geto S' k with
      | dead =>
        obtain ⟨o, h3, h4⟩ := h1 k id hk
        rw [Nat.zero_add, ho] at h4
        subst h4
        have : geto S id = .dead := by
          cases hg : geto S id with
          | box t ls => rw [hg] at h3; simp only [renO] at h3; split at h3 <;> simp at h3
          | dead => rfl
          | row e' q' v' x' => rw [hg] at h3; simp [renO] at h3
        rw [this] at h0
        simp only [OS] at h0 ⊢
        rw [call_X hk]; exact h0
      | row e q ver xs =>
        rw [ren_row hS hk ho] at h0
        cases q with
        | tree => simp only [OS] at h0 ⊢; rw [call_X hk, call_cur hk]; exact h0
        | sh => simp only [OS] at h0 ⊢; rw [call_X hk, call_cur hk]; exact h0
        | froz => simp only [OS] at h0 ⊢; rw [call_X hk, call_cur hk]; exact h0
      | box t ls =>
        obtain ⟨ls0, h3, h4⟩ := ren_box hS hk ho
        rw [h3] at h0
        simp only [OS] at h0 ⊢
        obtain ⟨z, arr, g1, g2, g3, g4⟩ := h0
        rw [call_X hk, call_cur hk]
        exact ⟨z, arr, g1, g2, g3, renLs_sound hS h4 g4⟩
  · obtain ⟨id, h3, h4⟩ := call_Xb hx
    obtain ⟨id', h5, h6⟩ := call_Xb hx'
    have := hs.disj _ _ _ h4 h6
    subst this
    have e1 := pos_at hn h3
    have e2 := pos_at hn h5
    rw [e1] at e2; exact Option.some.inj e2
  · obtain ⟨id, _, h4⟩ := call_Xb hx; exact hs.xz _ _ h4
  · obtain ⟨id, _, h4⟩ := call_Xb hx; exact hs.xlt _ _ h4
end Go.Proofs.Ytodhnbjncmihkaa.V
end

section
/- The symbolic machine V: behind a call. -/
set_option linter.unusedVariables false
set_option linter.unusedSimpArgs false
namespace Go.Proofs.Ytodhnbjncmihkaa.V
open Go
variable {T : TypeId → Option TI} {w : World} {c : Cx} {S : Sto} {nx : Nat}

theorem geto_mapS_out {g : Nat → Nat} {id : Nat} (hg : ∀ k, g k ≠ id) : ∀ (T R : Sto), geto (mapS g T ++ R) id = geto R id
  | [], R => rfl
  | (i, o) :: r, R => by
    simp only [mapS, List.cons_append, geto_cons]
    rw [if_neg (hg i)]
    exact geto_mapS_out hg r R
def Cx.back (c1 c : Cx) (b : List Nat) (nx : Nat) : Cx :=
  ⟨c1.Z, fun id => match iv b nx id with | some k => c1.cur k | none => c.cur id, fun id => match iv b nx id with | some k => c1.X k | none => c.X id⟩
theorem back_cur {c1 : Cx} {b : List Nat} {id k : Nat} (h : iv b nx id = some k) : (c1.back c b nx).cur id = c1.cur k := by simp [Cx.back, h]
theorem back_X {c1 : Cx} {b : List Nat} {id k : Nat} (h : iv b nx id = some k) : (c1.back c b nx).X id = c1.X k := by simp [Cx.back, h]
theorem back_cur0 {c1 : Cx} {b : List Nat} {id : Nat} (h : iv b nx id = none) : (c1.back c b nx).cur id = c.cur id := by simp [Cx.back, h]
theorem back_X0 {c1 : Cx} {b : List Nat} {id : Nat} (h : iv b nx id = none) : (c1.back c b nx).X id = c.X id := by simp [Cx.back, h]
theorem iv_none {b : List Nat} {id : Nat} (h : iv b nx id = none) : id < nx ∧ id ∉ b := by
  unfold iv at h
  split at h
  · cases h
  · rename_i hp
    split at h
    · cases h
    · exact ⟨by omega, pos_none hp⟩
theorem iv_in {b : List Nat} {id k : Nat} (hk : b[k]? = some id) (hn : b.Nodup) : iv b nx id = some k := by simp [iv, pos_at hn hk]

structure Back (T : TypeId → Option TI) (w : World) (c : Cx) (S : Sto) (nx : Nat) (b : List Nat) (S' : Sto) (w' : World) (c1 : Cx) (S1 : Sto) (n' : Nat) : Prop where
  hs : Sat T w c S nx
  hn : b.Nodup
  hb : ∀ x ∈ b, x < nx
  hS : renS b S b 0 = some S'
  sat : Sat T w' c1 S1 n'
  ext : Ext w (c.call b) w' c1
  st : Stays (c.call b) S' b.length c1 S1
  le : b.length ≤ n'

variable {b : List Nat} {S' : Sto} {w' : World} {c1 : Cx} {S1 : Sto} {n' : Nat}
theorem Back.inj (h : Back T w c S nx b S' w' c1 S1 n') (i j : Nat) (e : bk b nx i = bk b nx j) : i = j := by
  have h1 := iv_bk (nx := nx) h.hn h.hb i
  rw [e, iv_bk h.hn h.hb j] at h1
  exact (Option.some.inj h1).symm
theorem Back.geto (h : Back T w c S nx b S' w' c1 S1 n') {id k : Nat} (hk : iv b nx id = some k) : V.geto (mapS (bk b nx) S1 ++ (deads b ++ S)) id = mapO (bk b nx) (V.geto S1 k) := by
  have e := bk_iv hk
  subst e
  rw [geto_mapS h.inj, geto_find S1 k]
  split
  · rfl
  · rw [geto_deads]
    split
    · rfl
    · rename_i hm
      by_cases hlt : k < b.length
      · have h1 := List.getElem?_eq_getElem hlt
        rw [bk_lt h1] at hm
        exact absurd (List.mem_of_getElem? h1) hm
      · rw [bk_ge (by omega), h.hs.lt _ (by omega)]; rfl
theorem Back.geto0 (h : Back T w c S nx b S' w' c1 S1 n') {id : Nat} (hk : iv b nx id = none) : V.geto (mapS (bk b nx) S1 ++ (deads b ++ S)) id = V.geto S id := by
  obtain ⟨h1, h2⟩ := iv_none hk
  rw [geto_mapS_out fun k e => ?_, geto_deads, if_neg h2]
  have := iv_bk (nx := nx) h.hn h.hb k
  rw [e, hk] at this; cases this
theorem Back.lt (h : Back T w c S nx b S' w' c1 S1 n') {k : Nat} (hk : k < n') : bk b nx k < nx + (n' - b.length) := by
  by_cases hlt : k < b.length
  · have h1 := List.getElem?_eq_getElem hlt
    rw [bk_lt h1]
    have := h.hb _ (List.mem_of_getElem? h1)
    omega
  · rw [bk_ge (by omega)]; omega
theorem Back.stays (h : Back T w c S nx b S' w' c1 S1 n') : Stays c S nx (c1.back c b nx) (mapS (bk b nx) S1 ++ (deads b ++ S)) := by
  refine .mk (fun id e q ver xs hi hr => ?_) (fun id t ls hi hr => ?_)
  · cases hk : iv b nx id with
    | none => rw [h.geto0 hk] at hr; exact ⟨q, ver, xs, hr, .inr ⟨rfl, rfl, back_cur0 hk⟩⟩
    | some k =>
      rw [h.geto hk] at hr
      have hr1 : V.geto S1 k = .row e q ver xs := by
        cases hg : V.geto S1 k with
        | dead => rw [hg] at hr; simp [mapO] at hr
        | box t ls => rw [hg] at hr; simp [mapO] at hr
        | row e' q' v' x' => rw [hg] at hr; simpa [mapO] using hr
      have hkb : k < b.length := by
        unfold iv at hk
        split at hk
        · rename_i k' hp; cases hk; exact (List.getElem?_eq_some_iff.1 (pos_some hp)).1
        · rw [if_neg (by omega)] at hk; cases hk
      have hid : b[k]? = some id := by
        have h1 := List.getElem?_eq_getElem hkb
        rw [h1, ← bk_lt (nx := nx) h1, bk_iv hk]
      obtain ⟨q0, v0, x0, g1, g2⟩ := h.st.at hkb hr1
      refine ⟨q0, v0, x0, ren_row h.hS hid g1, ?_⟩
      rw [back_cur hk, ← call_cur hid]
      exact g2
  · cases hk : iv b nx id with
    | none => rw [h.geto0 hk] at hr; exact ⟨ls, hr, back_cur0 hk⟩
    | some k =>
      rw [h.geto hk] at hr
      obtain ⟨ls1, hr1⟩ : ∃ ls1, V.geto S1 k = .box t ls1 := by
        cases hg : V.geto S1 k with
        | dead => rw [hg] at hr; simp [mapO] at hr
        | box t' ls' => rw [hg] at hr; simp [mapO] at hr; exact ⟨ls', by rw [hr.1]⟩
        | row e' q' v' x' => rw [hg] at hr; simp [mapO] at hr
      have hkb : k < b.length := by
        unfold iv at hk
        split at hk
        · rename_i k' hp; cases hk; exact (List.getElem?_eq_some_iff.1 (pos_some hp)).1
        · rw [if_neg (by omega)] at hk; cases hk
      have hid : b[k]? = some id := by
        have h1 := List.getElem?_eq_getElem hkb
        rw [h1, ← bk_lt (nx := nx) h1, bk_iv hk]
      obtain ⟨ls0, g1, g2⟩ := h.st.atB hkb hr1
      obtain ⟨ls2, g3, _⟩ := ren_box h.hS hid g1
      exact ⟨ls2, g3, by rw [back_cur hk, ← call_cur hid]; exact g2⟩
theorem Back.lr (h : Back T w c S nx b S' w' c1 S1 n') {l : L} {u : Value} (hl : LR T w' c1 S1 n' l u) : LR T w' (c1.back c b nx) (mapS (bk b nx) S1 ++ (deads b ++ S)) (nx + (n' - b.length)) (mapL (bk b nx) l) u := by
  have hrow : ∀ {k e q ver xs}, V.geto (mapS (bk b nx) S1 ++ (deads b ++ S)) (bk b nx k) = .row e q ver xs → V.geto S1 k = .row e q ver xs := by
    intro k e q ver xs hr
    rw [h.geto (iv_bk h.hn h.hb k)] at hr
    cases hg : V.geto S1 k with
    | dead => rw [hg] at hr; simp [mapO] at hr
    | box t ls => rw [hg] at hr; simp [mapO] at hr
    | row e' q' v' x' => rw [hg] at hr; simpa [mapO] using hr
  have hbox : ∀ {k t ls}, V.geto (mapS (bk b nx) S1 ++ (deads b ++ S)) (bk b nx k) = .box t ls → ∃ ls1, V.geto S1 k = .box t ls1 := by
    intro k t ls hr
    rw [h.geto (iv_bk h.hn h.hb k)] at hr
    cases hg : V.geto S1 k with
    | dead => rw [hg] at hr; simp [mapO] at hr
    | box t' ls' => rw [hg] at hr; simp [mapO] at hr; exact ⟨ls', by rw [hr.1]⟩
    | row e' q' v' x' => rw [hg] at hr; simp [mapO] at hr
  have hcur : ∀ k, (c1.back c b nx).cur (bk b nx k) = c1.cur k := fun k => back_cur (iv_bk h.hn h.hb k)
  cases l with
  | sc v => exact hl
  | kb v => exact hl
  | ro e xs => exact hl
  | rptr ks ds j => exact hl
  | all id v =>
    obtain ⟨h1, h2, h3⟩ := hl
    exact ⟨h.lt h1, h2, fun e q ver' xs hr => by rw [hcur]; exact h3 e q ver' xs (hrow hr)⟩
  | part id v lo n =>
    obtain ⟨h1, h2, h3⟩ := hl
    exact ⟨h.lt h1, h2, fun e q ver' xs hr => by rw [hcur]; exact h3 e q ver' xs (hrow hr)⟩
  | ptr id v i j =>
    obtain ⟨h1, h2, h3, h4⟩ := hl
    refine ⟨h.lt h1, h2, fun e q ver' xs hr => by rw [hcur]; exact h3 e q ver' xs (hrow hr), fun t ls hr => ?_⟩
    rw [hcur]
    obtain ⟨ls1, hr1⟩ := hbox hr
    exact h4 t ls1 hr1
  | fn f caps =>
    obtain ⟨h1, us, h2, h3, h4⟩ := hl
    refine ⟨fun id hid => ?_, us, h2, by simp [h3], fun q id hq => ?_⟩
    · obtain ⟨k, hk, rfl⟩ := List.mem_map.1 hid
      exact h.lt (h1 k hk)
    · rw [List.getElem?_map] at hq
      cases hc : caps[q]? with
      | none => rw [hc] at hq; cases hq
      | some k =>
        rw [hc] at hq; cases hq
        obtain ⟨x, h5, h6, h7⟩ := h4 q k hc
        refine ⟨x, h5, h6, fun t ls hr => ?_⟩
        rw [hcur]
        obtain ⟨ls1, hr1⟩ := hbox hr
        exact h7 t ls1 hr1
theorem Back.lrs (h : Back T w c S nx b S' w' c1 S1 n') {ls : List L} {us : List Value} (hl : LRs T w' c1 S1 n' ls us) : LRs T w' (c1.back c b nx) (mapS (bk b nx) S1 ++ (deads b ++ S)) (nx + (n' - b.length)) (ls.map (mapL (bk b nx))) us := by
  refine ⟨by simp [hl.1], fun j l hj => ?_⟩
  rw [List.getElem?_map] at hj
  cases hg : ls[j]? with
  | none => rw [hg] at hj; cases hj
  | some l0 =>
    rw [hg] at hj; cases hj
    obtain ⟨u, h1, h2⟩ := hl.2 j l0 hg
    exact ⟨u, h1, h.lr h2⟩
end Go.Proofs.Ytodhnbjncmihkaa.V
end

section
/- The symbolic machine V: a call that is handed objects. -/
set_option linter.unusedVariables false
set_option linter.unusedSimpArgs false
namespace Go.Proofs.Ytodhnbjncmihkaa.V
open Go
variable {T : TypeId → Option TI} {w : World} {c : Cx} {S : Sto} {nx : Nat} {b : List Nat} {S' : Sto} {w' : World} {c1 : Cx} {S1 : Sto} {n' : Nat}

theorem Back.vr1 (h : Back T w c S nx b S' w' c1 S1 n') {v : V} {u : Value} (hv : VR T w' c1 S1 n' v u) : VR T w' (c1.back c b nx) (mapS (bk b nx) S1 ++ (deads b ++ S)) (nx + (n' - b.length)) (mapV1 (bk b nx) v) u := by
  cases hv with
  | one hl => exact .one (h.lr hl)
  | agg hl => exact .agg (h.lrs hl)
  | tup _ _ => exact .junk
  | junk => exact .junk
theorem Back.vr (h : Back T w c S nx b S' w' c1 S1 n') {v : V} {u : Value} (hv : VR T w' c1 S1 n' v u) : VR T w' (c1.back c b nx) (mapS (bk b nx) S1 ++ (deads b ++ S)) (nx + (n' - b.length)) (mapV (bk b nx) v) u := by
  cases hv with
  | one hl => exact .one (h.lr hl)
  | agg hl => exact .agg (h.lrs hl)
  | junk => exact .junk
  | tup hl hv =>
    refine .tup (by simp [hl]) fun j v u h1 h2 => ?_
    rw [List.getElem?_map] at h1
    rename_i vs us
    cases hg : vs[j]? with
    | none => rw [hg] at h1; cases h1
    | some v0 =>
      rw [hg] at h1; cases h1
      exact h.vr1 (hv j v0 u hg h2)
/-- Blocks of the call's objects were the caller's. -/
theorem Back.old (h : Back T w c S nx b S' w' c1 S1 n') {k z : Nat} (hz : z < w.heap.size) (hx : c1.X k z) : ∃ id, id ∈ b ∧ c.X id z := by
  obtain ⟨k', h1⟩ := h.ext.xnew k z hz hx
  obtain ⟨id, h2, h3⟩ := call_Xb h1
  exact ⟨id, List.mem_of_getElem? h2, h3⟩
theorem Back.step (h : Back T w c S nx b S' w' c1 S1 n') : Step T w c S nx w' (c1.back c b nx) (mapS (bk b nx) S1 ++ (deads b ++ S)) (nx + (n' - b.length)) := by
  have hs := h.hs
  have hst := h.stays
  have hzw : ∀ z, c.Z z → w'.heap[z]? = w.heap[z]? := fun z hz => h.ext.keep z (hs.zlt z hz) fun k hk => by
    obtain ⟨id, _, h2⟩ := call_Xb hk
    exact hs.xz id z h2 hz
  have hzz : ∀ z, c.Z z → (c1.back c b nx).Z z := fun z hz => h.ext.zup z hz
  have hXcase : ∀ {id z}, (c1.back c b nx).X id z → (∃ k, iv b nx id = some k ∧ c1.X k z) ∨ (iv b nx id = none ∧ c.X id z) := by
    intro id z hx
    cases hk : iv b nx id with
    | none => rw [back_X0 hk] at hx; exact .inr ⟨rfl, hx⟩
    | some k => rw [back_X hk] at hx; exact .inl ⟨k, rfl, hx⟩
  have hnone : ∀ {id z}, iv b nx id = none → c.X id z → ∀ k, ¬ c1.X k z := by
    intro id z hk hx k hx1
    obtain ⟨id', h1, h2⟩ := h.old (hs.xlt id z hx) hx1
    have := hs.disj _ _ _ hx h2
    subst this
    exact (iv_none hk).2 h1
  have hoth : ∀ {id z}, iv b nx id = none → c.X id z → w'.heap[z]? = w.heap[z]? := by
    intro id z hk hx
    refine h.ext.keep z (hs.xlt id z hx) fun k hx1 => ?_
    obtain ⟨id', h1, h2⟩ := call_Xb hx1
    have := hs.disj _ _ _ hx h2
    subst this
    exact (iv_none hk).2 (List.mem_of_getElem? h1)
  refine ⟨hs.of hst (by omega) h.ext.size hzz hzw (fun id => ?_) (fun id hid => ?_) (fun id id' z h1 h2 => ?_) (fun id z h1 h2 => ?_) h.sat.zlt (fun id z h1 => ?_), ⟨h.ext.os, h.ext.tape, h.ext.output, h.ext.size, fun z hz hx => h.ext.keep z hz fun k hk => ?_, hzz, fun z hz h1 => ?_, fun id z hz h1 => ?_⟩, hst, by omega⟩
  · cases hk : iv b nx id with
    | none => exact .inr ⟨h.geto0 hk, back_X0 hk, back_cur0 hk, fun z hz => hoth hk hz⟩
    | some k =>
      refine .inl ?_
      rw [h.geto hk]
      have h0 := h.sat.os k
      cases hg : V.geto S1 k with
      | dead => rw [hg] at h0; simp only [mapO, OS] at h0 ⊢; rw [back_X hk]; exact h0
      | row e q ver xs =>
        rw [hg] at h0
        cases q with
        | tree => simp only [mapO, OS] at h0 ⊢; rw [back_X hk, back_cur hk]; exact h0
        | sh => simp only [mapO, OS] at h0 ⊢; rw [back_X hk, back_cur hk]; exact h0
        | froz => simp only [mapO, OS] at h0 ⊢; rw [back_X hk, back_cur hk]; exact h0
      | box t ls =>
        rw [hg] at h0
        simp only [mapO, OS] at h0 ⊢
        obtain ⟨z, arr, g1, g2, g3, g4⟩ := h0
        rw [back_X hk, back_cur hk]
        exact ⟨z, arr, g1, g2, g3, h.lrs g4⟩
  · have hle := h.le
    have hk : iv b nx id = some (b.length + (id - nx)) := by
      unfold iv
      split
      · rename_i k hp
        have := h.hb _ (List.mem_of_getElem? (pos_some hp))
        omega
      · rw [if_pos (by omega)]
    rw [h.geto hk, h.sat.lt _ (by omega)]
    rfl
  · rcases hXcase h1 with ⟨k, e1, x1⟩ | ⟨e1, x1⟩ <;> rcases hXcase h2 with ⟨k', e2, x2⟩ | ⟨e2, x2⟩
    · have := h.sat.disj _ _ _ x1 x2
      subst this
      rw [← bk_iv e1, ← bk_iv e2]
    · exact absurd x1 (hnone e2 x2 k)
    · exact absurd x2 (hnone e1 x1 k')
    · exact hs.disj _ _ _ x1 x2
  · rcases hXcase h1 with ⟨k, e1, x1⟩ | ⟨e1, x1⟩
    · exact h.sat.xz k z x1 h2
    · rcases h.ext.znew z (hs.xlt id z x1) h2 with h3 | ⟨k, h3⟩
      · exact hs.xz id z x1 h3
      · obtain ⟨id', h4, h5⟩ := call_Xb h3
        have := hs.disj _ _ _ x1 h5
        subst this
        exact (iv_none e1).2 (List.mem_of_getElem? h4)
  · rcases hXcase h1 with ⟨k, e1, x1⟩ | ⟨e1, x1⟩
    · exact h.sat.xlt k z x1
    · exact Nat.lt_of_lt_of_le (hs.xlt id z x1) h.ext.size
  · obtain ⟨id, _, h2⟩ := call_Xb hk
    exact hx id h2
  · rcases h.ext.znew z hz h1 with h3 | ⟨k, h3⟩
    · exact .inl h3
    · obtain ⟨id', _, h5⟩ := call_Xb h3
      exact .inr ⟨id', h5⟩
  · rcases hXcase h1 with ⟨k, e1, x1⟩ | ⟨e1, x1⟩
    · obtain ⟨id', _, h5⟩ := h.old hz x1
      exact ⟨id', h5⟩
    · exact ⟨id, x1⟩
end Go.Proofs.Ytodhnbjncmihkaa.V
end

section
/- The symbolic machine V: a call whose rows are only read. -/
set_option linter.unusedVariables false
set_option linter.unusedSimpArgs false
namespace Go.Proofs.Ytodhnbjncmihkaa.V
open Go
variable {T : TypeId → Option TI} {w : World} {c : Cx} {S : Sto} {nx : Nat}

/-- A context in which all is only read. -/
def Cx.ro (Z : Nat → Prop) : Cx := ⟨Z, fun _ => undef, fun _ _ => False⟩
theorem Sat.ro {Z : Nat → Prop} (hz : ∀ z, Z z → z < w.heap.size) : Sat T w (Cx.ro Z) [] 0 :=
  ⟨fun id z h => h, fun id _ => rfl, fun id id' z h _ => h.elim, fun id z h _ => h, hz, fun id z h => h.elim⟩
theorem shown_rd {Z1 : Nat → Prop} (hs : Sat T w c S nx) (hz : ∀ z, c.Z z → Z1 z) {l : L} {u : Value} (hl : LR T w c S nx l u) {e : TypeId} {xs : List (List D)} (hids : ∀ id ∈ idsL l, ∀ z, c.X id z → Z1 z) (h : shown S l = some (e, xs)) : Rd T w Z1 (.sl e) (.sl xs) u := by
  unfold shown at h
  split at h
  · cases h; exact Rd.mono (fun _ _ => rfl) hz hl
  · rename_i id ver
    split at h
    · rename_i e' q ver' ys hr
      split at h
      · rename_i hb
        cases beq_t hb
        cases h
        have hu := (hl.2.2 _ _ _ _ hr).2 rfl
        have h0 := hs.os id
        rw [hr] at h0
        rw [hu]
        exact h0.rd.mono (fun _ _ => rfl) fun z hz' => hz'.elim (hz z) (hids id (by simp [idsL]) z)
      · cases h
    · cases h
  · rename_i id ver lo n
    split at h
    · rename_i e' q ver' ys hr
      split at h
      · rename_i hb
        cases beq_t hb
        cases h
        rcases Nat.eq_zero_or_pos n with rfl | hn
        · obtain ⟨_, ⟨A, m, rfl, _⟩, _⟩ := hl
          simp only [List.take_zero]; exact .nil
        obtain ⟨ie, hie⟩ : ∃ ie, T e = some ie := by
          have h0 := hs.os id
          rw [hr] at h0
          obtain ⟨hle, _⟩ := (hl.2.2 _ _ _ _ hr).2 rfl
          have hrd := h0.rd
          generalize c.cur id = v at hrd
          cases hrd with
          | nil => simp at hle; omega
          | sl u hT => exact ⟨_, hT⟩
        exact (part_rd hie hs hr hl).mono (fun _ _ => rfl) fun z hz' => hz'.elim (hz z) (hids id (by simp [idsL]) z)
      · cases h
    · cases h
  · cases h
theorem viewD_sound {Z1 : Nat → Prop} (hs : Sat T w c S nx) (hz : ∀ z, c.Z z → Z1 z) {κ : LK} {l : L} {u : Value} (hl : LR T w c S nx l u) (hids : ∀ id ∈ idsL l, ∀ z, c.X id z → Z1 z) {d : D} (h : viewD S κ l = some d) : Rd T w Z1 κ d u := by
  unfold viewD at h
  split at h
  · split at h
    · rename_i hk
      cases kEq_t hk
      cases h
      obtain ⟨rfl, _, hr, _⟩ := hl
      exact .int (hr _ _ rfl)
    · cases h
  · cases h
    obtain ⟨rfl, _⟩ := hl
    exact .bool _
  · cases h
    cases hl
    exact .bool _
  · cases h
    obtain ⟨rfl, _, _, hr⟩ := hl
    exact .str (hr _ rfl)
  · cases h
    obtain ⟨rfl, _⟩ := hl
    exact .nil
  · split at h
    · rename_i e' xs hsh
      split at h
      · rename_i hb
        cases beq_t hb
        cases h
        exact shown_rd hs hz hl hids hsh
      · cases h
    · cases h
  · cases h
theorem viewDs_sound {Z1 : Nat → Prop} (hs : Sat T w c S nx) (hz : ∀ z, c.Z z → Z1 z) : ∀ {ks : List LK} {ls : List L} {us : List Value} {ds : List D}, LRs T w c S nx ls us → (∀ id ∈ idsLs ls, ∀ z, c.X id z → Z1 z) → viewDs S ks ls = some ds → ds.length = ks.length ∧ us.length = ks.length ∧ ∀ (q : Nat) (κ : LK) (d : D) (u : Value), ks[q]? = some κ → ds[q]? = some d → us[q]? = some u → Rd T w Z1 κ d u
  | [], [], us, ds, hl, _, h => by
    simp [viewDs] at h
    subst h
    obtain rfl := hl.nil
    exact ⟨rfl, rfl, fun q κ d u h => by simp at h⟩
  | [], _ :: _, _, _, _, _, h => by simp [viewDs] at h
  | _ :: _, [], _, _, _, _, h => by simp [viewDs] at h
  | κ :: ks, l :: ls, us, ds, hl, hids, h => by
    simp only [viewDs] at h
    split at h
    · rename_i d ds' hd hds
      cases h
      obtain ⟨u, us', rfl, h1, h2⟩ := hl.cons
      have g0 := viewD_sound hs hz h1 (fun id hid => hids id (by simp [idsLs, hid])) hd
      obtain ⟨g1, g2, g3⟩ := viewDs_sound hs hz h2 (fun id hid => hids id (by simp [idsLs, hid])) hds
      refine ⟨by simp [g1], by simp [g2], fun q κ' d' u' a1 a2 a3 => ?_⟩
      cases q with
      | zero => simp at a1 a2 a3; subst a1; subst a2; subst a3; exact g0
      | succ q => exact g3 q κ' d' u' (by simpa using a1) (by simpa using a2) (by simpa using a3)
    · cases h
theorem viewL_sound {Z1 : Nat → Prop} (hs : Sat T w c S nx) (hz : ∀ z, c.Z z → Z1 z) {l l' : L} {u : Value} (hl : LR T w c S nx l u) (hids : ∀ id ∈ idsL l, ∀ z, c.X id z → Z1 z) (hbox : ∀ id ∈ idsL l, ∀ t ls, geto S id = .box t ls → ∀ id' ∈ idsLs ls, ∀ z, c.X id' z → Z1 z) (h : viewL T S l = some l') : LR T w (Cx.ro Z1) [] 0 l' u := by
  cases l with
  | sc v => simp [viewL] at h; subst h; exact hl
  | kb b => simp [viewL] at h; subst h; exact hl
  | ro e xs => simp [viewL] at h; subst h; exact Rd.mono (fun _ _ => rfl) hz hl
  | rptr ks ds j =>
    simp [viewL] at h; subst h
    obtain ⟨a, h1, h2, h3, h4, h5⟩ := hl
    exact ⟨a, h1, h2, hz _ h3, h4, fun q κ d hk hd => by obtain ⟨v, g1, g2⟩ := h5 q κ d hk hd; exact ⟨v, g1, g2.mono (fun _ _ => rfl) hz⟩⟩
  | all id v =>
    simp only [viewL] at h
    split at h
    · rename_i e xs hsh
      cases h
      exact shown_rd hs hz hl hids hsh
    · cases h
  | part id v lo n =>
    simp only [viewL] at h
    split at h
    · rename_i e xs hsh
      cases h
      exact shown_rd hs hz hl hids hsh
    · cases h
  | ptr id v i j =>
    have hX := hids id (by simp [idsL])
    obtain ⟨h1, _, h2, h3⟩ := hl
    have h0 := hs.os id
    simp only [viewL] at h
    split at h
    · rename_i t ls ho
      rw [ho] at h0
      split at h
      · rename_i ti hti
        split at h
        · rename_i ds hds
          cases h
          obtain ⟨b, arr, g1, g2, g3, g4⟩ := h0
          obtain ⟨b', g5, g6⟩ := h3 _ _ ho
          rw [g1] at g5; cases g5
          obtain ⟨k1, k2, k3⟩ := viewDs_sound hs hz g4 (hbox id (by simp [idsL]) _ _ ho) hds
          refine ⟨_, g6, rfl, hX b ((g3 b).2 rfl), k1, fun q κ d hk hd => ?_⟩
          have hlt := (List.getElem?_eq_some_iff.1 hk).1
          have hu := List.getElem?_eq_getElem (show j + q < arr.toList.length by omega)
          exact ⟨_, by rw [add_plain, cell_at g2, ← Array.getElem?_toList]; exact hu, k3 _ _ _ _ hk hd hu⟩
        · cases h
      · cases h
    · rename_i e q ver xs ho
      rw [ho] at h0
      split at h
      · rename_i ti hb hti
        cases beq_t hb
        cases h
        obtain ⟨hp, h4⟩ := (h2 _ _ _ _ ho).2 rfl
        obtain ⟨b, cap, hcur, rfl⟩ := h4 ti hti
        obtain ⟨x, uu, hx, hxl, hcell, hr1, _⟩ := row_view h0 hcur hti hp
        have hgd : xs.getD i [] = x := by simp [List.getD, hx]
        rw [hgd]
        have hbX : Z1 b := by
          have hrd := h0.rd
          rw [hcur] at hrd
          generalize hv : (Value.slice (some ⟨b, 0, none⟩) xs.length cap) = v at hrd
          cases hrd with
          | nil => simp at hp
          | sl u' hT' hm hle hZ =>
            injection hv with e1 _ _
            injection e1 with e1
            subst e1
            exact hZ.elim (hz b) (hX b)
        refine ⟨_, rfl, rfl, hbX, hxl, fun q' κ d hk hd => ⟨uu (j + q'), by rw [add_plain, Nat.add_assoc]; exact hcell _ (List.getElem?_eq_some_iff.1 hk).1, (hr1 _ _ _ hk hd).mono (fun _ _ => rfl) fun z hz' => hz'.elim (hz z) (hX z)⟩⟩
      · cases h
    · cases h
  | fn f caps =>
    cases caps with
    | nil =>
      simp [viewL] at h; subst h
      obtain ⟨_, us, h2, h3, _⟩ := hl
      exact ⟨fun id h => by simp at h, us, h2, h3, fun q id h => by simp at h⟩
    | cons x r => simp [viewL] at h
end Go.Proofs.Ytodhnbjncmihkaa.V
end

section
/- The symbolic machine V: arguments, viewed; results that lead to nothing that was lent. -/
set_option linter.unusedVariables false
set_option linter.unusedSimpArgs false
namespace Go.Proofs.Ytodhnbjncmihkaa.V
open Go
variable {T : TypeId → Option TI} {w : World} {c : Cx} {S : Sto} {nx : Nat}

theorem viewLs_at : ∀ {ls ls' : List L}, viewLs T S ls = some ls' → ls'.length = ls.length ∧ ∀ (j : Nat) (l' : L), ls'[j]? = some l' → ∃ l, ls[j]? = some l ∧ viewL T S l = some l'
  | [], ls', h => by simp [viewLs] at h; subst h; exact ⟨rfl, fun j l' h => by simp at h⟩
  | l :: r, ls', h => by
    simp only [viewLs] at h
    split at h
    · rename_i x xs hx hxs
      cases h
      obtain ⟨h1, h2⟩ := viewLs_at hxs
      refine ⟨by simp [h1], fun j l' hj => ?_⟩
      cases j with
      | zero => simp at hj; subst hj; exact ⟨l, rfl, hx⟩
      | succ j => exact h2 j l' (by simpa using hj)
    · cases h
theorem mem_idsLs {ls : List L} {j : Nat} {l : L} (h : ls[j]? = some l) {id : Nat} (hid : id ∈ idsL l) : id ∈ idsLs ls := by
  induction ls generalizing j with
  | nil => simp at h
  | cons x r ih =>
    simp only [idsLs, List.mem_append]
    cases j with
    | zero => simp at h; subst h; exact .inl hid
    | succ j => exact .inr (ih (by simpa using h))
theorem viewVs_sound {Z1 : Nat → Prop} (hs : Sat T w c S nx) (hz : ∀ z, c.Z z → Z1 z) : ∀ {vs vs' : List V} {us : List Value}, us.length = vs.length → (∀ (j : Nat) (v : V) (u : Value), vs[j]? = some v → us[j]? = some u → VR T w c S nx v u) → (∀ id ∈ idsVs vs, ∀ z, c.X id z → Z1 z) → (∀ id ∈ idsVs vs, ∀ t ls, geto S id = .box t ls → ∀ id' ∈ idsLs ls, ∀ z, c.X id' z → Z1 z) → viewVs T S vs = some vs' →
    us.length = vs'.length ∧ ∀ (j : Nat) (v : V) (u : Value), vs'[j]? = some v → us[j]? = some u → VR T w (Cx.ro Z1) [] 0 v u
  | [], vs', us, hl, hv, _, _, h => by simp [viewVs] at h; subst h; exact ⟨hl, fun j v u h => by simp at h⟩
  | v :: r, vs', us, hl, hv, hids, hbox, h => by
    simp only [viewVs] at h
    split at h
    · rename_i x xs hx hxs
      cases h
      cases us with
      | nil => simp at hl
      | cons u us =>
      obtain ⟨h1, h2⟩ := viewVs_sound hs hz (us := us) (by simpa using hl) (fun j v u a b => hv (j + 1) v u (by simpa using a) (by simpa using b)) (fun id hid => hids id (by simp [idsVs, hid])) (fun id hid => hbox id (by simp [idsVs, hid])) hxs
      refine ⟨by simp [h1], fun j v' u' a b => ?_⟩
      cases j with
      | succ j => exact h2 j v' u' (by simpa using a) (by simpa using b)
      | zero =>
        simp at a b
        subst a; subst b
        have h0 := hv 0 v u rfl rfl
        have hi : ∀ id ∈ idsV1 v, id ∈ idsVs (v :: r) := fun id hid => by simp [idsVs, hid]
        unfold viewV at hx
        split at hx
        · split at hx
          · rename_i y hy
            cases hx
            exact .one (viewL_sound hs hz h0.inv1 (fun id hid => hids id (hi id hid)) (fun id hid => hbox id (hi id hid)) hy)
          · cases hx
        · split at hx
          · rename_i ls ys hy
            cases hx
            cases h0 with
            | agg h0 =>
              obtain ⟨g1, g2⟩ := viewLs_at hy
              refine .agg ⟨by rw [g1]; exact h0.1, fun j l' hj => ?_⟩
              obtain ⟨l, g3, g4⟩ := g2 j l' hj
              obtain ⟨u', g5, g6⟩ := h0.2 j l g3
              exact ⟨u', g5, viewL_sound hs hz g6 (fun id hid => hids id (hi id (mem_idsLs g3 hid))) (fun id hid => hbox id (hi id (mem_idsLs g3 hid))) g4⟩
          · cases hx
        · cases hx
    · cases h
/-- Another context in which less is only read. -/
def Cx.cut (c : Cx) (Z : Nat → Prop) : Cx := ⟨Z, c.cur, c.X⟩
theorem LR.cut {Z : Nat → Prop} {l : L} {u : Value} (h : LR T w c S nx l u) (hn : noRoL l = true) : LR T w (c.cut Z) S nx l u := by
  cases l with
  | sc v => exact h
  | kb b => exact h
  | ro e xs =>
    cases xs with
    | cons x r => simp [noRoL] at hn
    | nil =>
      have h : Rd T w c.Z (.sl e) (.sl []) u := h
      cases h with
      | nil => exact .nil
      | sl u => exact .nil
  | all id v => exact h
  | part id v lo n => exact h
  | ptr id v i j => exact h
  | rptr ks ds j => simp [noRoL] at hn
  | fn f caps => exact h
theorem noRoLs_at : ∀ {ls : List L}, noRoLs ls = true → ∀ {j : Nat} {l : L}, ls[j]? = some l → noRoL l = true
  | [], _, j, l, h => by simp at h
  | x :: r, h, j, l, hj => by
    simp only [noRoLs] at h
    split at h
    · rename_i hx
      cases j with
      | zero => simp at hj; subst hj; exact hx
      | succ j => exact noRoLs_at h (by simpa using hj)
    · cases h
theorem LRs.cut {Z : Nat → Prop} {ls : List L} {us : List Value} (h : LRs T w c S nx ls us) (hn : noRoLs ls = true) : LRs T w (c.cut Z) S nx ls us :=
  ⟨h.1, fun j l hj => by obtain ⟨u, h1, h2⟩ := h.2 j l hj; exact ⟨u, h1, h2.cut (noRoLs_at hn hj)⟩⟩
theorem VR.cut {Z : Nat → Prop} {v : V} {u : Value} (h : VR T w c S nx v u) (hn : noRoV v = true) : VR T w (c.cut Z) S nx v u := by
  cases h with
  | one h => exact .one (h.cut hn)
  | agg h => exact .agg (h.cut hn)
  | junk => exact .junk
  | tup hl hv =>
    refine .tup hl fun j v u h1 h2 => ?_
    have h3 := hv j v u h1 h2
    simp only [noRoV, List.all_eq_true] at hn
    have h4 := hn v (List.mem_of_getElem? h1)
    cases h3 with
    | one h => exact .one (h.cut h4)
    | agg h => exact .agg (h.cut h4)
    | junk => exact .junk
    | tup _ _ => simp at h4
theorem noRoS_at {id : Nat} : ∀ {S : Sto}, noRoS S = true → noRoO (geto S id) = true
  | [], _ => rfl
  | (k, o) :: r, h => by
    simp only [noRoS] at h
    split at h
    · rename_i ho
      rw [geto_cons]
      split
      · exact ho
      · exact noRoS_at h
    · cases h
theorem Sat.cut {Z : Nat → Prop} (hs : Sat T w c S nx) (hn : noRoS S = true) (hz : ∀ z, Z z → c.Z z) : Sat T w (c.cut Z) S nx := by
  refine ⟨fun id => ?_, hs.lt, hs.disj, fun id z hx hz' => hs.xz id z hx (hz z hz'), fun z h => hs.zlt z (hz z h), hs.xlt⟩
  have h0 := hs.os id
  have h1 := noRoS_at (id := id) hn
  cases ho : geto S id with
  | dead => rw [ho] at h0; exact h0
  | row e q ver xs =>
    rw [ho] at h0 h1
    cases q with
    | tree => exact h0
    | sh => simp [noRoO] at h1
    | froz => simp [noRoO] at h1
  | box t ls =>
    rw [ho] at h0 h1
    obtain ⟨b, arr, g1, g2, g3, g4⟩ := h0
    exact ⟨b, arr, g1, g2, g3, g4.cut h1⟩
end Go.Proofs.Ytodhnbjncmihkaa.V
end

section
/- The symbolic machine V: a call. -/
set_option linter.unusedVariables false
set_option linter.unusedSimpArgs false
namespace Go.Proofs.Ytodhnbjncmihkaa.V
open Go
variable {T : TypeId → Option TI} {w : World} {c : Cx} {S : Sto} {nx : Nat}

theorem LR.ids {l : L} {u : Value} (h : LR T w c S nx l u) : ∀ id ∈ idsL l, id < nx := by
  cases l with
  | all id v => intro i hi; simp [idsL] at hi; subst hi; exact h.1
  | part id v lo n => intro i hi; simp [idsL] at hi; subst hi; exact h.1
  | ptr id v p j => intro i hi; simp [idsL] at hi; subst hi; exact h.1
  | fn f caps => exact h.1
  | sc v => intro i hi; simp [idsL] at hi
  | kb v => intro i hi; simp [idsL] at hi
  | ro e xs => intro i hi; simp [idsL] at hi
  | rptr ks ds j => intro i hi; simp [idsL] at hi
theorem LRs.ids : ∀ {ls : List L} {us : List Value}, LRs T w c S nx ls us → ∀ id ∈ idsLs ls, id < nx
  | [], us, h, id, hid => by simp [idsLs] at hid
  | l :: ls, us, h, id, hid => by
    obtain ⟨u, us', rfl, h1, h2⟩ := h.cons
    simp only [idsLs, List.mem_append] at hid
    exact hid.elim (h1.ids id) (h2.ids id)
theorem VRs.ids : ∀ {vs : List V} {us : List Value}, us.length = vs.length → (∀ (j : Nat) (v : V) (u : Value), vs[j]? = some v → us[j]? = some u → VR T w c S nx v u) → ∀ id ∈ idsVs vs, id < nx
  | [], us, _, _, id, hid => by simp [idsVs] at hid
  | v :: vs, us, hl, hv, id, hid => by
    cases us with
    | nil => simp at hl
    | cons u us =>
    simp only [idsVs, List.mem_append] at hid
    rcases hid with hid | hid
    · have h0 := hv 0 v u rfl rfl
      cases h0 with
      | one h => exact h.ids id hid
      | agg h => exact h.ids id hid
      | tup _ _ => simp [idsV1] at hid
      | junk => simp [idsV1] at hid
    · exact VRs.ids (us := us) (by simpa using hl) (fun j v u a b => hv (j + 1) v u (by simpa using a) (by simpa using b)) id hid
theorem addAll_mem {x : Nat} : ∀ {l acc : List Nat}, x ∈ addAll acc l ↔ x ∈ acc ∨ x ∈ l
  | [], acc => by simp [addAll]
  | y :: r, acc => by
    simp only [addAll]
    split
    · rename_i hm
      rw [addAll_mem]
      have := (mem_iff y acc).1 hm
      constructor
      · rintro (h | h)
        · exact .inl h
        · exact .inr (by simp [h])
      · rintro (h | h)
        · exact .inl h
        · rcases List.mem_cons.1 h with rfl | h
          · exact .inl this
          · exact .inr h
    · rw [addAll_mem]; simp [or_assoc]
theorem moreIds_lt (hs : Sat T w c S nx) : ∀ {l : List Nat} {x : Nat}, x ∈ moreIds S l → x < nx
  | [], x, h => by simp [moreIds] at h
  | id :: r, x, h => by
    simp only [moreIds, List.mem_append] at h
    rcases h with h | h
    · have h0 := hs.os id
      cases ho : geto S id with
      | dead => rw [ho] at h; simp [idsO] at h
      | row e q v xs => rw [ho] at h; simp [idsO] at h
      | box t ls =>
        rw [ho] at h h0
        obtain ⟨b, arr, _, _, _, g4⟩ := h0
        exact g4.ids x h
    · exact moreIds_lt hs h
theorem close_lt (hs : Sat T w c S nx) : ∀ (n : Nat) {acc : List Nat}, (∀ x ∈ acc, x < nx) → ∀ x ∈ close S n acc, x < nx
  | 0, acc, h, x, hx => h x hx
  | n + 1, acc, h, x, hx => close_lt hs n (fun y hy => (addAll_mem.1 hy).elim (h y) (moreIds_lt hs)) x hx
theorem close_sub {S : Sto} : ∀ (n : Nat) {acc : List Nat} {x : Nat}, x ∈ acc → x ∈ close S n acc
  | 0, acc, x, h => h
  | n + 1, acc, x, h => close_sub n (addAll_mem.2 (.inl h))
/-- What a call of a function comes to. -/
def CallsTo (P : Program) (T : TypeId → Option TI) (q : Bool) (f : FuncId) (us : List Value) (w : World) (c : Cx) (S : Sto) (nx : Nat) (K : V → Sto → Nat → Prop) : Prop :=
  Runs P f us.toArray w fun e w' => ∃ u r c' S' nx', e = .returned u ∧ Step T w c S nx w' c' S' nx' ∧ VR T w' c' S' nx' r u ∧ K r S' nx' ∧ (q = true → Quiet w w')
theorem call_nil (c : Cx) : c.call [] = Cx.ro c.Z := by simp [Cx.call, Cx.ro]
theorem call_own {P : Program} (hs : Sat T w c S nx) {f : FuncId} {args args' : List V} {us : List Value} (hl : us.length = args.length) (hv : ∀ (j : Nat) (v : V) (u : Value), args[j]? = some v → us[j]? = some u → VR T w c S nx v u) {b : List Nat} (hb : b = close S 3 (addAll [] (idsVs args))) {S' : Sto} (ha : renVs b args = some args') (hS : renS b S b 0 = some S')
    {K : V → Sto → Nat → Prop} (h : VC P T f args' S' b.length fun r T n => K (mapV (bk b nx) r) (mapS (bk b nx) T ++ (deads b ++ S)) (nx + (n - b.length))) : CallsTo P T (isNil b) f us w c S nx K := by
  have hn : b.Nodup := by rw [hb]; exact close_nodup S 3 _ (addAll_nodup _ _ List.nodup_nil)
  have hlt : ∀ x ∈ b, x < nx := by
    rw [hb]
    refine close_lt hs 3 fun x hx => ?_
    rcases addAll_mem.1 hx with h | h
    · simp at h
    · exact VRs.ids hl hv x h
  obtain ⟨g1, g2⟩ := renVs_sound hS ha hl hv
  unfold VC at h
  refine (h w (c.call b) us (hs.call hn hS) g1 g2).mono fun e w' => ?_
  rintro ⟨u, r, S1, n', c1, rfl, hle, hsat, hr, hext, hst, hK⟩
  have hB : Back T w c S nx b S' w' c1 S1 n' := ⟨hs, hn, hlt, hS, hsat, hext, hst, hle⟩
  refine ⟨u, _, _, _, _, rfl, hB.step, hB.vr hr, hK, fun hq z hz' => ?_⟩
  cases b with
  | nil => rw [call_nil] at hext; exact hext.keep z hz' fun id h => h
  | cons x l => simp [isNil] at hq
theorem call_ro {P : Program} (hs : Sat T w c S nx) {f : FuncId} {args' : List V} {us : List Value} (hl : us.length = args'.length) (hv : ∀ (j : Nat) (v : V) (u : Value), args'[j]? = some v → us[j]? = some u → VR T w (Cx.ro c.Z) [] 0 v u)
    {K : V → Sto → Nat → Prop} (h : VC P T f args' [] 0 fun r T n => K (mapV (bk [] nx) r) (mapS (bk [] nx) T ++ S) (nx + n)) : CallsTo P T true f us w c S nx K := by
  unfold VC at h
  refine (h w (Cx.ro c.Z) us (Sat.ro hs.zlt) hl hv).mono fun e w' => ?_
  rintro ⟨u, r, S1, n', c1, rfl, hle, hsat, hr, hext, hst, hK⟩
  have hB : Back T w c S nx [] [] w' c1 S1 n' := ⟨hs, List.nodup_nil, fun x hx => by simp at hx, rfl, hsat, by rw [call_nil]; exact hext, fun id hi => by simp at hi, Nat.zero_le _⟩
  exact ⟨u, _, _, _, _, rfl, hB.step, hB.vr hr, hK, fun _ z hz' => hext.keep z hz' fun id h => h⟩
theorem call_cut {P : Program} (hs : Sat T w c S nx) {f : FuncId} {args' : List V} {us : List Value} {Z1 : Nat → Prop} (hz : ∀ z, c.Z z → Z1 z) (hz1 : ∀ z, Z1 z → z < w.heap.size) (hl : us.length = args'.length) (hv : ∀ (j : Nat) (v : V) (u : Value), args'[j]? = some v → us[j]? = some u → VR T w (Cx.ro Z1) [] 0 v u)
    {K : V → Sto → Nat → Prop} (h : VC P T f args' [] 0 fun r T n => noRoV r = true ∧ noRoS T = true ∧ K (mapV (bk [] nx) r) (mapS (bk [] nx) T ++ S) (nx + n)) : CallsTo P T true f us w c S nx K := by
  unfold VC at h
  refine (h w (Cx.ro Z1) us (Sat.ro hz1) hl hv).mono fun e w' => ?_
  rintro ⟨u, r, S1, n', c1, rfl, hle, hsat, hr, hext, hst, hn1, hn2, hK⟩
  have hB : Back T w c S nx [] [] w' (c1.cut c.Z) S1 n' := ⟨hs, List.nodup_nil, fun x hx => by simp at hx, rfl, hsat.cut hn2 fun z hz' => hext.zup z (hz z hz'), by
    rw [call_nil]
    exact ⟨hext.os, hext.tape, hext.output, hext.size, fun z hz' _ => hext.keep z hz' fun id h => h, fun z h => h, fun z _ h => .inl h, fun id z hz' hx => hext.xnew id z hz' hx⟩, fun id hi => by simp at hi, Nat.zero_le _⟩
  exact ⟨u, _, _, _, _, rfl, hB.step, hB.vr (hr.cut hn1), hK, fun _ z hz' => hext.keep z hz' fun id h => h⟩
theorem CallsTo.gs {P : Program} {c2 : Cx} {S2 : Sto} {Lo : Nat → Prop} (hg : Gs T w c S nx c2 S2 Lo) {f : FuncId} {us : List Value} {K : V → Sto → Nat → Prop} {q : Bool} (h : CallsTo P T q f us w c2 S2 nx K) : CallsTo P T q f us w c S nx K := by
  refine Runs.mono h fun e w' => ?_
  rintro ⟨u, r, c', S', nx', h1, h2, h3, h4⟩
  exact ⟨u, r, c', S', nx', h1, hg.step.trans h2, h3, h4⟩
theorem freeze_get : ∀ {l : List Nat} {Z : Sto}, freeze S l = some Z → ∀ {id e k v xs}, geto S id = .row e k v xs → ∃ k', geto (Z ++ S) id = .row e k' v xs
  | [], Z, h, id, e, k, v, xs, hr => by
    simp [freeze] at h
    subst h
    exact ⟨k, hr⟩
  | i :: r, Z, h, id, e, k, v, xs, hr => by
    simp only [freeze] at h
    split at h
    · rename_i e' k' v' xs' Z' hr' hZ
      cases h
      rw [List.cons_append, geto_cons]
      split
      · rename_i e1
        subst e1
        rw [hr'] at hr
        cases hr
        exact ⟨_, rfl⟩
      · exact freeze_get hZ hr
    · cases h
/-- Rows are only read from now on, one by one. -/
theorem freeze_gs : ∀ {l : List Nat} {Z : Sto}, Sat T w c S nx → freeze S l = some Z → ∃ c' Lo, Gs T w c S nx c' (Z ++ S) Lo ∧ (∀ id ∈ l, ∀ z, ¬ c'.X id z) ∧ (∀ id ∈ l, ∃ e k v xs, geto S id = .row e k v xs) ∧ (∀ id ∈ l, ∀ z, c.X id z → c'.Z z) ∧ (∀ id, id ∉ l → c'.X id = c.X id)
  | [], Z, hs, h => by
    simp [freeze] at h
    subst h
    exact ⟨c, _, Gs.refl hs, fun id h => by simp at h, fun id h => by simp at h, fun id h => by simp at h, fun _ _ => rfl⟩
  | id :: r, Z, hs, h => by
    simp only [freeze] at h
    split at h
    · rename_i e k v xs Z' hr hZ
      cases h
      obtain ⟨c1, Lo, hg, h1, h2, h3, h4⟩ := freeze_gs hs hZ
      obtain ⟨k', hr'⟩ := freeze_get hZ hr
      have hg2 := Gs.freeze hg.sat hr'
      refine ⟨c1.frz id, _, hg.trans hg2, fun i hi z hx => ?_, fun i hi => ?_, fun i hi z hx => ?_, fun i hi => ?_⟩
      · by_cases e1 : i = id
        · subst e1
          simp [Cx.frz, up] at hx
        · have : (c1.frz id).X i = c1.X i := up_other _ _ _ e1
          rw [this] at hx
          rcases List.mem_cons.1 hi with h | h
          · exact e1 h
          · exact h1 i h z hx
      · rcases List.mem_cons.1 hi with rfl | h
        · exact ⟨_, _, _, _, hr⟩
        · exact h2 i h
      · rcases List.mem_cons.1 hi with rfl | h
        · by_cases hm : i ∈ r
          · exact .inl (h3 i hm z hx)
          · exact .inr (by rw [h4 i hm]; exact hx)
        · exact .inl (h3 i h z hx)
      · simp only [List.mem_cons, not_or] at hi
        have : (c1.frz id).X i = c1.X i := up_other _ _ _ hi.1
        rw [this]; exact h4 i hi.2
    · cases h
end Go.Proofs.Ytodhnbjncmihkaa.V
end
