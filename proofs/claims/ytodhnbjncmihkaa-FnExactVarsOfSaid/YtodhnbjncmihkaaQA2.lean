import Derived.Test.YtodhnbjncmihkaaQA1
import Derived.Laws.BytesString
import Derived.Orders
import Derived.Test.YtodhnbjncmihkaaProg
import Derived.KernelRfl

section
/- The symbolic machine V: a call, whole. -/
set_option linter.unusedVariables false
set_option linter.unusedSimpArgs false
namespace Go.Proofs.Ytodhnbjncmihkaa.V
open Go
variable {T : TypeId → Option TI} {w : World} {c : Cx} {S : Sto} {nx : Nat}

theorem VC.mono {P : Program} {f : FuncId} {args : List V} {post post' : V → Sto → Nat → Prop} (h : VC P T f args S nx post) (hp : ∀ r S n, post r S n → post' r S n) : VC P T f args S nx post' := by
  unfold VC at h ⊢
  intro w c us hs hl hv
  refine (h w c us hs hl hv).mono fun e w' => ?_
  rintro ⟨u, r, S', nx', c', h1, h2, h3, h4, h5, h6, h7⟩
  exact ⟨u, r, S', nx', c', h1, h2, h3, h4, h5, h6, hp _ _ _ h7⟩
theorem callwp_sound {C : Cfg} (hs : Sat C.T w c S nx) {f : FuncId} {args : List V} {us : List Value} (hl : us.length = args.length) (hv : ∀ (j : Nat) (v : V) (u : Value), args[j]? = some v → us[j]? = some u → VR C.T w c S nx v u)
    {K : V → Sto → Nat → Prop} (h : callwp C f args S nx K) : CallsTo C.P C.T (quietB C f args) f us w c S nx K := by
  unfold callwp at h
  unfold quietB
  split at h
  · rename_i hlo
    try simp only [hlo]
    split at h
    · rename_i args' ha
      replace h := fVs_eq h
      by_cases hnil : isNil (idsVs args) = true
      · rw [hnil] at h
        have hids : idsVs args = [] := by cases hi : idsVs args with | nil => rfl | cons x r => rw [hi] at hnil; simp [isNil] at hnil
        obtain ⟨g1, g2⟩ := viewVs_sound hs (Z1 := c.Z) (fun _ h => h) hl hv (by rw [hids]; intro id h; simp at h) (by rw [hids]; intro id h; simp at h) ha
        exact call_ro hs g1 g2 h
      · have hnil : isNil (idsVs args) = false := by simpa using hnil
        rw [hnil] at h
        simp only at h
        cases hf : freeze S (close S 3 (addAll [] (idsVs args))) with
        | none =>
          rw [hf] at h
          obtain ⟨g1, g2⟩ := viewVs_sound hs (Z1 := fun z => c.Z z ∨ ∃ id, c.X id z) (fun _ h => .inl h) hl hv (fun id _ z hx => .inr ⟨id, hx⟩) (fun id _ t ls _ id' _ z hx => .inr ⟨id', hx⟩) ha
          refine call_cut hs (fun _ h => .inl h) (fun z hz => hz.elim (hs.zlt z) fun ⟨id, hx⟩ => hs.xlt id z hx) g1 g2 (h.mono fun r T n hk => ?_)
          split at hk
          · rename_i hb
            simp only [Bool.and_eq_true] at hb
            exact ⟨hb.1, hb.2, hk⟩
          · exact hk.elim
        | some Zs =>
          rw [hf] at h
          obtain ⟨c2, Lo, hg, f1, f2, f3, f4⟩ := freeze_gs hs hf
          have hsub : ∀ id ∈ idsVs args, id ∈ close S 3 (addAll [] (idsVs args)) := fun id hid => close_sub 3 (addAll_mem.2 (.inr hid))
          obtain ⟨g1, g2⟩ := viewVs_sound hs (Z1 := c2.Z) hg.ext.zup hl hv (fun id hid z hx => f3 id (hsub id hid) z hx) (fun id hid t ls ho => by
            obtain ⟨e, k, v, xs, hr⟩ := f2 id (hsub id hid)
            rw [hr] at ho; cases ho) ha
          unfold VC at h
          refine (h w (Cx.ro c2.Z) us (Sat.ro hg.sat.zlt) g1 g2).mono fun e w' => ?_
          rintro ⟨u, r, S1, n', c1, rfl, hle, hsat, hr, hext, hst, hK⟩
          split at hK
          · rename_i hb
            simp only [Bool.and_eq_true] at hb
            have hB : Back C.T w c S nx [] [] w' (c1.cut c.Z) S1 n' := ⟨hs, List.nodup_nil, fun x hx => by simp at hx, rfl, hsat.cut hb.2 fun z hz' => hext.zup z (hg.ext.zup z hz'), by
              rw [call_nil]
              exact ⟨hext.os, hext.tape, hext.output, hext.size, fun z hz' _ => hext.keep z hz' fun id h => h, fun z h => h, fun z _ h => .inl h, fun id z hz' hx => hext.xnew id z hz' hx⟩, fun id hi => by simp at hi, Nat.zero_le _⟩
            exact ⟨u, _, _, _, _, rfl, hB.step, hB.vr (hr.cut hb.1), hK, fun _ z hz' => hext.keep z hz' fun id h => h⟩
          · have hB : Back C.T w c2 (Zs ++ S) nx [] [] w' c1 S1 n' := ⟨hg.sat, List.nodup_nil, fun x hx => by simp at hx, rfl, hsat, by rw [call_nil]; exact hext, fun id hi => by simp at hi, Nat.zero_le _⟩
            exact ⟨u, _, _, _, _, rfl, hg.step.trans hB.step, hB.vr hr, hK, fun _ z hz' => hext.keep z hz' fun id h => h⟩
    · exact h.elim
  · rename_i hlo
    try simp only [hlo]
    replace h := fNs_eq h
    split at h
    · rename_i args' S' ha hS
      replace h := fS_eq (fVs_eq h)
      have g := call_own hs hl hv rfl ha hS h
      cases hi : idsVs args with
      | nil => rw [hi] at g; exact g
      | cons x l =>
        refine Runs.mono g fun e w' => ?_
        rintro ⟨u, r, c', S'', nx', h1, h2, h3, h4, _⟩
        exact ⟨u, r, c', S'', nx', h1, h2, h3, h4, fun h => by simp [isNil] at h⟩
    · exact h.elim
end Go.Proofs.Ytodhnbjncmihkaa.V
end

section
/- The symbolic machine V: an operation in its region. -/
set_option linter.unusedVariables false
set_option linter.unusedSimpArgs false
namespace Go.Proofs.Ytodhnbjncmihkaa.V
open Go
variable {w : World} {c : Cx} {S : Sto} {nx : Nat}

theorem put_size' (a : Act) (dst : Option Tmp) (v : Value) : (a.put dst v).tmps.size = a.tmps.size := by cases dst <;> simp [Act.put]
theorem put_defers' (a : Act) (dst : Option Tmp) (v : Value) : (a.put dst v).defers = a.defers := by cases dst <;> rfl
theorem put_fr {T : TypeId → Option TI} {F : Frm} {a : Act} (hF : ∀ t, VR T w c S nx (get F t) (a.tmps.getD t undef)) {d : Tmp} {v : V} {u : Value} (hd : d < a.tmps.size) (hv : VR T w c S nx v u) (t : Nat) : VR T w c S nx (get ((d, v) :: F) t) ((a.put (some d) u).tmps.getD t undef) := by
  rw [get_cons]
  simp only [Act.put]
  split
  · rename_i e; subst e
    have : (a.tmps.setIfInBounds d u).getD d undef = u := by simp [Array.getD, hd]
    rw [this]; exact hv
  · rename_i hne
    have : (a.tmps.setIfInBounds d u).getD t undef = a.tmps.getD t undef := by
      rw [Array.getD_eq_getD_getElem?, Array.getD_eq_getD_getElem?, Array.getElem?_setIfInBounds_ne hne]
    rw [this]; exact hF t
theorem capsV_len : ∀ (l : List Nat), (capsV l).length = l.length
  | [] => rfl
  | _ :: r => by simp [capsV, capsV_len r]
theorem capsV_get : ∀ {l : List Nat} {j : Nat} {v : V}, (capsV l)[j]? = some v → ∃ id, l[j]? = some id ∧ v = .one (.ptr id 0 0 0)
  | [], j, v, h => by simp [capsV] at h
  | x :: r, 0, v, h => by simp [capsV] at h; exact ⟨x, rfl, h.symm⟩
  | x :: r, j + 1, v, h => by simp only [capsV, List.getElem?_cons_succ] at h ⊢; exact capsV_get h
theorem boxesB_at : ∀ {l : List Nat} {id : Nat}, boxesB S l = true → id ∈ l → ∃ t ls, geto S id = .box t ls
  | [], id, _, h => by simp at h
  | x :: r, id, hb, h => by
    simp only [boxesB] at hb
    split at hb
    · rename_i t ls hx
      rcases List.mem_cons.1 h with rfl | h
      · exact ⟨t, ls, hx⟩
      · exact boxesB_at hb h
    · cases hb
/-- An operation that is carried out. -/
theorem oper_sound {C : Cfg} (hT : TOk C.P C.T) (hs : Sat C.T w c S nx) {F : Frm} {a : Act} (hF : ∀ t, VR C.T w c S nx (get F t) (a.tmps.getD t undef)) {o : Oper} (hx : ∀ x ∈ o.op.operands.toList, xOk x = true) {K : V → Sto → Nat → Prop} (h : execwp C o.op F S nx K)
    {next : Act → World → Prop} {Q : Exit → Act → World → Prop}
    (hn : ∀ u v w' c' S' nx', Step C.T w c S nx w' c' S' nx' → VR C.T w' c' S' nx' v u → K v S' nx' → (quietOp C F o.op = true → Quiet w w') → next (a.put o.dst u) w') : o.wp C.P a w next Q := by
  unfold Oper.wp
  by_cases hf : isFn o.op = true
  · cases hop : o.op <;> rw [hop] at hf <;> try (simp [isFn] at hf; done)
    rename_i cl
    cases hcl : cl.callee <;> simp [isFn, hcl] at hf
    rename_i g
    rw [hop] at h hx
    have hargs : ∀ x ∈ cl.args.toList, xOk x = true := fun x hx' => hx x (by simp [Op.operands, Call.operands]; simp at hx'; exact .inr hx')
    have hg : xOk g = true := hx g (by simp [Op.operands, Call.operands, hcl])
    have hA := fun j v u => argsOf_sound hF hargs j v u
    have hv := ev_sound hF hg
    simp only [execwp, hcl] at h
    split at h
    · rename_i f caps hev
      replace h := guardT_eq h
      obtain ⟨hb, h⟩ := h
      rw [hev] at hv
      obtain ⟨hid, us, hu, hlen, hcap⟩ := hv.inv1
      have hrun : (execOp a.eval o).run C.P w = (callFunc f ((cl.args.toList.map a.eval) ++ us).toArray).run C.P w := by
        unfold execOp
        rw [hop]
        simp only [resolve, hcl, hu, Deferred.ofValue]
        rw [Sem.run_bind]
        simp only [Sem.run_pure, Result.andThen_ok, invoke]
        congr 2
        apply Array.ext'
        simp
      have hcalls := callwp_sound hs (us := cl.args.toList.map a.eval ++ us) (by simp [argsOf_len, capsV_len, hlen]) (fun j v u h1 h2 => by
        by_cases hj : j < cl.args.toList.length
        · rw [List.getElem?_append_left (by rw [argsOf_len]; exact hj)] at h1
          rw [List.getElem?_append_left (by simpa using hj)] at h2
          exact hA j v u h1 h2
        · rw [List.getElem?_append_right (by rw [argsOf_len]; omega)] at h1
          rw [List.getElem?_append_right (by simpa using hj)] at h2
          rw [argsOf_len] at h1
          simp only [List.length_map] at h2
          obtain ⟨id, h3, rfl⟩ := capsV_get h1
          obtain ⟨x, h4, ⟨ad, h5⟩, h6⟩ := hcap _ _ h3
          rw [h4] at h2
          cases h2
          have hlt := hid id (List.mem_of_getElem? h3)
          obtain ⟨t, ls, hbx⟩ := boxesB_at hb (List.mem_of_getElem? h3)
          have h0 := hs.os id
          rw [hbx] at h0
          obtain ⟨b, arr, g1, g2, g3, g4⟩ := h0
          have h7 := h6 _ _ hbx
          refine .one ⟨hlt, ⟨ad, h5⟩, fun e k ver' xs hr => ?_, fun t' ls' hb' => ⟨b, g1, by rw [h7, g1]⟩⟩
          rw [hbx] at hr; cases hr) h
      rw [hrun]
      have hq : quietOp C F o.op = quietB C f (argsOf F cl.args.toList ++ capsV caps) := by
        rw [hop]; simp only [quietOp, hcl, hev]
      rcases hcalls with ⟨h1, h2⟩ | ⟨u, w', h1, u', r, c', S', nx', h2, h3, h4, h5, h6⟩
      · rw [h1, Oper.upon_enter]
        refine h2.mono fun e w' => ?_
        rintro ⟨u, r, c', S', nx', rfl, h3, h4, h5, h6⟩
        exact hn u r w' c' S' nx' h3 h4 h5 (fun hh => h6 (by rw [← hq]; exact hh))
      · rw [h1, Oper.upon_value]
        cases h2
        exact hn u r w' c' S' nx' h3 h4 h5 (fun hh => h6 (by rw [← hq]; exact hh))
    · exact h.elim
  · have hf : isFn o.op = false := by simpa using hf
    obtain ⟨u, v, w', c', S', nx', h1, h2, h3, h4, h5⟩ := exec_sound hT hs hF hx hf h
    have hq : quietOp C F o.op = true → Quiet w w' := fun hh => by
      refine h5 ?_
      cases hop : o.op <;> rw [hop] at hh hf <;> simp only [quietOp] at hh <;> first | rfl | (cases hh; done) | skip
      rename_i cl
      cases hcl : cl.callee <;> simp [isFn, hcl] at hh hf
    rcases h1 with h1 | ⟨h1, rfl⟩
    · rw [h1, Oper.upon_value]; exact hn _ _ _ _ _ _ h2 h3 h4 hq
    · rw [h1, Oper.upon_skip]; exact hn _ _ _ _ _ _ h2 h3 h4 hq
/-! ### bytes that become a text -/
theorem convB_eq {C : Cfg} {F : Frm} {S : Sto} {op : Op} {xs : List (List D)} (h : convB C F S op = some xs) : ∃ s d x is id l e ie, op = .convert s d x ∧ C.T s = some is ∧ C.T d = some id ∧ ev F x = .one l ∧ is.d = .sl e ∧ id.d = .str ∧ C.T e = some ie ∧ ie.d = .int .u8 ∧ ie.ks = [.int .u8] ∧ shown S l = some (e, xs) := by
  unfold convB at h
  split at h
  case h_2 => cases h
  rename_i s d x
  split at h
  case h_2 => cases h
  rename_i is id l h1 h2 h3
  split at h
  case h_2 => cases h
  rename_i e h4 h5
  split at h
  case h_2 => cases h
  rename_i ie e' ys h6 h7
  split at h
  case h_2 => cases h
  rename_i hb
  simp only [Bool.and_eq_true] at hb
  cases h
  have := beq_t hb.2
  subst this
  have hd : ie.d = .int .u8 := by
    have := hb.1.1
    unfold isU8 at this
    split at this
    · assumption
    · cases this
  exact ⟨s, d, x, is, id, l, e, ie, rfl, h1, h2, h3, h4, h5, h6, hd, lksEq_t hb.1.2, h7⟩
theorem foldl_push (l : List Int) : ∀ (r : ByteArray), l.foldl (fun r n => r.push (UInt8.ofNat n.toNat)) r = ⟨r.data ++ (l.map fun n => UInt8.ofNat n.toNat).toArray⟩ := by
  induction l with
  | nil => intro r; simp
  | cons n l ih =>
    intro r
    rw [List.foldl_cons, ih]
    congr 1
    apply Array.ext'
    simp [ByteArray.push]
theorem conv_sound {C : Cfg} (hT : TOk C.P C.T) (hs : Sat C.T w c S nx) {F : Frm} {a : Act} (hF : ∀ t, VR C.T w c S nx (get F t) (a.tmps.getD t undef)) {o : Oper} (hx : ∀ x ∈ o.op.operands.toList, xOk x = true) {xs : List (List D)} (h : convB C F S o.op = some xs) :
    ∃ B : Nat → Prop, (∀ w2 : World, (∀ b, B b → w2.heap[b]? = w.heap[b]?) → (execOp a.eval o).run C.P w2 = .ok (.value (.string (bytesOf xs))) w2) ∧ xs.length ≤ maxI ∧ ∀ b, B b → b < w.heap.size ∧ (ownLoad F o = false → c.Z b) := by
  obtain ⟨s, d, x, is, id, l, e, ie, hop, h1, h2, h3, h4, h5, h6, h6d, h7, h8⟩ := convB_eq h
  rw [hop] at hx
  have hv := ev_sound hF (hx x (by simp [Op.operands]))
  rw [h3] at hv
  have hl := hv.inv1
  obtain ⟨infs, zs, hts⟩ := hT.at h1
  obtain ⟨infd, zd, htd⟩ := hT.at h2
  obtain ⟨infe, ze, hte⟩ := hT.at h6
  have hu8 := hte.intT h6d
  have hexec : ∀ (w2 : World) (A : Option Addr) (n m : Nat), a.eval x = .slice A n m → (execOp a.eval o).run C.P w2 = ((Conv.bytesToString (.slice A n m)).run C.P w2).andThen fun v w' => .ok (.value v) w' := fun w2 A n m e => by
    unfold execOp
    rw [hop]
    simp only [e]
    rw [Sem.run_bind, run_convert_bytes_string w2 s d _ A n m (hts.sl h4) hu8 (htd.strT h5)]
    rfl
  let Z1 : Nat → Prop := fun z => c.Z z ∨ (ownLoad F o = true ∧ ∃ id, c.X id z)
  have hrd : Rd C.T w Z1 (.sl e) (.sl xs) (a.eval x) := shown_rd hs (Z1 := Z1) (fun _ h => .inl h) hl (fun id hid z hz => .inr ⟨by
    cases l with
    | all id v => simp [ownLoad, hop, h3]
    | part id v lo n => simp [ownLoad, hop, h3]
    | ptr id v i j => simp [ownLoad, hop, h3]
    | fn f caps => simp [ownLoad, hop, h3]
    | _ => simp [idsL] at hid, id, hz⟩) h8
  generalize hu : a.eval x = u at hrd
  cases hrd with
  | @nil _ A cap =>
    refine ⟨fun _ => False, fun w2 _ => ?_, by simp, fun b hb => hb.elim⟩
    rw [hexec w2 A 0 cap hu]
    cases A with
    | none => rfl
    | some A =>
      have := run_bytesToString (P := C.P) w2 A 0 cap [] (by simpa using run_loadCells_list w2 A [] (fun q u h => by simp at h))
      rw [this]
      rfl
  | @sl _ i' _ A cap u0 hT' hm hle hZ hsp hxl hc hr =>
    rw [h6] at hT'
    cases hT'
    rw [h7] at hxl hc hr
    refine ⟨fun k => k = A.block, fun w2 hw2 => ?_, hm, fun b hb => ?_⟩
    · rw [hexec w2 (some A) xs.length cap hu]
      have hint : ∀ p x, xs[p]? = some x → u0 p 0 = .int .u8 ((x.getD 0 default).int) := fun p x hx => by
        have hlen := hxl p x hx
        have h0 : x[0]? = some (x.getD 0 default) := by
          have : 0 < x.length := by rw [hlen]; simp
          simp [List.getD, List.getElem?_eq_getElem this]
        have := hr p x 0 (.int .u8) _ hx rfl h0
        generalize hd0 : x.getD 0 default = d0 at this
        generalize hv0 : u0 p 0 = v0 at this
        cases this
        rfl
      have hcells := run_loadCells_list (P := C.P) w2 A ((xs.map fun x => (x.getD 0 default).int).map (Value.int .u8)) (fun q v hq => by
        rw [List.getElem?_map, List.getElem?_map] at hq
        cases hxq : xs[q]? with
        | none => rw [hxq] at hq; cases hq
        | some x =>
          rw [hxq] at hq
          simp only [Option.map_some, Option.some.injEq] at hq
          subst hq
          have hq' := (List.getElem?_eq_some_iff.1 hxq).1
          have := hc q 0 hq' (by simp)
          simp only [List.length_cons, List.length_nil, Nat.zero_add, Nat.mul_one, Nat.add_zero] at this
          rw [hint q x hxq] at this
          exact (cell_eq (w := w) (w' := w2) (a := A.add q) (by rw [block_add]; exact hw2 _ rfl)).trans this)
      rw [List.length_map, List.length_map] at hcells
      have := run_bytesToString (P := C.P) w2 A xs.length cap (xs.map fun x => (x.getD 0 default).int) hcells
      rw [this, foldl_push]
      simp only [Result.andThen_ok, bytesOf, List.map_map]
      simp [ByteArray.empty, ByteArray.emptyWithCapacity, Function.comp_def]
      rfl
    · subst hb
      refine ⟨?_, fun hz => ?_⟩
      · rcases hZ with hZ | ⟨_, id, hZ⟩
        · exact hs.zlt _ hZ
        · exact hs.xlt _ _ hZ
      · rcases hZ with hZ | ⟨hZ, _⟩
        · exact hZ
        · rw [hz] at hZ; cases hZ
theorem operx_sound {C : Cfg} (hT : TOk C.P C.T) (hs : Sat C.T w c S nx) {F : Frm} {a : Act} (hF : ∀ t, VR C.T w c S nx (get F t) (a.tmps.getD t undef)) {o : Oper} (hx : ∀ x ∈ o.op.operands.toList, xOk x = true) {K : V → Sto → Nat → Prop} (h : execx C o.op F S nx K)
    {next : Act → World → Prop} {Q : Exit → Act → World → Prop}
    (hn : ∀ u v w' c' S' nx', Step C.T w c S nx w' c' S' nx' → VR C.T w' c' S' nx' v u → K v S' nx' → (quietOp C F o.op = true → Quiet w w') → next (a.put o.dst u) w') : o.wp C.P a w next Q := by
  unfold execx at h
  split at h
  · rename_i xs hxs
    obtain ⟨B, h1, h2, _⟩ := conv_sound hT hs hF hx hxs
    unfold Oper.wp
    rw [h1 w fun _ _ => rfl, Oper.upon_value]
    refine hn _ _ w c S nx (Step.refl hs) (.one (LR.strv ?_)) (h h2) fun _ b _ => rfl
    simpa [bytesOf, ByteArray.size] using h2
  · exact oper_sound hT hs hF hx h hn
end Go.Proofs.Ytodhnbjncmihkaa.V
end

section
/- The symbolic machine V: operations of a region, in the text's order. -/
set_option linter.unusedVariables false
set_option linter.unusedSimpArgs false
namespace Go.Proofs.Ytodhnbjncmihkaa.V
open Go
variable {w : World} {c : Cx} {S : Sto} {nx : Nat}

/-- A frame in memory. -/
structure At (C : Cfg) (n : Nat) (D : List Deferred) (w : World) (c : Cx) (S : Sto) (nx : Nat) (F : Frm) (a : Act) : Prop where
  sat : Sat C.T w c S nx
  fr : ∀ t, VR C.T w c S nx (get F t) (a.tmps.getD t undef)
  size : a.tmps.size = n
  defs : a.defers = D

theorem dstAt_eq : ∀ {l : List Oper} {g : Nat} {t : Tmp}, dstAt l g = some t → ∃ o, l[g]? = some o ∧ o.dst = some t
  | [], g, t, h => by simp [dstAt] at h
  | o :: r, 0, t, h => ⟨o, rfl, h⟩
  | o :: r, g + 1, t, h => by simp only [dstAt] at h; simpa using dstAt_eq h
theorem bEq_iff {b c : Bool} : bEq b c = (b == c) := by cases b <;> cases c <;> rfl
theorem yielded_of {ops : Array Oper} {tmps : Array Value} {g : Nat} {t : Tmp} (h : dstAt ops.toList g = some t) {b : Bool} (hb : tmps.getD t undef = .bool b) : yielded ops tmps g = some b := by
  obtain ⟨o, h1, h2⟩ := dstAt_eq h
  have h1' : ops[g]? = some o := by simpa using h1
  have h3 : tmps[t]? = some (.bool b) := by
    rw [Array.getD_eq_getD_getElem?] at hb
    cases ht : tmps[t]? with
    | none => rw [ht] at hb; exact nomatch hb
    | some v => rw [ht] at hb; simpa using hb
  simp [yielded, h1', h2, h3]
theorem yielded_tup {ops : Array Oper} {tmps : Array Value} {g : Nat} {t : Tmp} (h : dstAt ops.toList g = some t) {us : Array Value} (hb : tmps.getD t undef = .tuple us) : yielded ops tmps g = none := by
  obtain ⟨o, h1, h2⟩ := dstAt_eq h
  have h1' : ops[g]? = some o := by simpa using h1
  rw [Array.getD_eq_getD_getElem?] at hb
  unfold yielded
  simp only [h1', Option.bind_some, h2]
  cases ht : tmps[t]? with
  | none => rfl
  | some v =>
    rw [ht] at hb
    simp at hb
    subst hb
    rfl
theorem VR.undef {T : TypeId → Option TI} : VR T w c S nx (.tup []) Go.undef := .tup rfl fun j v u h => by simp at h
theorem At.refine {C : Cfg} {n : Nat} {D : List Deferred} {F : Frm} {a : Act} (h : At C n D w c S nx F a) {t : Nat} {b : Bool} (hb : a.tmps.getD t undef = .bool b) : At C n D w c S nx ((t, .one (.kb b)) :: F) a := by
  refine ⟨h.sat, fun t' => ?_, h.size, h.defs⟩
  rw [get_cons]
  split
  · rename_i e; subst e; rw [hb]; exact .one rfl
  · exact h.fr t'
theorem At.put {C : Cfg} {n : Nat} {D : List Deferred} {F : Frm} {a : Act} (h : At C n D w c S nx F a) {d : Tmp} {v : V} {u : Value} (hd : d < n) (hv : VR C.T w c S nx v u) : At C n D w c S nx ((d, v) :: F) (a.put (some d) u) :=
  ⟨h.sat, put_fr h.fr (by rw [h.size]; exact hd) hv, by rw [put_size', h.size], by rw [put_defers', h.defs]⟩
theorem At.step {C : Cfg} {n : Nat} {D : List Deferred} {F : Frm} {a : Act} (h : At C n D w c S nx F a) {w' : World} {c' : Cx} {S' : Sto} {nx' : Nat} (hs : Step C.T w c S nx w' c' S' nx') : At C n D w' c' S' nx' F a :=
  ⟨hs.sat, fun t => hs.vr h.sat (h.fr t), h.size, h.defs⟩
theorem oOk_ops {n : Nat} {o : Oper} (h : oOk n o = true) : (∀ x ∈ o.op.operands.toList, xOk x = true) ∧ ∀ d, o.dst = some d → d < n := by
  simp only [oOk, Bool.and_eq_true, List.all_eq_true] at h
  refine ⟨h.1, fun d hd => ?_⟩
  rw [hd] at h
  have : Nat.ble (d + 1) n = true := h.2
  exact Nat.le_of_ble_eq_true this

theorem opwp_sound {C : Cfg} (hT : TOk C.P C.T) {n : Nat} {D : List Deferred} {F : Frm} {a : Act} (h : At C n D w c S nx F a) {ops : Array Oper} {o : Oper} (hok : oOk n o = true) {K : Frm → Sto → Nat → Prop} (hw : opwp C ops.toList o F S nx K) {R : Value → World → Prop}
    (hn : ∀ u w' c' F' S' nx', Step C.T w c S nx w' c' S' nx' → At C n D w' c' S' nx' F' (a.put o.dst u) → K F' S' nx' → (quietOp C F o.op = true → Quiet w w') → R u w') :
    (Region.wanted o (yielded ops a.tmps) = true ∧ o.wp C.P a w (fun a' w' => ∃ u, a' = a.put o.dst u ∧ R u w') fun _ _ _ => False) ∨ (Region.wanted o (yielded ops a.tmps) = false ∧ R undef w) := by
  obtain ⟨hx, hd⟩ := oOk_ops hok
  unfold opwp at hw
  split at hw
  · rename_i hg
    refine .inl ⟨by simp [Region.wanted, hg], operx_sound hT h.sat h.fr hx hw fun u v w' c' S' nx' hs hv hk hq => ⟨u, rfl, ?_⟩⟩
    replace hk := opK_eq hk
    cases hdst : o.dst with
    | none =>
      rw [hdst] at hk hn
      exact hn u w' c' F S' nx' hs (h.step hs) hk hq
    | some d =>
      rw [hdst] at hk hn
      exact hn u w' c' _ S' nx' hs ((h.step hs).put (hd d hdst) hv) hk hq
  · rename_i g want hg
    split at hw
    · exact hw.elim
    · rename_i t ht
      have hfr := h.fr t
      split at hw
      · rename_i vs hvs
        rw [hvs] at hfr
        generalize hu : a.tmps.getD t undef = u0 at hfr
        cases hfr with
        | tup hl hv =>
          have hy := yielded_tup ht hu
          refine .inr ⟨by simp [Region.wanted, hg, hy], ?_⟩
          cases hdst : o.dst with
          | none =>
            rw [hdst] at hw hn
            exact hn _ w c _ S nx (Step.refl h.sat) h hw fun _ b _ => rfl
          | some d =>
            rw [hdst] at hw hn
            exact hn _ w c _ S nx (Step.refl h.sat) (h.put (hd d hdst) VR.undef) hw fun _ b _ => rfl
      obtain ⟨b, hb, hw⟩ := fork_sound hfr hw
      have hy := yielded_of ht hb
      rw [bEq_iff] at hw
      have hwant : Region.wanted o (yielded ops a.tmps) = (b == want) := by
        simp only [Region.wanted, hg, hy]
        cases b <;> cases want <;> rfl
      split at hw
      · rename_i hbw
        refine .inl ⟨by rw [hwant, hbw], operx_sound hT h.sat h.fr hx hw fun u v w' c' S' nx' hs hv hk hq => ⟨u, rfl, ?_⟩⟩
        replace hk := opK_eq hk
        have h1 := (h.step hs).refine hb
        cases hdst : o.dst with
        | none =>
          rw [hdst] at hk hn
          exact hn u w' c' _ S' nx' hs h1 hk hq
        | some d =>
          rw [hdst] at hk hn
          exact hn u w' c' _ S' nx' hs (h1.put (hd d hdst) hv) hk hq
      · rename_i hbw
        refine .inr ⟨by rw [hwant, hbw], ?_⟩
        have h1 := h.refine hb
        cases hdst : o.dst with
        | none =>
          rw [hdst] at hw hn
          exact hn _ w c _ S nx (Step.refl h.sat) h1 hw fun _ b _ => rfl
        | some d =>
          rw [hdst] at hw hn
          exact hn _ w c _ S nx (Step.refl h.sat) (h1.put (hd d hdst) VR.undef) hw fun _ b _ => rfl

theorem wp_swap {P : Program} {o : Oper} {a av : Act} (he : execOp a.eval o = execOp av.eval o) {R : Value → World → Prop} {next : Act → World → Prop} {Q : Exit → Act → World → Prop}
    (h : o.wp P av w (fun a' w' => ∃ u, a' = av.put o.dst u ∧ R u w') fun _ _ _ => False) (hn : ∀ u w', R u w' → next (a.put o.dst u) w') (hinj : ∀ u u', av.put o.dst u = av.put o.dst u' → u = u' ∨ a.put o.dst u = a.put o.dst u') : o.wp P a w next Q := by
  unfold Oper.wp at h ⊢
  rw [he]
  generalize (execOp av.eval o).run P w = r at h
  have key : ∀ u w', (∃ u', av.put o.dst u = av.put o.dst u' ∧ R u' w') → next (a.put o.dst u) w' := by
    rintro u w' ⟨u', h1, h2⟩
    rcases hinj u u' h1 with rfl | h3
    · exact hn _ _ h2
    · rw [h3]; exact hn _ _ h2
  cases r with
  | ok x w' =>
    cases x <;> simp only [Oper.upon] at h ⊢
    case value u => exact key u w' h
    case skip => exact key _ w' h
    case defer d =>
      obtain ⟨u, h1, _⟩ := h
      have := congrArg (fun x : Act => x.defers.length) h1
      simp only [put_defers'] at this
      simp at this
    case enter f args =>
      refine Calls.mono h fun e w'' he => ?_
      cases e with
      | returned u => exact key u w'' he
      | panicked c => exact he.elim
      | outgrown => obtain ⟨_, _, hh⟩ := he; exact hh.elim
    case row row args => exact Rows.mono h fun u w'' he => key u w'' he
  | halt x w' => cases x <;> simp only [Oper.upon] at h ⊢

/-! ### a row within a row -/
theorem Ow.rows {T : TypeId → Option TI} {X : Nat → Prop} {e : TypeId} {d : D} {u : Value} (h : Ow T w X (.sl e) d u) : d = .sl d.rows ∧ ∃ A n m, u = .slice A n m := by
  cases h with
  | nil hX => exact ⟨rfl, _, _, _, rfl⟩
  | sl u Y hT hm hb hcap hle hx hc hr hd hn hX => exact ⟨rfl, _, _, _, rfl⟩
theorem Ow.same {T : TypeId → Option TI} {X X' : Nat → Prop} {κ : LK} {d : D} {u : Value} (h : Ow T w X κ d u) (he : ∀ b, X b ↔ X' b) : Ow T w X' κ d u := by
  have : X = X' := funext fun b => propext (he b)
  rwa [← this]
theorem nest_step {T : TypeId → Option TI} (hs : Sat T w c S nx) {id e ver : Nat} {xs : List (List D)} (ho : geto S id = .row e .tree ver xs) {ie : TI} (hT : T e = some ie) {p j : Nat} {e' : TypeId} (hp : p < xs.length) (hj : ie.ks[j]? = some (.sl e')) :
    ∃ (b cap : Nat) (arr : Array Value) (u : Value) (c1 : Cx), c.cur id = .slice (some ⟨b, 0, none⟩) xs.length cap ∧ w.heap[b]? = some (.cells arr e (0, 0)) ∧ arr[p * ie.ks.length + j]? = some u ∧ (∃ A n m, u = .slice A n m) ∧
      Sat T w c1 [(0, .row e' .tree 0 ((xs.getD p []).getD j default).rows)] 1 ∧ c1.cur 0 = u ∧
      ∀ w' c1' T' n' e'' ys, Sat T w' c1' T' n' → Ext w c1 w' c1' → Stays c1 [(0, .row e' .tree 0 ((xs.getD p []).getD j default).rows)] 1 c1' T' → geto T' 0 = .row e'' .tree 0 ys →
        ∃ c', Step T w c S nx w' c' ((id, .row e .tree ver (xs.set p ((xs.getD p []).set j (.sl ys)))) :: S) nx := by
  have h0 := hs.os id
  rw [ho] at h0
  simp only [OS] at h0
  generalize hcur : c.cur id = val at h0
  have hx0 : xs[p]? = some xs[p] := List.getElem?_eq_getElem hp
  have hgd : xs.getD p [] = xs[p] := by simp [List.getD, hx0]
  rw [hgd]
  cases h0 with
  | nil hX => simp at hp
  | @sl _ _ i' _ b arr cap u Y hT' hm hb hcap hle hx hc hr hd hn hX =>
    obtain rfl : ie = i' := by rw [hT] at hT'; exact Option.some.inj hT'
    have hjl : j < ie.ks.length := (List.getElem?_eq_some_iff.1 hj).1
    have hxl := hx p _ hx0
    have hd0 : xs[p][j]? = some (xs[p].getD j default) := by
      have : j < xs[p].length := by omega
      simp [List.getD, List.getElem?_eq_getElem this]
    have how := hr p _ j _ _ hx0 hj hd0
    obtain ⟨hdr, hus⟩ := how.rows
    have hYX : ∀ p' j' k, p' < xs.length → j' < ie.ks.length → Y p' j' k → c.X id k := fun p' j' k h1 h2 h3 => (hX k).2 (.inr ⟨p', j', h1, h2, h3⟩)
    have hYlt : ∀ p' j' k, p' < xs.length → j' < ie.ks.length → Y p' j' k → k < w.heap.size := fun p' j' k h1 h2 h3 => hs.xlt id k (hYX p' j' k h1 h2 h3)
    let c1 : Cx := ⟨c.Z, fun _ => u p j, fun k => if k = 0 then Y p j else fun _ => False⟩
    have hX0 : c1.X 0 = Y p j := by simp [c1]
    have hX1 : ∀ k z, c1.X k z → k = 0 ∧ Y p j z := fun k z hz => by
      simp only [c1] at hz
      split at hz
      · rename_i h; exact ⟨h, hz⟩
      · exact hz.elim
    refine ⟨b, cap, arr, u p j, c1, rfl, hb, hc p j hp hjl, hus, ?_, rfl, ?_⟩
    · refine ⟨fun k => ?_, fun k hk => ?_, fun k k' z h1 h2 => ?_, fun k z h1 h2 => ?_, hs.zlt, fun k z h1 => ?_⟩
      · rw [geto_cons]
        split
        · rename_i h; subst h
          simp only [OS]
          rw [hX0]
          rw [← hdr]
          exact how
        · rename_i h
          intro z hz
          exact h (hX1 k z hz).1.symm
      · rw [geto_cons, if_neg (by omega)]; rfl
      · rw [(hX1 k z h1).1, (hX1 k' z h2).1]
      · exact hs.xz id z (hYX p j z hp hjl (hX1 k z h1).2) h2
      · exact hYlt p j z hp hjl (hX1 k z h1).2
    · intro w' c1' T' n' e'' ys hsat hext hst hys
      obtain ⟨k0, v0, x0, g1, g2⟩ := hst.at (by omega) hys
      rw [geto_cons, if_pos rfl] at g1
      obtain ⟨rfl, rfl, rfl, rfl⟩ := O.row.inj g1
      obtain ⟨_, hylen, hcur0⟩ := g2.resolve_left (by omega)
      have hcur1 : c1'.cur 0 = u p j := hcur0
      have hows := hsat.os 0
      rw [hys] at hows
      simp only [OS] at hows
      rw [hcur1] at hows
      have hnew : ∀ z, z < w.heap.size → c1'.X 0 z → Y p j z := fun z hz hx => by
        obtain ⟨id', h'⟩ := hext.xnew 0 z hz hx
        exact (hX1 id' z h').2
      have hkeep : ∀ z, z < w.heap.size → ¬ Y p j z → w'.heap[z]? = w.heap[z]? := fun z hz hy => hext.keep z hz fun id' h' => hy (hX1 id' z h').2
      have hblt : b < w.heap.size := hs.xlt id b ((hX b).2 (.inl rfl))
      let Y' : Nat → Nat → Nat → Prop := fun p' j' => if p' = p ∧ j' = j then c1'.X 0 else fun k => Y p' j' k ∧ p' < xs.length ∧ j' < ie.ks.length
      have hY0 : Y' p j = c1'.X 0 := by simp [Y']
      have hY1 : ∀ p' j', ¬ (p' = p ∧ j' = j) → ∀ k, Y' p' j' k ↔ (Y p' j' k ∧ p' < xs.length ∧ j' < ie.ks.length) := fun p' j' h k => by simp [Y', h]
      let X' : Nat → Prop := fun k => k = b ∨ ∃ p' j', p' < xs.length ∧ j' < ie.ks.length ∧ Y' p' j' k
      have hX'old : ∀ k, k < w.heap.size → X' k → c.X id k := fun k hk hx => by
        rcases hx with rfl | ⟨p', j', h1, h2, h3⟩
        · exact (hX k).2 (.inl rfl)
        · by_cases hpj : p' = p ∧ j' = j
          · obtain ⟨rfl, rfl⟩ := hpj
            rw [hY0] at h3
            exact hYX p' j' k h1 h2 (hnew k hk h3)
          · exact hYX p' j' k h1 h2 ((hY1 p' j' hpj k).1 h3).1
      have hX'lt : ∀ k, X' k → k < w'.heap.size := fun k hx => by
        rcases hx with rfl | ⟨p', j', h1, h2, h3⟩
        · exact Nat.lt_of_lt_of_le hblt hext.size
        · by_cases hpj : p' = p ∧ j' = j
          · obtain ⟨rfl, rfl⟩ := hpj
            rw [hY0] at h3
            exact hsat.xlt 0 k h3
          · exact Nat.lt_of_lt_of_le (hYlt p' j' k h1 h2 ((hY1 p' j' hpj k).1 h3).1) hext.size
      have hX'new : ∀ k, w.heap.size ≤ k → X' k → c1'.X 0 k := fun k hk hx => by
        rcases hx with rfl | ⟨p', j', h1, h2, h3⟩
        · omega
        · by_cases hpj : p' = p ∧ j' = j
          · obtain ⟨rfl, rfl⟩ := hpj
            rwa [hY0] at h3
          · have := hYlt p' j' k h1 h2 ((hY1 p' j' hpj k).1 h3).1
            omega
      have hbn : ¬ Y p j b := hn p j
      let c' : Cx := ⟨c.Z, c.cur, up c.X id X'⟩
      have hst' : Stays c S nx c' ((id, .row e .tree ver (xs.set p (xs[p].set j (.sl ys)))) :: S) := by
        refine .mk (fun k e2 q2 v2 x2 hi hr2 => ?_) (fun k t ls hi hr2 => ?_)
        · rw [geto_cons] at hr2
          split at hr2
          · rename_i h; subst h
            cases hr2
            exact ⟨_, _, _, ho, .inr ⟨rfl, by simp, rfl⟩⟩
          · exact ⟨_, _, _, hr2, .inr ⟨rfl, rfl, rfl⟩⟩
        · rw [geto_cons] at hr2
          split at hr2
          · cases hr2
          · exact ⟨_, hr2, rfl⟩
      have hzk : ∀ z, c.Z z → w'.heap[z]? = w.heap[z]? := fun z hz => hkeep z (hs.zlt z hz) fun hy => hs.xz id z (hYX p j z hp hjl hy) hz
      refine ⟨c', hs.of hst' (Nat.le_refl _) hext.size (fun _ h => h) hzk (fun k => ?_) (fun k hk => ?_) (fun k k' z h1 h2 => ?_) (fun k z h1 h2 => ?_) (fun z hz => Nat.lt_of_lt_of_le (hs.zlt z hz) hext.size) (fun k z h1 => ?_), ⟨hext.os, hext.tape, hext.output, hext.size, fun z hz hx => hkeep z hz fun hy => hx id (hYX p j z hp hjl hy), fun _ h => h, fun _ _ h => .inl h, fun k z hz h1 => ?_⟩, hst', Nat.le_refl _⟩
      · by_cases hk : k = id
        · subst hk
          refine .inl ?_
          rw [geto_cons, if_pos rfl]
          simp only [OS]
          have hXc : c'.X k = X' := up_same _ _ _
          rw [hXc]
          show Ow T w' X' (.sl e) _ (c.cur k)
          rw [hcur]
          have hlen : (xs.set p (xs[p].set j (.sl ys))).length = xs.length := by simp
          have hel : ∀ (p' : Nat) (x : List D), (xs.set p (xs[p].set j (.sl ys)))[p']? = some x → (p' = p ∧ x = xs[p].set j (.sl ys)) ∨ (p' ≠ p ∧ xs[p']? = some x) := fun p' x h => by
            rw [List.getElem?_set] at h
            split at h
            · rename_i h1; subst h1
              first
                | exact .inl ⟨rfl, (Option.some.inj h).symm⟩
                | (split at h
                   · exact .inl ⟨rfl, (Option.some.inj h).symm⟩
                   · cases h)
            · rename_i h1; exact .inr ⟨Ne.symm h1, h⟩
          have key := Ow.sl (T := T) (w := w') (X := X') (xs := xs.set p (xs[p].set j (.sl ys))) (b := b) (arr := arr) (cap := cap) u Y' hT (by rw [hlen]; exact hm) ((hkeep b hblt hbn).trans hb) hcap (by rw [hlen]; exact hle) (fun p' x h => by
            rcases hel p' x h with ⟨rfl, rfl⟩ | ⟨_, h⟩
            · simp [hxl]
            · exact hx p' x h) (fun p' j' h1 h2 => hc p' j' (by rwa [hlen] at h1) h2) (fun p' x j' κ d h h2 h3 => by
            by_cases hpj : p' = p ∧ j' = j
            · obtain ⟨rfl, rfl⟩ := hpj
              rw [hY0]
              rw [hj] at h2
              cases h2
              rcases hel p' x h with ⟨_, rfl⟩ | ⟨h, _⟩
              · rw [List.getElem?_set_self (by omega)] at h3
                cases h3
                exact hows
              · exact absurd rfl h
            · have hold : ∃ x0, xs[p']? = some x0 ∧ x0[j']? = some d := by
                rcases hel p' x h with ⟨rfl, rfl⟩ | ⟨_, h⟩
                · have hjj : j ≠ j' := fun h => hpj ⟨rfl, h.symm⟩
                  rw [List.getElem?_set_ne hjj] at h3
                  exact ⟨_, hx0, h3⟩
                · exact ⟨x, h, h3⟩
              obtain ⟨x0, k1, k2⟩ := hold
              have k3 := (List.getElem?_eq_some_iff.1 k1).1
              have k4 := (List.getElem?_eq_some_iff.1 h2).1
              refine ((hr p' x0 j' κ d k1 h2 k2).mono fun k hk => hkeep k (hYlt p' j' k k3 k4 hk) fun hy => hpj ?_).same fun k => ?_
              · have := hd p' j' p j k hk hy
                exact this
              · rw [hY1 p' j' hpj k]
                exact ⟨fun h => ⟨h, k3, k4⟩, fun h => h.1⟩) (fun p1 j1 p2 j2 k h1 h2 => by
            by_cases hp1 : p1 = p ∧ j1 = j
            · by_cases hp2 : p2 = p ∧ j2 = j
              · exact ⟨hp1.1.trans hp2.1.symm, hp1.2.trans hp2.2.symm⟩
              · obtain ⟨rfl, rfl⟩ := hp1
                rw [hY0] at h1
                obtain ⟨h3, h4, h5⟩ := (hY1 p2 j2 hp2 k).1 h2
                exact hd p1 j1 p2 j2 k (hnew k (hYlt p2 j2 k h4 h5 h3) h1) h3
            · obtain ⟨h3, h4, h5⟩ := (hY1 p1 j1 hp1 k).1 h1
              by_cases hp2 : p2 = p ∧ j2 = j
              · obtain ⟨rfl, rfl⟩ := hp2
                rw [hY0] at h2
                exact hd p1 j1 p2 j2 k h3 (hnew k (hYlt p1 j1 k h4 h5 h3) h2)
              · exact hd p1 j1 p2 j2 k h3 ((hY1 p2 j2 hp2 k).1 h2).1) (fun p1 j1 h1 => by
            by_cases hp1 : p1 = p ∧ j1 = j
            · obtain ⟨rfl, rfl⟩ := hp1
              rw [hY0] at h1
              exact hbn (hnew b hblt h1)
            · exact hn p1 j1 ((hY1 p1 j1 hp1 b).1 h1).1) (fun k => by rw [hlen])
          rw [hlen] at key
          exact key
        · refine .inr ⟨by rw [geto_cons, if_neg (Ne.symm hk)], up_other _ _ _ hk, rfl, fun z hz => hkeep z (hs.xlt k z hz) fun hy => hk (hs.disj k id z hz (hYX p j z hp hjl hy))⟩
      · rw [geto_cons, if_neg (by
          intro e1
          have := hs.lt id (by omega)
          rw [ho] at this; cases this)]
        exact hs.lt k hk
      · simp only [c', up] at h1 h2
        split at h1 <;> split at h2
        · omega
        · rename_i e1 e2
          have h3 := hs.xlt k' z h2
          rw [e1]
          exact hs.disj id k' z (hX'old z h3 h1) h2
        · rename_i e1 e2
          have h3 := hs.xlt k z h1
          rw [e2]
          exact hs.disj k id z h1 (hX'old z h3 h2)
        · exact hs.disj k k' z h1 h2
      · simp only [c', up] at h1
        split at h1
        · exact hs.xz id z (hX'old z (hs.zlt z h2) h1) h2
        · exact hs.xz k z h1 h2
      · simp only [c', up] at h1
        split at h1
        · exact hX'lt z h1
        · exact Nat.lt_of_lt_of_le (hs.xlt k z h1) hext.size
      · simp only [c', up] at h1
        split at h1
        · exact ⟨id, hX'old z hz h1⟩
        · exact ⟨k, h1⟩
theorem scOf_eq {v : V} {l : L} (h : scOf v = some l) : ∃ x, l = .sc x ∧ v = .one (.sc x) := by
  unfold scOf at h
  split at h
  · cases h; exact ⟨_, rfl, rfl⟩
  · cases h
theorem oneSl_eq {ks : List LK} {e : TypeId} (h : oneSl ks = some e) : ks = [.sl e] := by
  unfold oneSl at h
  split at h
  · cases h; rfl
  · cases h
theorem isSlAt_eq {o : Option LK} {e : TypeId} (h : isSlAt e o = true) : o = some (.sl e) := by
  unfold isSlAt at h
  split at h
  · rw [beq_t h]
  · cases h
theorem looksT_f {t u : Nat} (h : nestOf.looksT t [.tmp u] = false) : t ≠ u := by
  simp only [nestOf.looksT] at h
  split at h
  · cases h
  · rename_i hb
    intro e
    rw [e, Nat.beq_refl] at hb
    cases hb
theorem putS_same (a : Act) (d : Tmp) (u : Value) (h : d < a.tmps.size) : (a.put (some d) u).tmps.getD d undef = u := by
  simp [Act.put, Array.getD, h]
theorem putS_ne (a : Act) (d : Tmp) (u : Value) {t : Tmp} (h : t ≠ d) : (a.put (some d) u).tmps.getD t undef = a.tmps.getD t undef := by
  simp only [Act.put]
  rw [Array.getD_eq_getD_getElem?, Array.getD_eq_getD_getElem?, Array.getElem?_setIfInBounds_ne (Ne.symm h)]
theorem nest_sound {C : Cfg} (hT : TOk C.P C.T) {n : Nat} {D : List Deferred} {F : Frm} {a : Act} (h : At C n D w c S nx F a) {o1 o2 o3 : Oper} (hk1 : oOk n o1 = true) (hk2 : oOk n o2 = true) (hk3 : oOk n o3 = true) {N : Nst} (hN : nestOf C o1 o2 o3 F S = some N) {K : Frm → Sto → Nat → Prop} (hw : nestwp C N F S nx K)
    {ops : Array Oper} {i : Nat} (ho1 : ops[i]? = some o1) (ho2 : ops[i + 1]? = some o2) (ho3 : ops[i + 2]? = some o3) {Q : Exit → Act → World → Prop} {rest : List Nat}
    (hk : ∀ a' w' c' F' S' nx', Step C.T w c S nx w' c' S' nx' → At C n D w' c' S' nx' F' a' → K F' S' nx' → wpOps C.P ops Q rest a' w') : wpOps C.P ops Q (i :: (i + 1) :: (i + 2) :: rest) a w := by
  unfold nestOf at hN
  split at hN
  · cases hN
  split at hN
  case h_2 => cases hN
  rename_i d1 d2 d3 hg1 hg2 hg3 hd1 hd2 hd3
  split at hN
  case h_2 => cases hN
  rename_i t x y cl hop1 hop2 hop3
  split at hN
  case h_2 => cases hN
  rename_i f a1 a2 hcl hargs
  split at hN
  case h_2 => cases hN
  rename_i id ver p j ti kv hx hti hy hb
  split at hN
  case h_2 => cases hN
  rename_i e ver' xs e' ho hks
  split at hN
  case h_2 => cases hN
  rename_i ie hie
  split at hN
  case h_2 => cases hN
  rename_i hvb
  cases hN
  simp only [Bool.and_eq_true, Bool.not_eq_true'] at hb hvb
  obtain ⟨⟨⟨hb1, hb2⟩, hb3⟩, hb4⟩ := hb
  have ea1 := beq_t hb1
  have ea2 := beq_t hb2
  subst ea1
  subst ea2
  have hne : a1 ≠ a2 := fun e => by rw [e, Nat.beq_refl] at hb3; cases hb3
  obtain ⟨hvb1, hvb2⟩ := hvb
  have ever := beq_t hvb1
  subst ever
  have hsl := isSlAt_eq hvb2
  have hone := oneSl_eq hks
  obtain ⟨kx, rfl, hye⟩ := scOf_eq hy
  obtain ⟨hx1, hdn1⟩ := oOk_ops hk1
  obtain ⟨hx2, hdn2⟩ := oOk_ops hk2
  obtain ⟨hx3, hdn3⟩ := oOk_ops hk3
  have hn1 := hdn1 _ hd1
  have hn2 := hdn2 _ hd2
  have hn3 := hdn3 _ hd3
  have hvx := ev_sound h.fr (x := x) (hx1 x (by rw [hop1]; simp [Op.operands]))
  rw [hx] at hvx
  obtain ⟨_, _, hrow, _⟩ := hvx.inv1
  obtain ⟨hp, hptr⟩ := (hrow _ _ _ _ ho).2 rfl
  obtain ⟨b, cap, hcur, hux⟩ := hptr ie hie
  obtain ⟨b', cap', arr, u, c1, g1, g2, g3, ⟨A, m1, m2, hu⟩, gsat, gcur, gback⟩ := nest_step h.sat ho hie hp hsl
  rw [hcur] at g1
  cases g1
  obtain ⟨infT, zT, htT⟩ := hT.at hti
  obtain ⟨v1, hrun1, hv1⟩ := run_loadVar (P := C.P) htT ⟨b, p * ie.ks.length + j, none⟩ (us := [u]) (by rw [hone]; rfl)
  have hload : (execOp a.eval o1).run C.P w = .ok (.value v1) w := by
    unfold execOp
    rw [hop1]
    simp only [hux]
    have := hrun1 w (fun q u' hq => by
      cases q with
      | zero => simp at hq; subst hq; rw [add_plain, cell_at g2]; simpa using g3
      | succ q => simp at hq)
    simp [Instr.loadAt, Instr.sureAddr, this]
  have hky : LR C.T w c S nx (.sc kx) (a.eval y) := by
    have := ev_sound h.fr (x := y) (hx2 y (by rw [hop2]; simp [Op.operands]))
    rw [hye] at this
    exact this.inv1
  have hyv : (a.put (some a1) v1).eval y = a.eval y := by
    refine Act.eval_put fun d hd hyd => ?_
    cases hd
    subst hyd
    exact looksT_f hb4 rfl
  have hat1 : At C n D w c S nx ((a1, .junk) :: F) (a.put (some a1) v1) := h.put hn1 .junk
  have hat2 : At C n D w c S nx ((a2, .one (.sc kx)) :: (a1, .junk) :: F) ((a.put (some a1) v1).put (some a2) (a.eval y)) := hat1.put hn2 (.one hky)
  generalize hA2 : (a.put (some a1) v1).put (some a2) (a.eval y) = aa at hat2
  have e1 : aa.eval (.tmp a1) = v1 := by
    subst hA2
    show Array.getD _ a1 undef = v1
    rw [putS_ne _ _ _ hne, putS_same _ _ _ (by rw [h.size]; exact hn1)]
  have e2 : aa.eval (.tmp a2) = a.eval y := by
    subst hA2
    show Array.getD _ a2 undef = a.eval y
    rw [putS_same _ _ _ (by rw [put_size', h.size]; exact hn2)]
  have hcall : (execOp aa.eval o3).run C.P w = (callFunc f [v1, a.eval y].toArray).run C.P w := by
    unfold execOp
    rw [hop3]
    have hargs' : cl.args = #[.tmp a1, .tmp a2] := Array.toList_inj.1 (by simpa using hargs)
    have ef : aa.eval (.func f) = .func (.func f) #[] #[] := rfl
    simp only [resolve, hcl, Deferred.ofValue, hargs', ef]
    rw [Sem.run_bind]
    simp only [Sem.run_pure, Result.andThen_ok, invoke]
    congr 2
    simp [e1, e2]
  unfold nestwp at hw
  unfold VC at hw
  have hruns := hw w c1 [v1, a.eval y] gsat rfl (fun q v u' hq hu' => by
    match q with
    | 0 =>
      simp at hq hu'
      subst hq; subst hu'
      refine mkV_sound (us := [u]) ⟨rfl, fun q l hl => ?_⟩ (hv1.imp (fun h => ⟨h.1, h.2⟩) fun h => h)
      cases q with
      | zero =>
        simp at hl; subst hl
        refine ⟨u, rfl, by omega, ⟨A, m1, m2, hu⟩, fun e2 k2 v2 x2 hr2 => ?_⟩
        rw [geto_cons, if_pos rfl] at hr2
        cases hr2
        exact ⟨Nat.le_refl _, fun _ => gcur.symm⟩
      | succ q => simp at hl
    | 1 =>
      simp at hq hu'
      subst hq; subst hu'
      exact .one hky
    | q + 2 => simp at hq)
  have fin : ∀ (u' : Value) (w' : World) (r : V) (S' : Sto) (nx' : Nat) (c1' : Cx), 1 ≤ nx' → Sat C.T w' c1' S' nx' → VR C.T w' c1' S' nx' r u' → Ext w c1 w' c1' → Stays c1 [(0, O.row e' .tree 0 ((xs.getD p []).getD j default).rows)] 1 c1' S' →
      (match r with
        | .one (.sc v) => match geto S' 0 with
          | .row _ .tree 0 ys => K ((d3, .one (.sc v)) :: (a2, .one (.sc kx)) :: (a1, .junk) :: F) ((id, .row e .tree ver (xs.set p ((xs.getD p []).set j (.sl ys)))) :: S) nx
          | _ => False
        | _ => False) → wpOps C.P ops Q rest (aa.put (some d3) u') w' := by
    intro u' w' r S' nx' c1' hle hsat hr hext hst hkk
    split at hkk
    · rename_i v
      split at hkk
      · rename_i e2 ys hys
        obtain ⟨c', hstep⟩ := gback w' c1' S' nx' e2 ys hsat hext hst hys
        refine hk _ w' c' _ _ nx hstep ((hat2.step hstep).put hn3 (.one ?_)) hkk
        exact hr.inv1
      · exact hkk.elim
    · exact hkk.elim
  simp only [wpOps, ho1, ho2, ho3]
  rw [if_pos (by simp [Region.wanted, hg1])]
  refine .inl ?_
  unfold Oper.wp
  rw [hload, Oper.upon_value, hd1]
  rw [if_pos (by simp [Region.wanted, hg2])]
  refine .inl ?_
  rw [show (execOp (a.put (some a1) v1).eval o2).run C.P w = .ok (.value (a.eval y)) w from by
    unfold execOp; rw [hop2]; simp [hyv], Oper.upon_value, hd2, hA2]
  rw [if_pos (by simp [Region.wanted, hg3])]
  refine .inl ?_
  rw [hcall]
  rcases hruns with ⟨h1, h2⟩ | ⟨u', w', h1, u'', r, S', nx', c1', h2, h3, h4, h5, h6, h7, h8⟩
  · rw [h1, Oper.upon_enter]
    refine h2.mono fun e0 w' => ?_
    rintro ⟨u', r, S', nx', c1', rfl, h3, h4, h5, h6, h7, h8⟩
    rw [hd3]
    exact fin u' w' r S' nx' c1' h3 h4 h5 h6 h7 h8
  · rw [h1, Oper.upon_value, hd3]
    cases h2
    exact fin u' w' r S' nx' c1' h3 h4 h5 h6 h7 h8
theorem opswp_sound {C : Cfg} (hT : TOk C.P C.T) {n : Nat} {D : List Deferred} {ops : Array Oper} (hok : ∀ o ∈ ops.toList, oOk n o = true) {Q : Exit → Act → World → Prop} :
    ∀ (m : Nat) (l : List Oper) (i : Nat) {w : World} {c : Cx} {S : Sto} {nx : Nat} {F : Frm} {a : Act} {K : Frm → Sto → Nat → Prop}, l.length ≤ m → ops.toList.drop i = l → At C n D w c S nx F a → opswp C ops.toList l F S nx K →
      (∀ a' w' c' F' S' nx', Step C.T w c S nx w' c' S' nx' → At C n D w' c' S' nx' F' a' → K F' S' nx' → Q .normal a' w') → wpOps C.P ops Q (List.range' i l.length) a w := by
  have at0 : ∀ {l : List Oper} {i : Nat} {o : Oper} {r : List Oper}, ops.toList.drop i = o :: r → ops[i]? = some o ∧ oOk n o = true ∧ ops.toList.drop (i + 1) = r := fun {l i o r} hl => by
    have ho : ops.toList[i]? = some o := by
      have : (ops.toList.drop i)[0]? = some o := by rw [hl]; rfl
      simpa using this
    refine ⟨by simpa using ho, hok o (List.mem_of_getElem? ho), ?_⟩
    have : (ops.toList.drop i).drop 1 = r := by rw [hl]; rfl
    rw [List.drop_drop] at this
    exact this
  have one : ∀ {l : List Oper} {i : Nat} {w : World} {c : Cx} {S : Sto} {nx : Nat} {F : Frm} {a : Act} {o : Oper} {K' : Frm → Sto → Nat → Prop} {rest : List Nat}, ops[i]? = some o → oOk n o = true → At C n D w c S nx F a → opwp C ops.toList o F S nx K' →
      (∀ a' w' c' F' S' nx', Step C.T w c S nx w' c' S' nx' → At C n D w' c' S' nx' F' a' → K' F' S' nx' → wpOps C.P ops Q rest a' w') → wpOps C.P ops Q (i :: rest) a w := by
    intro l i w c S nx F a o K' rest ho hoo h hw hk
    simp only [wpOps, ho]
    have g := opwp_sound hT h hoo (R := fun u w' => wpOps C.P ops Q rest (a.put o.dst u) w') hw fun u w' c' F' S' nx' hs hat hkk _ => hk _ w' c' F' S' nx' hs hat hkk
    rcases g with ⟨g1, g2⟩ | ⟨g1, g2⟩
    · rw [if_pos g1]
      refine .inl (wp_swap rfl g2 (fun u w' hR => hR) fun u u' he => .inr he)
    · rw [if_neg (by simp [g1])]
      exact g2
  intro m
  induction m with
  | zero =>
    intro l i w c S nx F a K hlen hl h hw hq
    cases l with
    | nil => exact hq _ _ _ _ _ _ (Step.refl h.sat) h (by simpa only [opswp] using hw)
    | cons o r => simp at hlen
  | succ m ih =>
    intro l i w c S nx F a K hlen hl h hw hq
    have tail : ∀ (o : Oper) (r : List Oper), l = o :: r → opwp C ops.toList o F S nx (fun F S nx => opswp C ops.toList r F S nx K) → wpOps C.P ops Q (List.range' i l.length) a w := fun o r e hw2 => by
      subst e
      obtain ⟨g1, g2, g3⟩ := at0 (l := []) hl
      rw [List.length_cons, List.range'_succ]
      exact one (l := []) g1 g2 h hw2 fun a' w' c' F' S' nx' hs hat hk => ih r (i + 1) (by simp at hlen; omega) g3 hat hk fun a2 w2 c2 F2 S2 nx2 hs2 hat2 hk2 => hq a2 w2 c2 F2 S2 nx2 (hs.trans hs2) hat2 hk2
    match l, hlen, hl, hw, tail with
    | [], _, _, hw, _ => exact hq _ _ _ _ _ _ (Step.refl h.sat) h (by simpa only [opswp] using hw)
    | [o1], _, _, hw, tail => exact tail o1 [] rfl (by simpa only [opswp] using hw)
    | [o1, o2], _, _, hw, tail => exact tail o1 [o2] rfl (by simpa only [opswp] using hw)
    | o1 :: o2 :: o3 :: r, hlen, hl, hw, tail =>
      simp only [opswp] at hw
      split at hw
      · rename_i N hN
        obtain ⟨k1, k2, k3⟩ := at0 (l := []) hl
        obtain ⟨k4, k5, k6⟩ := at0 (l := []) k3
        obtain ⟨k7, k8, k9⟩ := at0 (l := []) k6
        rw [List.length_cons, List.length_cons, List.length_cons, List.range'_succ, List.range'_succ, List.range'_succ]
        refine nest_sound hT h k2 k5 k8 hN hw k1 k4 k7 fun a' w' c' F' S' nx' hs hat hk => ?_
        exact ih r (i + 3) (by simp at hlen; omega) k9 hat hk fun a2 w2 c2 F2 S2 nx2 hs2 hat2 hk2 => hq a2 w2 c2 F2 S2 nx2 (hs.trans hs2) hat2 hk2
      · exact tail o1 (o2 :: o3 :: r) rfl hw
end Go.Proofs.Ytodhnbjncmihkaa.V
end

section
/- The symbolic machine V: what the checks of a region's edges say. -/
set_option linter.unusedVariables false
set_option linter.unusedSimpArgs false
namespace Go.Proofs.Ytodhnbjncmihkaa.V
open Go

theorem binds_any (e : Edge) : Region.binds .any e = bindsE e := by
  unfold Region.binds bindsE
  cases e.ground <;> rfl
theorem readyL_iff {done : List Nat} : ∀ {l : List Edge}, readyL done l = true ↔ ∀ e ∈ l, bindsE e = true → e.on ∈ done
  | [] => by simp [readyL]
  | e :: r => by
    simp only [readyL, List.mem_cons, forall_eq_or_imp]
    cases hb : bindsE e with
    | false => simp [readyL_iff (l := r)]
    | true =>
      cases hm : mem e.on done with
      | true => simp [readyL_iff (l := r), (mem_iff _ _).1 hm]
      | false => simp [mem_not hm]
theorem aftL_iff {i : Nat} : ∀ {l : List Edge}, aftL l i = true ↔ ∃ e ∈ l, bindsE e = true ∧ e.on = i
  | [] => by simp [aftL]
  | e :: r => by
    simp only [aftL, List.mem_cons, exists_eq_or_imp]
    cases hb : bindsE e with
    | false => simp [aftL_iff (l := r)]
    | true =>
      cases hm : Nat.beq e.on i with
      | true => simp [beq_t hm]
      | false =>
        have : e.on ≠ i := fun h => by rw [h, Nat.beq_refl] at hm; cases hm
        simp [aftL_iff (l := r), this]
theorem beq_f {a b : Nat} (h : Nat.beq a b = false) : a ≠ b := fun e => by rw [e, Nat.beq_refl] at h; cases h
theorem looksT_iff {t : Nat} : ∀ {l : List Operand}, looksT t l = true ↔ .tmp t ∈ l
  | [] => by simp [looksT]
  | x :: r => by
    cases x with
    | tmp u =>
      simp only [looksT, List.mem_cons, Operand.tmp.injEq]
      cases hm : Nat.beq t u with
      | true => simp [beq_t hm]
      | false => simp [looksT_iff (l := r), beq_f hm]
    | _ => simp [looksT, looksT_iff (l := r)]

/-- Two frames that are alike where an operation looks. -/
theorem exec_alike {ops : Array Oper} {o : Oper} {a a' : Act} (hs : noSel o = true) (h : ∀ t, looks ops.toList t o = true → a'.tmps[t]? = a.tmps[t]?) :
    execOp a'.eval o = execOp a.eval o ∧ Region.wanted o (yielded ops a'.tmps) = Region.wanted o (yielded ops a.tmps) := by
  refine ⟨execOp_congr o (fun cs b e => by simp [noSel, e] at hs) fun x hx => ?_, ?_⟩
  · cases x with
    | tmp t =>
      have h1 : looksT t o.op.operands.toList = true := looksT_iff.2 (by simpa using hx)
      have h2 := h t (by simp [looks, h1])
      simp only [Act.eval, Array.getD_eq_getD_getElem?, h2]
    | _ => rfl
  · unfold Region.wanted
    cases hg : o.guard with
    | none => rfl
    | some gw =>
      obtain ⟨g, want⟩ := gw
      have hy : yielded ops a'.tmps g = yielded ops a.tmps g := by
        unfold yielded
        cases ht : (ops[g]?).bind (·.dst) with
        | none => rfl
        | some t =>
          have hd : dstAt ops.toList g = some t := by
            have : ∀ (l : List Oper) (g : Nat), (l[g]?).bind (·.dst) = some t → dstAt l g = some t := by
              intro l
              induction l with
              | nil => intro g h; simp at h
              | cons x r ih => intro g h; cases g with
                | zero => simpa [dstAt] using h
                | succ g => simp only [dstAt]; exact ih g (by simpa using h)
            exact this _ _ (by simpa using ht)
          simp only [Option.bind_some]
          rw [h t (by
            unfold looks
            split
            · rfl
            · simp only [hg, hd]; exact Nat.beq_refl t)]
      simp only [hy]

/-- What is asked of operation i. -/
structure OpOk (ops : Array Oper) (i : Nat) (o : Oper) : Prop where
  back : ∀ e ∈ o.after.toList, bindsE e = true → e.on < i
  sel : noSel o = true
  rd : isRd o = true → ∀ t, o.dst = some t → looks ops.toList t o = false ∧ ∀ j o', ops[j]? = some o' → j ≠ i → o'.dst ≠ some t ∧ (looks ops.toList t o' = true → aft o' i = true)
  act : isRd o = false → ∀ t, o.dst = some t → ∀ j o', ops[j]? = some o' → isRd o' = true → looks ops.toList t o' = true → aft o' i = true ∨ aft o j = true
theorem backL_iff {i : Nat} : ∀ {l : List Edge}, backL i l = true → ∀ e ∈ l, bindsE e = true → e.on < i
  | [], _, e, he, _ => by simp at he
  | x :: r, h, e, he, hb => by
    simp only [backL] at h
    cases hx : bindsE x with
    | false =>
      rw [hx] at h
      rcases List.mem_cons.1 he with rfl | he
      · rw [hx] at hb; cases hb
      · exact backL_iff h e he hb
    | true =>
      rw [hx] at h
      simp only at h
      split at h
      · rename_i hlt
        rcases List.mem_cons.1 he with rfl | he
        · have : Nat.ble (e.on + 1) i = true := hlt
          exact Nat.le_of_ble_eq_true this
        · exact backL_iff h e he hb
      · cases h
theorem readOk_iff {all : List Oper} {i t : Nat} : ∀ {l : List Oper} {j0 : Nat}, readOk all i t l j0 = true → ∀ j o', l[j]? = some o' → (j0 + j = i → looks all t o' = false) ∧ (j0 + j ≠ i → o'.dst ≠ some t ∧ (looks all t o' = true → aft o' i = true))
  | [], j0, _, j, o', h => by simp at h
  | o :: r, j0, h, j, o', hj => by
    simp only [readOk] at h
    cases hb : Nat.beq i j0 with
    | true =>
      rw [hb] at h
      simp only at h
      split at h
      · cases h
      · rename_i hl
        cases j with
        | zero =>
          simp at hj; subst hj
          exact ⟨fun _ => hl, fun hne => absurd (beq_t hb).symm (by simpa using hne)⟩
        | succ j =>
          have := readOk_iff h j o' (by simpa using hj)
          rw [show j0 + 1 + j = j0 + (j + 1) by omega] at this
          exact this
    | false =>
      rw [hb] at h
      simp only at h
      split at h
      · rename_i hc
        simp only [Bool.and_eq_true, Bool.or_eq_true, Bool.not_eq_true'] at hc
        cases j with
        | zero =>
          simp at hj; subst hj
          refine ⟨fun e => absurd e.symm (by simpa using beq_f hb), fun _ => ⟨fun hd => ?_, fun hl => hc.2.resolve_left (by rw [hl]; simp)⟩⟩
          have := hc.1
          simp [dstIs, hd] at this
        | succ j =>
          have := readOk_iff h j o' (by simpa using hj)
          rw [show j0 + 1 + j = j0 + (j + 1) by omega] at this
          exact this
      · cases h
theorem actOk_iff {all : List Oper} {k t : Nat} {ok : Oper} : ∀ {l : List Oper} {j0 : Nat}, actOk all k t ok l j0 = true → ∀ j o', l[j]? = some o' → isRd o' = true → looks all t o' = true → aft o' k = true ∨ aft ok (j0 + j) = true
  | [], j0, _, j, o', h, _, _ => by simp at h
  | o :: r, j0, h, j, o', hj, hr, hl => by
    simp only [actOk] at h
    split at h
    · rename_i hro
      cases j with
      | zero => simp at hj; subst hj; rw [hr] at hro; cases hro
      | succ j =>
        have := actOk_iff h j o' (by simpa using hj) hr hl
        rw [show j0 + 1 + j = j0 + (j + 1) by omega] at this
        exact this
    · split at h
      · rename_i hc
        simp only [Bool.or_eq_true, Bool.not_eq_true'] at hc
        cases j with
        | zero =>
          simp at hj; subst hj
          rcases hc with (hc | hc) | hc
          · rw [hl] at hc; cases hc
          · exact .inl hc
          · exact .inr hc
        | succ j =>
          have := actOk_iff h j o' (by simpa using hj) hr hl
          rw [show j0 + 1 + j = j0 + (j + 1) by omega] at this
          exact this
      · cases h
theorem drawOk_iff {ops : Array Oper} : ∀ {l : List Oper} {i0 : Nat}, (∀ i o, l[i]? = some o → ops[i0 + i]? = some o) → drawOk ops.toList l i0 = true → ∀ i o, l[i]? = some o → OpOk ops (i0 + i) o
  | [], i0, _, _, i, o, h => by simp at h
  | x :: r, i0, hl, h, i, o, hi => by
    simp only [drawOk] at h
    split at h
    · rename_i hc
      cases i with
      | zero =>
        simp at hi; subst hi
        simp only [Bool.and_eq_true] at hc
        obtain ⟨⟨h1, h2⟩, h3⟩ := hc
        refine ⟨backL_iff h1, h2, fun hr t ht => ?_, fun hr t ht j o' hj hr' hlk => ?_⟩
        · rw [ht] at h3
          simp only [hr] at h3
          refine ⟨?_, fun j o' hj hne => ?_⟩
          · have := readOk_iff h3 i0 x (by simpa using hl 0 x rfl)
            exact this.1 (by simp)
          · have := readOk_iff h3 j o' (by simpa using hj)
            exact this.2 (by simpa using hne)
        · rw [ht] at h3
          simp only [hr] at h3
          have := actOk_iff h3 j o' (by simpa using hj) hr' hlk
          simpa using this
      | succ i =>
        have := drawOk_iff (fun i o hi => by have := hl (i + 1) o (by simpa using hi); rwa [show i0 + (i + 1) = i0 + 1 + i by omega] at this) h i o (by simpa using hi)
        rw [show i0 + 1 + i = i0 + (i + 1) by omega] at this
        exact this
    · cases h
end Go.Proofs.Ytodhnbjncmihkaa.V
end

section
/- The symbolic machine V: a region whose order is open. -/
set_option linter.unusedVariables false
set_option linter.unusedSimpArgs false
namespace Go.Proofs.Ytodhnbjncmihkaa.V
open Go
variable {w : World} {c : Cx} {S : Sto} {nx : Nat}

theorem rdop_sound {C : Cfg} (hT : TOk C.P C.T) (hs : Sat C.T w c S nx) {F : Frm} {a : Act} (hF : ∀ t, VR C.T w c S nx (get F t) (a.tmps.getD t undef)) {o : Oper} (hx : ∀ x ∈ o.op.operands.toList, xOk x = true) (hr : isRd o = true) {K : V → Sto → Nat → Prop} (h : execwp C o.op F S nx K) :
    ∃ u v c' S', ∃ B : Nat → Prop, (∀ w2 : World, (∀ b, B b → w2.heap[b]? = w.heap[b]?) → (execOp a.eval o).run C.P w2 = .ok (.value u) w2) ∧ Step C.T w c S nx w c' S' nx ∧ VR C.T w c' S' nx v u ∧ K v S' nx ∧ ∀ b, B b → b < w.heap.size ∧ (ownLoad F o = false → c.Z b) := by
  by_cases hp : isPure o.op = true
  · obtain ⟨u, v, h1, h2, h3⟩ := pure_sound hT hs hF hx hp h
    exact ⟨u, v, c, S, fun _ => False, fun w2 _ => h1 w2, Step.refl hs, h2, h3, fun b hb => hb.elim⟩
  · have hl : ∃ t x, o.op = .load t x := by
      unfold isRd at hr
      split at hr
      · cases hr
      · cases hop : o.op <;> rw [hop] at hr hp <;> simp [isPure] at hp hr
        · exact ⟨_, _, rfl⟩
        · rename_i cl
          cases hcl : cl.callee <;> simp [hcl] at hp hr
          rename_i b
          cases b <;> simp at hp hr
    obtain ⟨t, x, hop⟩ := hl
    rw [hop] at hx h
    have hv := ev_sound hF (hx x (by simp [Op.operands]))
    obtain ⟨u, v, c', S', b, h1, h2, h3, h4, h5, h6⟩ := load_soundL hT (show loadwp C t (ev F x) S (fun v S => K v S nx) from h) hs hv
    refine ⟨u, v, c', S', fun k => k = b, fun w2 hw2 => ?_, h2, h3, h4, fun k hk => ?_⟩
    · unfold execOp
      rw [hop]
      simp only
      rw [Sem.run_bind, h1 w2 (hw2 b rfl)]
      rfl
    · subst hk
      refine ⟨h5, fun hz => h6 ?_⟩
      simp only [ownLoad, hop] at hz
      simpa using hz
theorem rdopx_sound {C : Cfg} (hT : TOk C.P C.T) (hs : Sat C.T w c S nx) {F : Frm} {a : Act} (hF : ∀ t, VR C.T w c S nx (get F t) (a.tmps.getD t undef)) {o : Oper} (hx : ∀ x ∈ o.op.operands.toList, xOk x = true) (hr : isRd o = true) {K : V → Sto → Nat → Prop} (h : execx C o.op F S nx K) :
    ∃ u v c' S', ∃ B : Nat → Prop, (∀ w2 : World, (∀ b, B b → w2.heap[b]? = w.heap[b]?) → (execOp a.eval o).run C.P w2 = .ok (.value u) w2) ∧ Step C.T w c S nx w c' S' nx ∧ VR C.T w c' S' nx v u ∧ K v S' nx ∧ ∀ b, B b → b < w.heap.size ∧ (ownLoad F o = false → c.Z b) := by
  unfold execx at h
  split at h
  · rename_i xs hxs
    obtain ⟨B, h1, h2, h3⟩ := conv_sound hT hs hF hx hxs
    exact ⟨_, _, c, S, B, h1, Step.refl hs, .one (LR.strv (by simpa [bytesOf, ByteArray.size] using h2)), h h2, h3⟩
  · exact rdop_sound hT hs hF hx hr h
theorem rd_sound {C : Cfg} (hT : TOk C.P C.T) {n : Nat} {D : List Deferred} {F : Frm} {a : Act} (h : At C n D w c S nx F a) {ops : Array Oper} {o : Oper} (hok : oOk n o = true) (hr : isRd o = true) {K : Frm → Sto → Nat → Prop} (hw : opwp C ops.toList o F S nx K) :
    ∃ u c' F' S', ∃ B : Nat → Prop, ((Region.wanted o (yielded ops a.tmps) = true ∧ ∀ w2 : World, (∀ b, B b → w2.heap[b]? = w.heap[b]?) → (execOp a.eval o).run C.P w2 = .ok (.value u) w2) ∨ (Region.wanted o (yielded ops a.tmps) = false ∧ u = undef)) ∧
      Step C.T w c S nx w c' S' nx ∧ At C n D w c' S' nx F' (a.put o.dst u) ∧ K F' S' nx ∧ ∀ b, B b → b < w.heap.size ∧ (ownLoad F o = false → c.Z b) := by
  obtain ⟨hx, hd⟩ := oOk_ops hok
  obtain ⟨d, hdst⟩ : ∃ d, o.dst = some d := by
    cases h0 : o.dst with
    | none => simp [isRd, h0] at hr
    | some d => exact ⟨d, rfl⟩
  simp only [opwp, hdst] at hw
  split at hw
  · rename_i hg
    obtain ⟨u, v, c', S', B, h1, h2, h3, h4, h5⟩ := rdopx_sound hT h.sat h.fr hx hr hw
    replace h4 := opK_eq h4
    refine ⟨u, c', _, S', B, .inl ⟨by simp [Region.wanted, hg], h1⟩, h2, ?_, h4, h5⟩
    rw [hdst]
    exact (h.step h2).put (hd d hdst) h3
  · rename_i g want hg
    split at hw
    · exact hw.elim
    · rename_i t ht
      have hfr := h.fr t
      split at hw
      · rename_i vs hvs
        rw [hvs] at hfr
        generalize hu : a.tmps.getD t undef = u0 at hfr
        cases hfr with
        | tup hl hv =>
          have hy := yielded_tup ht hu
          refine ⟨undef, c, _, S, fun _ => False, .inr ⟨by simp [Region.wanted, hg, hy], rfl⟩, Step.refl h.sat, ?_, hw, fun b hb => hb.elim⟩
          rw [hdst]
          exact h.put (hd d hdst) VR.undef
      obtain ⟨b, hb, hw⟩ := fork_sound hfr hw
      have hy := yielded_of ht hb
      rw [bEq_iff] at hw
      have hwant : Region.wanted o (yielded ops a.tmps) = (b == want) := by
        simp only [Region.wanted, hg, hy]
        cases b <;> cases want <;> rfl
      split at hw
      · rename_i hbw
        obtain ⟨u, v, c', S', B, h1, h2, h3, h4, h5⟩ := rdopx_sound hT h.sat h.fr hx hr hw
        replace h4 := opK_eq h4
        refine ⟨u, c', _, S', B, .inl ⟨by rw [hwant, hbw], h1⟩, h2, ?_, h4, h5⟩
        rw [hdst]
        exact ((h.step h2).refine hb).put (hd d hdst) h3
      · rename_i hbw
        refine ⟨undef, c, _, S, fun _ => False, .inr ⟨by rw [hwant, hbw], rfl⟩, Step.refl h.sat, ?_, hw, fun b hb => hb.elim⟩
        rw [hdst]
        exact (h.refine hb).put (hd d hdst) VR.undef

def valAt (a : Act) (o : Oper) : Value :=
  match o.dst with
  | some d => a.tmps.getD d undef
  | none => undef
/-- A read that is done ahead: it yields that, as long as its blocks are as they are. -/
def Pend (P : Program) (ops : Array Oper) (o : Oper) (av : Act) (w : World) (c : Cx) (own : Prop) : Prop :=
  ∃ B : Nat → Prop, (∀ b, B b → b < w.heap.size ∧ (own ∨ c.Z b)) ∧
    ((Region.wanted o (yielded ops av.tmps) = true ∧ ∀ w2 : World, (∀ b, B b → w2.heap[b]? = w.heap[b]?) → (execOp av.eval o).run P w2 = .ok (.value (valAt av o)) w2) ∨ (Region.wanted o (yielded ops av.tmps) = false ∧ valAt av o = undef))
/-- The region as it is run, and as it is told. -/
structure DInv (C : Cfg) (n : Nat) (D : List Deferred) (ops : Array Oper) (listed : Array Bool) (done rs : List Nat) (a av : Act) (w : World) (c : Cx) (F : Frm) (S : Sto) (nx : Nat) : Prop where
  at' : At C n D w c S nx F av
  size : a.tmps.size = n
  defs : a.defers = D
  lsize : listed.size = ops.size
  ld : ∀ i : Nat, listed[i]? = some true → i ∈ done
  closed : ∀ (i : Nat) (o : Oper), i ∈ done → ops[i]? = some o → ∀ e ∈ o.after.toList, bindsE e = true → e.on ∈ done
  lclosed : ∀ (i : Nat) (o : Oper), listed[i]? = some true → ops[i]? = some o → ∀ e ∈ o.after.toList, bindsE e = true → listed[e.on]? = some true
  agree : ∀ t, (∀ (i : Nat) (o : Oper), i ∈ done → listed[i]? = some false → ops[i]? = some o → o.dst ≠ some t) → a.tmps[t]? = av.tmps[t]?
  pend : ∀ (i : Nat) (o : Oper), i ∈ done → listed[i]? = some false → ops[i]? = some o → isRd o = true ∧ Pend C.P ops o av w c (i ∈ rs)

theorem putT_get (a : Act) (d : Tmp) (u : Value) {t : Tmp} (h : t ≠ d) : (a.put (some d) u).tmps[t]? = a.tmps[t]? := by
  simp only [Act.put]
  rw [Array.getElem?_setIfInBounds_ne (Ne.symm h)]
theorem putT_same (a : Act) (d : Tmp) (u : Value) (h : d < a.tmps.size) : (a.put (some d) u).tmps[d]? = some u := by
  simp [Act.put, h]
theorem valAt_put {a : Act} {o : Oper} {d : Tmp} (hd : o.dst = some d) (h : d < a.tmps.size) (u : Value) : valAt (a.put (some d) u) o = u := by
  simp [valAt, hd, Array.getD_eq_getD_getElem?, putT_same a d u h]
/-- What another operation writes is nothing to it. -/
theorem Pend.put {P : Program} {ops : Array Oper} {o : Oper} {av : Act} {c : Cx} {own : Prop} (h : Pend P ops o av w c own) (hsel : noSel o = true) {d : Option Tmp} (u : Value) (hl : ∀ t, d = some t → looks ops.toList t o = false ∧ o.dst ≠ some t) : Pend P ops o (av.put d u) w c own := by
  cases d with
  | none => exact h
  | some t =>
    obtain ⟨h1, h2⟩ := hl t rfl
    obtain ⟨g1, g2⟩ := exec_alike (ops := ops) (o := o) (a := av) (a' := av.put (some t) u) hsel fun t' ht' => putT_get av t u fun e => by subst e; rw [h1] at ht'; cases ht'
    have h3 : valAt (av.put (some t) u) o = valAt av o := by
      unfold valAt
      cases hd : o.dst with
      | none => rfl
      | some d => simp only [Array.getD_eq_getD_getElem?]; rw [putT_get av t u fun e => h2 (by rw [hd, e])]
    obtain ⟨B, h4, h5⟩ := h
    refine ⟨B, h4, ?_⟩
    rw [g1, g2, h3]
    exact h5
theorem Pend.step {C : Cfg} {ops : Array Oper} {o : Oper} {av : Act} {own : Prop} (h : Pend C.P ops o av w c own) (hs : Sat C.T w c S nx) {w' : World} {c' : Cx} {S' : Sto} {nx' : Nat} (h' : Step C.T w c S nx w' c' S' nx') (hq : Quiet w w' ∨ ¬ own) : Pend C.P ops o av w' c' own := by
  obtain ⟨B, h4, h5⟩ := h
  refine ⟨B, fun b hb => ?_, ?_⟩
  · obtain ⟨g1, g2⟩ := h4 b hb
    exact ⟨Nat.lt_of_lt_of_le g1 h'.ext.size, g2.imp id (h'.ext.zup b)⟩
  · have hB : ∀ b, B b → w'.heap[b]? = w.heap[b]? := fun b hb => by
      obtain ⟨g1, g2⟩ := h4 b hb
      rcases hq with hq | hq
      · exact hq b g1
      · exact h'.ext.zkeep hs b (g2.resolve_left hq)
    rcases h5 with ⟨h5, h6⟩ | h5
    · exact .inl ⟨h5, fun w2 hw2 => h6 w2 fun b hb => (hw2 b hb).trans (hB b hb)⟩
    · exact .inr h5
theorem Pend.own {P : Program} {ops : Array Oper} {o : Oper} {av : Act} {c c' : Cx} {own own' : Prop} (h : Pend P ops o av w c own) (hz : ∀ b, c.Z b → c'.Z b) (ho : own → own') : Pend P ops o av w c' own' := by
  obtain ⟨B, h4, h5⟩ := h
  exact ⟨B, fun b hb => ⟨(h4 b hb).1, (h4 b hb).2.imp ho (hz b)⟩, h5⟩

variable {C : Cfg} {n : Nat} {D : List Deferred} {ops : Array Oper}
/-- One read is told ahead. -/
theorem DInv.float (hT : TOk C.P C.T) (hchk : ∀ i o, ops[i]? = some o → OpOk ops i o ∧ oOk n o = true) {listed : Array Bool} {done rs : List Nat} {a av : Act} {F : Frm} (h : DInv C n D ops listed done rs a av w c F S nx)
    {i : Nat} {o : Oper} (ho : ops[i]? = some o) (hr : isRd o = true) (hi : i ∉ done) (hrd : ∀ e ∈ o.after.toList, bindsE e = true → e.on ∈ done) {K : Frm → Sto → Nat → Prop} (hw : opwp C ops.toList o F S nx K) :
    ∃ av' c' F' S', Step C.T w c S nx w c' S' nx ∧ K F' S' nx ∧ DInv C n D ops listed (i :: done) (match ownLoad F o with | true => i :: rs | false => rs) a av' w c' F' S' nx := by
  obtain ⟨hop, hok⟩ := hchk i o ho
  obtain ⟨d, hdst⟩ : ∃ d, o.dst = some d := by
    cases h0 : o.dst with
    | none => simp [isRd, h0] at hr
    | some d => exact ⟨d, rfl⟩
  have hdn : d < n := (oOk_ops hok).2 d hdst
  obtain ⟨u, c', F', S', B, h1, h2, h3, h4, h5⟩ := rd_sound hT h.at' hok hr hw
  obtain ⟨hself, hrest⟩ := hop.rd hr d hdst
  have hil : listed[i]? = some false := by
    have hlt : i < listed.size := by rw [h.lsize]; exact (Array.getElem?_eq_some_iff.1 ho).1
    rw [Array.getElem?_eq_getElem hlt]
    cases hb : listed[i] with
    | false => rfl
    | true => exact absurd (h.ld i (by rw [Array.getElem?_eq_getElem hlt, hb])) hi
  refine ⟨av.put o.dst u, c', F', S', h2, h4, ?_⟩
  rw [hdst] at h3 ⊢
  refine ⟨h3, h.size, h.defs, h.lsize, fun j hj => List.mem_cons_of_mem _ (h.ld j hj), ?_, h.lclosed, ?_, ?_⟩
  · intro j o' hj ho' e he hb
    rcases List.mem_cons.1 hj with rfl | hj
    · rw [ho] at ho'; cases ho'
      exact List.mem_cons_of_mem _ (hrd e he hb)
    · exact List.mem_cons_of_mem _ (h.closed j o' hj ho' e he hb)
  · intro t ht
    have hne : t ≠ d := fun e => ht i o (by simp) hil ho (by rw [hdst, e])
    rw [putT_get av d u hne]
    exact h.agree t fun j o' hj hl ho' => ht j o' (List.mem_cons_of_mem _ hj) hl ho'
  · intro j o' hj hl ho'
    rcases List.mem_cons.1 hj with rfl | hj
    · rw [ho] at ho'; cases ho'
      refine ⟨hr, B, fun b hb => ?_, ?_⟩
      · obtain ⟨g1, g2⟩ := h5 b hb
        refine ⟨g1, ?_⟩
        cases hol : ownLoad F o with
        | true => exact .inl (by simp)
        | false => exact .inr (h2.ext.zup b (g2 hol))
      · obtain ⟨g1, g2⟩ := exec_alike (ops := ops) (o := o) (a := av) (a' := av.put (some d) u) hop.sel fun t' ht' => putT_get av d u fun e => by subst e; rw [hself] at ht'; cases ht'
        rw [g1, g2, valAt_put hdst (by rw [h.at'.size]; exact hdn)]
        exact h1
    · obtain ⟨g1, g2⟩ := h.pend j o' hj hl ho'
      have hji : j ≠ i := fun e => hi (e ▸ hj)
      obtain ⟨g3, g4⟩ := hrest j o' ho' hji
      refine ⟨g1, ((g2.put (hchk j o' ho').1.sel (d := some d) u fun t ht => ?_).own h2.ext.zup fun hh => ?_)⟩
      · cases ht
        refine ⟨?_, g3⟩
        cases hlk : looks ops.toList d o' with
        | false => rfl
        | true =>
          obtain ⟨e, he, hb, heq⟩ := aftL_iff.1 (g4 hlk)
          exact absurd (heq ▸ h.closed j o' hj ho' e he hb) hi
      · cases ownLoad F o with
        | true => exact List.mem_cons_of_mem _ hh
        | false => exact hh
theorem float_all (hT : TOk C.P C.T) (hchk : ∀ i o, ops[i]? = some o → OpOk ops i o ∧ oOk n o = true) {listed : Array Bool} {a : Act} {K : List Nat → List Nat → Frm → Sto → Nat → Prop} :
    ∀ (l : List Oper) (i : Nat) {done rs : List Nat} {av : Act} {c : Cx} {F : Frm} {S : Sto}, (∀ j o, l[j]? = some o → ops[i + j]? = some o) → DInv C n D ops listed done rs a av w c F S nx → floatwp C ops.toList l i done rs F S nx K →
      ∃ done' rs' av' c' F' S', Step C.T w c S nx w c' S' nx ∧ DInv C n D ops listed done' rs' a av' w c' F' S' nx ∧ K done' rs' F' S' nx
  | [], i, done, rs, av, c, F, S, hl, h, hw => ⟨done, rs, av, c, F, S, Step.refl h.at'.sat, h, hw⟩
  | o :: r, i, done, rs, av, c, F, S, hl, h, hw => by
    have hl' : ∀ j o, r[j]? = some o → ops[i + 1 + j]? = some o := fun j o hj => by
      have := hl (j + 1) o (by simpa using hj)
      rwa [show i + (j + 1) = i + 1 + j by omega] at this
    simp only [floatwp] at hw
    split at hw
    · rename_i hc
      simp only [Bool.and_eq_true, Bool.not_eq_true'] at hc
      obtain ⟨av', c', F', S', h1, h2, h3⟩ := h.float hT hchk (by simpa using hl 0 o rfl) hc.1.1 (mem_not hc.1.2) (readyL_iff.1 hc.2) hw
      obtain ⟨done', rs', av'', c'', F'', S'', g1, g2, g3⟩ := float_all hT hchk r (i + 1) hl' h3 h2
      exact ⟨done', rs', av'', c'', F'', S'', h1.trans g1, g2, g3⟩
    · exact float_all hT hchk r (i + 1) hl' h hw
end Go.Proofs.Ytodhnbjncmihkaa.V
end

section
/- The symbolic machine V: a region whose order is open, whole. -/
set_option linter.unusedVariables false
set_option linter.unusedSimpArgs false
namespace Go.Proofs.Ytodhnbjncmihkaa.V
open Go
variable {w : World} {c : Cx} {S : Sto} {nx : Nat}
variable {C : Cfg} {n : Nat} {D : List Deferred} {ops : Array Oper}

theorem count_set : ∀ {l : List Bool} {i : Nat}, l[i]? = some false → (l.set i true).count false + 1 = l.count false
  | [], i, h => by simp at h
  | x :: r, 0, h => by simp at h; subst h; simp
  | x :: r, i + 1, h => by
    have := count_set (l := r) (i := i) (by simpa using h)
    simp only [List.set_cons_succ, List.count_cons]
    omega
theorem setL_get {l : Array Bool} {i j : Nat} (hi : i < l.size) : (l.setIfInBounds i true)[j]? = if i = j then some true else l[j]? := by
  rw [Array.getElem?_setIfInBounds]
  split
  · rename_i h; subst h; simp [hi]
  · rfl
/-- It can come next, as the machine has it. -/
theorem ready_iff {i : Nat} {listed : Array Bool} (hsz : listed.size = ops.size) : i ∈ Region.ready .any ops listed ↔ listed[i]? = some false ∧ ∃ o, ops[i]? = some o ∧ ∀ e ∈ o.after.toList, bindsE e = true → listed[e.on]? = some true := by
  rw [mem_ready]
  constructor
  · rintro ⟨h1, o, h2, h3⟩
    have hlt : i < listed.size := by rw [hsz]; exact (Array.getElem?_eq_some_iff.1 h2).1
    refine ⟨?_, o, h2, fun e he hb => ?_⟩
    · rw [Array.getElem?_eq_getElem hlt]
      simpa [Array.getD, hlt] using h1
    · have := h3 e (by simpa using he) (by rw [binds_any]; exact hb)
      rw [Array.getD_eq_getD_getElem?] at this
      cases hl : listed[e.on]? with
      | none => rw [hl] at this; cases this
      | some b => rw [hl] at this; simp at this; rw [this]
  · rintro ⟨h1, o, h2, h3⟩
    refine ⟨by rw [Array.getD_eq_getD_getElem?, h1]; rfl, o, h2, fun e he hb => ?_⟩
    rw [Array.getD_eq_getD_getElem?, h3 e (by simpa using he) (by rw [← binds_any]; exact hb)]
    rfl
/-- Where an operation that can come next looks, the two frames are alike. -/
theorem DInv.looks {listed : Array Bool} {done rs : List Nat} {a av : Act} {F : Frm} (hchk : ∀ i o, ops[i]? = some o → OpOk ops i o ∧ oOk n o = true) (h : DInv C n D ops listed done rs a av w c F S nx) {j : Nat} {o : Oper} (ho : ops[j]? = some o) (hj : listed[j]? = some false)
    (hrd : ∀ e ∈ o.after.toList, bindsE e = true → listed[e.on]? = some true) : execOp a.eval o = execOp av.eval o ∧ Region.wanted o (yielded ops a.tmps) = Region.wanted o (yielded ops av.tmps) := by
  refine exec_alike (hchk j o ho).1.sel fun t ht => h.agree t fun i oi hi hl hoi hd => ?_
  obtain ⟨hr, _⟩ := h.pend i oi hi hl hoi
  obtain ⟨h1, h2⟩ := (hchk i oi hoi).1.rd hr t hd
  by_cases hji : j = i
  · subst hji; rw [ho] at hoi; cases hoi; rw [h1] at ht; cases ht
  · obtain ⟨e, he, hb, heq⟩ := aftL_iff.1 ((h2 j o ho hji).2 ht)
    have := hrd e he hb
    rw [heq, hl] at this
    cases this
/-- A read that is told already is run. -/
theorem DInv.late {listed : Array Bool} {done rs : List Nat} {a av : Act} {F : Frm} (hchk : ∀ i o, ops[i]? = some o → OpOk ops i o ∧ oOk n o = true) (h : DInv C n D ops listed done rs a av w c F S nx) {j : Nat} {o : Oper} (ho : ops[j]? = some o) (hj : listed[j]? = some false)
    (hrd : ∀ e ∈ o.after.toList, bindsE e = true → listed[e.on]? = some true) (hjd : j ∈ done) {Q : Exit → Act → World → Prop} {K : Act → World → Prop}
    (hk : ∀ a', DInv C n D ops (listed.setIfInBounds j true) done rs a' av w c F S nx → K a' w) : wpOp C.P ops Q j K a w := by
  obtain ⟨g1, g2⟩ := h.looks hchk ho hj hrd
  obtain ⟨hr, B, h1, h2⟩ := h.pend j o hjd hj ho
  have hlt : j < listed.size := (Array.getElem?_eq_some_iff.1 hj).1
  obtain ⟨d, hdst⟩ : ∃ d, o.dst = some d := by
    cases h0 : o.dst with
    | none => simp [isRd, h0] at hr
    | some d => exact ⟨d, rfl⟩
  have hdn : d < n := (oOk_ops (hchk j o ho).2).2 d hdst
  have hfin : K (a.put o.dst (valAt av o)) w := by
    refine hk _ ⟨h.at', by rw [put_size', h.size], by rw [put_defers', h.defs], by simp [h.lsize], fun i hi => ?_, h.closed, fun i oi hi hoi e he hb => ?_, fun t ht => ?_, fun i oi hi hl hoi => ?_⟩
    · rw [setL_get hlt] at hi
      split at hi
      · rename_i e; exact e ▸ hjd
      · exact h.ld i hi
    · rw [setL_get hlt] at hi ⊢
      split
      · rfl
      · split at hi
        · rename_i e; subst e; rw [ho] at hoi; cases hoi; exact hrd e he hb
        · exact h.lclosed i oi hi hoi e he hb
    · rw [hdst]
      by_cases htd : t = d
      · subst htd
        rw [putT_same _ _ _ (by rw [h.size]; exact hdn)]
        have : t < av.tmps.size := by rw [h.at'.size]; exact hdn
        rw [Array.getElem?_eq_getElem this]
        simp [valAt, hdst, Array.getD, this]
      · rw [putT_get _ _ _ htd]
        refine h.agree t fun i oi hi hl hoi hd => ?_
        by_cases hji : j = i
        · subst hji; rw [ho] at hoi; cases hoi; rw [hdst] at hd; cases hd; exact htd rfl
        · exact ht i oi hi (by rw [setL_get hlt, if_neg hji]; exact hl) hoi hd
    · rw [setL_get hlt] at hl
      split at hl
      · cases hl
      · exact h.pend i oi hi hl hoi
  unfold wpOp
  simp only [ho]
  rw [g2]
  rcases h2 with ⟨h2, h3⟩ | ⟨h2, h3⟩
  · rw [if_pos h2]
    refine .inl ?_
    unfold Oper.wp
    rw [g1, h3 w fun b _ => rfl, Oper.upon_value]
    exact hfin
  · rw [if_neg (by simp [h2])]
    rw [h3] at hfin
    exact hfin
/-- An act is run, and told. -/
theorem DInv.act (hT : TOk C.P C.T) {listed : Array Bool} {done rs : List Nat} {a av : Act} {F : Frm} (hchk : ∀ i o, ops[i]? = some o → OpOk ops i o ∧ oOk n o = true) (h : DInv C n D ops listed done rs a av w c F S nx) {j : Nat} {o : Oper} (ho : ops[j]? = some o) (hj : listed[j]? = some false)
    (hrd : ∀ e ∈ o.after.toList, bindsE e = true → listed[e.on]? = some true) (hjd : j ∉ done) (hst : (quietOp C F o.op || stableL o rs) = true) {K : Frm → Sto → Nat → Prop} (hw : opwp C ops.toList o F S nx K) {Q : Exit → Act → World → Prop} {K' : Act → World → Prop}
    (hk : ∀ a' av' w' c' F' S' nx', Step C.T w c S nx w' c' S' nx' → K F' S' nx' → DInv C n D ops (listed.setIfInBounds j true) (j :: done) rs a' av' w' c' F' S' nx' → K' a' w') : wpOp C.P ops Q j K' a w := by
  obtain ⟨g1, g2⟩ := h.looks hchk ho hj hrd
  have hlt : j < listed.size := (Array.getElem?_eq_some_iff.1 hj).1
  obtain ⟨hop, hok⟩ := hchk j o ho
  have hstab : ∀ i ∈ rs, stableL o rs = true → aft o i = true := by
    have : ∀ (l : List Nat), stableL o l = true → ∀ i ∈ l, aft o i = true := by
      intro l
      induction l with
      | nil => intro _ i hi; simp at hi
      | cons x r ih =>
        intro hs i hi
        simp only [stableL] at hs
        split at hs
        · rename_i hx
          rcases List.mem_cons.1 hi with rfl | hi
          · exact hx
          · exact ih hs i hi
        · cases hs
    exact fun i hi hs => this rs hs i hi
  have hR := opwp_sound hT h.at' hok hw (R := fun u w' => K' (a.put o.dst u) w') fun u w' c' F' S' nx' hs hat hK hq => by
    refine hk _ _ w' c' F' S' nx' hs hK ⟨hat, by rw [put_size', h.size], by rw [put_defers', h.defs], by simp [h.lsize], fun i hi => ?_, fun i oi hi hoi e he hb => ?_, fun i oi hi hoi e he hb => ?_, fun t ht => ?_, fun i oi hi hl hoi => ?_⟩
    · rw [setL_get hlt] at hi
      split at hi
      · rename_i e; subst e; simp
      · exact List.mem_cons_of_mem _ (h.ld i hi)
    · rcases List.mem_cons.1 hi with rfl | hi
      · rw [ho] at hoi; cases hoi
        exact List.mem_cons_of_mem _ (h.ld _ (hrd e he hb))
      · exact List.mem_cons_of_mem _ (h.closed i oi hi hoi e he hb)
    · rw [setL_get hlt] at hi ⊢
      split
      · rfl
      · split at hi
        · rename_i e; subst e; rw [ho] at hoi; cases hoi; exact hrd _ he hb
        · exact h.lclosed i oi hi hoi e he hb
    · have hag : a.tmps[t]? = av.tmps[t]? := h.agree t fun i oi hi hl hoi => by
        have hji : j ≠ i := fun e => hjd (e ▸ hi)
        exact ht i oi (List.mem_cons_of_mem _ hi) (by rw [setL_get hlt, if_neg hji]; exact hl) hoi
      cases hdst : o.dst with
      | none => exact hag
      | some d =>
        have hdn : d < n := (oOk_ops hok).2 d hdst
        by_cases htd : t = d
        · subst htd
          rw [putT_same _ _ _ (by rw [h.size]; exact hdn), putT_same _ _ _ (by rw [h.at'.size]; exact hdn)]
        · rw [putT_get _ _ _ htd, putT_get _ _ _ htd]; exact hag
    · rw [setL_get hlt] at hl
      split at hl
      · cases hl
      · rename_i hji
        have hi : i ∈ done := by
          rcases List.mem_cons.1 hi with rfl | hi
          · exact absurd rfl hji
          · exact hi
        obtain ⟨k1, k2⟩ := h.pend i oi hi hl hoi
        refine ⟨k1, ?_⟩
        have hp : Pend C.P ops oi av w' c' (i ∈ rs) := by
          refine k2.step h.at'.sat hs ?_
          rcases Bool.or_eq_true _ _ ▸ hst with hq' | hs'
          · exact .inl (hq hq')
          · refine .inr fun hir => ?_
            obtain ⟨e, he, hb, heq⟩ := aftL_iff.1 (hstab i hir hs')
            have := hrd e he hb
            rw [heq, hl] at this
            cases this
        refine hp.put (hchk i oi hoi).1.sel u fun t ht => ?_
        obtain ⟨d, hdi⟩ : ∃ d, oi.dst = some d := by
          cases h0 : oi.dst with
          | none => simp [isRd, h0] at k1
          | some d => exact ⟨d, rfl⟩
        refine ⟨?_, fun hh => ?_⟩
        · cases hlk : V.looks ops.toList t oi with
          | false => rfl
          | true =>
            exfalso
            have hcase : aft oi j = true ∨ aft o i = true := by
              cases hro : isRd o with
              | true => exact .inl (((hop.rd hro t ht).2 i oi hoi (Ne.symm hji)).2 hlk)
              | false => exact hop.act hro t ht i oi hoi k1 hlk
            rcases hcase with hc | hc
            · obtain ⟨e, he, hb, heq⟩ := aftL_iff.1 hc
              exact hjd (heq ▸ h.closed i oi hi hoi e he hb)
            · obtain ⟨e, he, hb, heq⟩ := aftL_iff.1 hc
              have := hrd e he hb
              rw [heq, hl] at this
              cases this
        · exact (((hchk i oi hoi).1.rd k1 t hh).2 j o ho hji).1 ht
  unfold wpOp
  simp only [ho]
  rw [g2]
  rcases hR with ⟨hR1, hR2⟩ | ⟨hR1, hR2⟩
  · rw [if_pos hR1]
    refine .inl (wp_swap g1 hR2 (fun u w' hR => hR) fun u u' he => ?_)
    cases hdst : o.dst with
    | none => exact .inr rfl
    | some d =>
      rw [hdst] at he
      have hdn : d < n := (oOk_ops hok).2 d hdst
      have h1 : (av.put (some d) u).tmps[d]? = (av.put (some d) u').tmps[d]? := congrArg (fun x : Act => x.tmps[d]?) he
      rw [putT_same _ _ _ (by rw [h.at'.size]; exact hdn), putT_same _ _ _ (by rw [h.at'.size]; exact hdn)] at h1
      exact .inl (Option.some.inj h1)
  · rw [if_neg (by simp [hR1])]
    exact hR2
/-- Nothing is told that isn't run, where nothing can come next. -/
theorem DInv.none (hchk : ∀ i o, ops[i]? = some o → OpOk ops i o ∧ oOk n o = true) {listed : Array Bool} {done rs : List Nat} {a av : Act} {F : Frm} (h : DInv C n D ops listed done rs a av w c F S nx) (hr : Region.ready .any ops listed = []) :
    ∀ i : Nat, i ∈ done → listed[i]? ≠ some false := by
  intro i
  induction i using Nat.strongRecOn with
  | _ i ih =>
    intro hi hl
    have hlt : i < ops.size := by rw [← h.lsize]; exact (Array.getElem?_eq_some_iff.1 hl).1
    have ho : ops[i]? = some ops[i] := Array.getElem?_eq_getElem hlt
    have : i ∈ Region.ready .any ops listed := by
      refine (ready_iff h.lsize).2 ⟨hl, _, ho, fun e he hb => ?_⟩
      have h1 := (hchk i _ ho).1.back e he hb
      have h2 := ih e.on h1 (h.closed i _ hi ho e he hb)
      have h3 : e.on < listed.size := by rw [h.lsize]; omega
      rw [Array.getElem?_eq_getElem h3] at h2 ⊢
      cases hb : listed[e.on] with
      | true => rfl
      | false => exact absurd (by rw [hb]) h2
    rw [hr] at this
    cases this
theorem acts_last {done rs : List Nat} {F : Frm} {K : List Nat → Frm → Sto → Nat → Prop} {last : Prop} : ∀ (l : List Oper) (i : Nat), (∀ j o, l[j]? = some o → (i + j) ∉ done → ¬ ∀ e ∈ o.after.toList, bindsE e = true → e.on ∈ done) → actswp C ops.toList done rs F S nx K last l i true → last
  | [], i, _, h => h
  | o :: r, i, hno, h => by
    simp only [actswp] at h
    split at h
    · rename_i hc
      simp only [Bool.and_eq_true, Bool.not_eq_true'] at hc
      exact absurd (readyL_iff.1 hc.2) (hno 0 o rfl (mem_not hc.1))
    · refine acts_last r (i + 1) (fun j o' hj hd => ?_) h
      have := hno (j + 1) o' (by simpa using hj)
      rw [show i + (j + 1) = i + 1 + j by omega] at this
      exact this hd
theorem acts_at {done rs : List Nat} {F : Frm} {K : List Nat → Frm → Sto → Nat → Prop} {last : Prop} : ∀ (l : List Oper) (i : Nat) (f : Bool), actswp C ops.toList done rs F S nx K last l i f → ∀ j o, l[j]? = some o → (i + j) ∉ done → (∀ e ∈ o.after.toList, bindsE e = true → e.on ∈ done) →
      (quietOp C F o.op || stableL o rs) = true ∧ opwp C ops.toList o F S nx fun F' S' nx' => K ((i + j) :: done) F' S' nx'
  | [], i, f, _, j, o, hj, _, _ => by simp at hj
  | x :: r, i, f, h, j, o, hj, hd, hr => by
    simp only [actswp] at h
    cases j with
    | zero =>
      simp at hj; subst hj
      have hc : (!mem i done && readyL done x.after.toList) = true := by
        simp only [Bool.and_eq_true, Bool.not_eq_true']
        refine ⟨?_, readyL_iff.2 hr⟩
        cases hm : mem i done with
        | false => rfl
        | true => exact absurd ((mem_iff _ _).1 hm) (by simpa using hd)
      rw [hc] at h
      exact guardT_eq h.1
    | succ j =>
      have e : i + (j + 1) = i + 1 + j := by omega
      rw [e] at hd ⊢
      split at h
      · exact acts_at r (i + 1) _ h.2 j o (by simpa using hj) hd hr
      · exact acts_at r (i + 1) _ h j o (by simpa using hj) hd hr
theorem allIn_iff {done : List Nat} : ∀ {l : List Oper} {i : Nat}, allIn done l i = true → ∀ j, j < l.length → i + j ∈ done
  | [], i, _, j, hj => by simp at hj
  | x :: r, i, h, j, hj => by
    simp only [allIn] at h
    split at h
    · rename_i hm
      cases j with
      | zero => exact (mem_iff _ _).1 hm
      | succ j =>
        have := allIn_iff h j (by simpa using hj)
        rwa [show i + 1 + j = i + (j + 1) by omega] at this
    · cases h

/-- However it is drawn. -/
theorem draw_sound (hT : TOk C.P C.T) (hchk : ∀ i o, ops[i]? = some o → OpOk ops i o ∧ oOk n o = true) {K : Frm → Sto → Nat → Prop} {Q : Exit → Act → World → Prop} {w0 : World} {c0 : Cx} {S0 : Sto} {nx0 : Nat}
    (hq : ∀ a' w' c' F' S' nx', Step C.T w0 c0 S0 nx0 w' c' S' nx' → At C n D w' c' S' nx' F' a' → K F' S' nx' → Q .normal a' w') :
    ∀ (fuel m : Nat) (listed : Array Bool) {done rs : List Nat} {a av : Act} {w : World} {c : Cx} {F : Frm} {S : Sto} {nx : Nat}, listed.toList.count false = fuel → Step C.T w0 c0 S0 nx0 w c S nx → DInv C n D ops listed done rs a av w c F S nx →
      actswp C ops.toList done rs F S nx (fun done F S nx => drawwp C ops.toList m done rs F S nx K) (guardT (allIn done ops.toList 0) (K F S nx)) ops.toList 0 true → wpAny C.P .any ops Q fuel listed a w := by
  have finish : ∀ (m : Nat) (listed : Array Bool) {done rs : List Nat} {a av : Act} {w : World} {c : Cx} {F : Frm} {S : Sto} {nx : Nat}, Step C.T w0 c0 S0 nx0 w c S nx → DInv C n D ops listed done rs a av w c F S nx →
      actswp C ops.toList done rs F S nx (fun done F S nx => drawwp C ops.toList m done rs F S nx K) (guardT (allIn done ops.toList 0) (K F S nx)) ops.toList 0 true → Region.ready .any ops listed = [] → Q .normal a w := by
    intro m listed done rs a av w c F S nx hs h hw hr
    have hnone := h.none hchk hr
    have hlast := acts_last ops.toList 0 (fun j o hj hd hall => by
      have ho : ops[j]? = some o := by simpa using hj
      have hlt : j < listed.size := by rw [h.lsize]; exact (Array.getElem?_eq_some_iff.1 ho).1
      have hjl : listed[j]? = some false := by
        rw [Array.getElem?_eq_getElem hlt]
        cases hb : listed[j] with
        | false => rfl
        | true => exact absurd (h.ld j (by rw [Array.getElem?_eq_getElem hlt, hb])) (by simpa using hd)
      have : j ∈ Region.ready .any ops listed := by
        refine (ready_iff h.lsize).2 ⟨hjl, o, ho, fun e he hb => ?_⟩
        have h1 := (hchk j o ho).1.back e he hb
        have h2 := hnone e.on (hall e he hb)
        have h3 : e.on < listed.size := by omega
        rw [Array.getElem?_eq_getElem h3] at h2 ⊢
        cases hb : listed[e.on] with
        | true => rfl
        | false => exact absurd (by rw [hb]) h2
      rw [hr] at this
      cases this) hw
    obtain ⟨_, hk⟩ := guardT_eq hlast
    have hav : a = av := by
      have h1 : a.tmps = av.tmps := by
        apply Array.ext_getElem?
        exact fun t => h.agree t fun i o hi hl _ => absurd hl (hnone i hi)
      have h2 : a.defers = av.defers := by rw [h.defs, h.at'.defs]
      cases a; cases av; simp at h1 h2; simp [h1, h2]
    subst hav
    exact hq a w c F S nx hs h.at' hk
  intro fuel
  induction fuel with
  | zero =>
    intro m listed done rs a av w c F S nx hc hs h hw
    have hr : Region.ready .any ops listed = [] := by
      cases hr : Region.ready .any ops listed with
      | nil => rfl
      | cons i l =>
        have : i ∈ Region.ready .any ops listed := by rw [hr]; simp
        have h1 := ((ready_iff h.lsize).1 this).1
        have h2 : false ∈ listed.toList := List.mem_of_getElem? (by simpa using h1)
        have := List.count_pos_iff.2 h2
        omega
    exact ⟨hr, finish m listed hs h hw hr⟩
  | succ fuel ih =>
    intro m listed done rs a av w c F S nx hc hs h hw
    refine ⟨finish m listed hs h hw, fun j hj => ?_⟩
    obtain ⟨hjl, o, ho, hrd⟩ := (ready_iff h.lsize).1 hj
    have hcnt : (listed.setIfInBounds j true).toList.count false = fuel := by
      have := count_set (l := listed.toList) (i := j) (by simpa using hjl)
      rw [Array.toList_setIfInBounds]
      omega
    by_cases hjd : j ∈ done
    · exact h.late hchk ho hjl hrd hjd fun a' h' => ih m _ hcnt hs h' hw
    · obtain ⟨g1, g2⟩ := acts_at ops.toList 0 true hw j o (by simpa using ho) (by simpa using hjd) fun e he hb => h.ld _ (hrd e he hb)
      rw [Nat.zero_add] at g2
      refine h.act hT hchk ho hjl hrd hjd g1 g2 fun a' av' w' c' F' S' nx' hs' hk h' => ?_
      cases m with
      | zero => simp only [drawwp] at hk
      | succ m =>
        simp only [drawwp] at hk
        obtain ⟨done', rs', av'', c'', F'', S'', k1, k2, k3⟩ := float_all hT hchk ops.toList 0 (fun j o hj => by simpa using hj) h' hk
        exact ih m _ hcnt ((hs.trans hs').trans k1) k2 k3
end Go.Proofs.Ytodhnbjncmihkaa.V
end

section
/- The symbolic machine V: code. -/
set_option linter.unusedVariables false
set_option linter.unusedSimpArgs false
namespace Go.Proofs.Ytodhnbjncmihkaa.V
open Go
variable {w : World} {c : Cx} {S : Sto} {nx : Nat}

/-- Where a call stands, against its beginning. -/
def Rel (C : Cfg) (n : Nat) (D : List Deferred) (m0 : Nat) (w0 : World) (c0 : Cx) (S0 : Sto) (F : Frm) (S : Sto) (nx : Nat) (a : Act) (w : World) : Prop :=
  ∃ c, At C n D w c S nx F a ∧ Ext w0 c0 w c ∧ Stays c0 S0 m0 c S ∧ m0 ≤ nx
theorem Step.drawn {T : TypeId → Option TI} (hs : Sat T w c S nx) (k : Nat) : Step T w c S nx { w with drawn := k } c S nx := by
  refine ⟨hs.of (Stays.refl _ _ _) (Nat.le_refl _) (Nat.le_refl _) (fun _ h => h) (fun b _ => rfl) (fun id => .inr ⟨rfl, rfl, rfl, fun b _ => rfl⟩) hs.lt hs.disj hs.xz hs.zlt hs.xlt, ⟨rfl, rfl, rfl, Nat.le_refl _, fun _ _ _ => rfl, fun _ h => h, fun _ _ h => .inl h, fun id _ _ h => ⟨id, h⟩⟩, Stays.refl _ _ _, Nat.le_refl _⟩

theorem exists_min (p : Nat → Prop) : ∀ n, p n → ∃ n, p n ∧ ∀ k, p k → n ≤ k := by
  intro n
  induction n using Nat.strongRecOn with
  | _ n ih =>
    intro h
    by_cases hk : ∃ k, k < n ∧ p k
    · obtain ⟨k, h1, h2⟩ := hk
      exact ih k h1 h2
    · exact ⟨n, h, fun k hpk => Nat.le_of_not_lt fun hlt => hk ⟨k, hlt, hpk⟩⟩
def codeOk (n : Nat) : Code → Bool
  | .region _ ops _ => ops.toList.all (oOk n)
  | .seq a b => codeOk n a && codeOk n b
  | .cond x a b => xOk x && codeOk n a && codeOk n b
  | .block _ c => codeOk n c
  | .loop c => codeOk n c
  | _ => true
theorem DInv.start {C : Cfg} {n : Nat} {D : List Deferred} {ops : Array Oper} {F : Frm} {a : Act} (h : At C n D w c S nx F a) : DInv C n D ops (Array.replicate ops.size false) [] [] a a w c F S nx := by
  refine ⟨h, h.size, h.defs, by simp, fun i hi => ?_, fun i o hi => by simp at hi, fun i o hi => ?_, fun _ _ => rfl, fun i o hi => by simp at hi⟩
  · have := Array.getElem?_eq_some_iff.1 hi
    obtain ⟨h1, h2⟩ := this
    simp at h2
  · have := Array.getElem?_eq_some_iff.1 hi
    obtain ⟨h1, h2⟩ := this
    simp at h2

theorem wp_sound {C : Cfg} (hT : TOk C.P C.T) (hM : C.P.follows .mixedOrders = true) {n : Nat} {D : List Deferred} {m0 : Nat} {w0 : World} {c0 : Cx} {S0 : Sto} : ∀ (code : Code), codeOk n code = true → ∀ {F : Frm} {S : Sto} {nx : Nat} {a : Act} {w : World} {Q : Exit → Act → World → Prop} {post : Post},
    Rel C n D m0 w0 c0 S0 F S nx a w → wp C m0 code post F S nx → (∀ e F S nx a w, post e F S nx → Rel C n D m0 w0 c0 S0 F S nx a w → Q e a w) → code.wp C.P Q a w := by
  intro code
  induction code with
  | skip => intro hok F S nx a w Q post hr h hq; exact wp_skip (hq _ _ _ _ _ _ h hr)
  | label l => intro hok F S nx a w Q post hr h hq; exact wp_label (hq _ _ _ _ _ _ h hr)
  | exit id => intro hok F S nx a w Q post hr h hq; exact wp_exit (hq _ _ _ _ _ _ h hr)
  | ret => intro hok F S nx a w Q post hr h hq; exact wp_ret (hq _ _ _ _ _ _ h hr)
  | goto l => intro hok F S nx a w Q post hr h hq; exact h.elim
  | scope c ih => intro hok F S nx a w Q post hr h hq; exact h.elim
  | rangeFunc f ps x y ih1 ih2 => intro hok F S nx a w Q post hr h hq; exact h.elim
  | refuse y => intro hok F S nx a w Q post hr h hq; exact h.elim
  | seq x y ihx ihy =>
    intro hok F S nx a w Q post hr h hq
    simp only [codeOk, Bool.and_eq_true] at hok
    refine wp_seq (ihx hok.1 hr (by simpa only [wp] using h) fun e F S nx a w hp hr' => ?_)
    cases e with
    | normal => exact ihy hok.2 hr' hp hq
    | _ => exact hq _ _ _ _ _ _ hp hr'
  | cond x p q ihp ihq =>
    intro hok F S nx a w Q post hr h hq
    simp only [codeOk, Bool.and_eq_true] at hok
    obtain ⟨c, hat, hr'⟩ := hr
    obtain ⟨b, hb, h⟩ := fork_sound (ev_sound hat.fr hok.1.1) h
    refine wp_cond (t := b) hb ?_
    cases b with
    | true => exact ihp hok.1.2 ⟨c, hat, hr'⟩ h hq
    | false => exact ihq hok.2 ⟨c, hat, hr'⟩ h hq
  | block id x ih =>
    intro hok F S nx a w Q post hr h hq
    refine wp_block (ih hok hr (by simpa only [wp] using h) fun e F S nx a w hp hr' => ?_)
    cases e with
    | exit k =>
      simp only [Exit.inBlock]
      cases hk : Nat.beq k id with
      | true => rw [if_pos (beq_t hk)]; simp only [hk] at hp; exact hq _ _ _ _ _ _ hp hr'
      | false => rw [if_neg (beq_f hk)]; simp only [hk] at hp; exact hq _ _ _ _ _ _ hp hr'
    | _ => exact hq _ _ _ _ _ _ hp hr'
  | region id ops draw =>
    intro hok F S nx a w Q post hr h hq
    simp only [codeOk] at hok
    have hok' : ∀ o ∈ ops.toList, oOk n o = true := fun o ho => List.all_eq_true.1 hok o ho
    obtain ⟨c, hat, hext, hst, hle⟩ := hr
    have fin : ∀ {w1 : World}, Step C.T w c S nx w1 c S nx → ∀ a' w' c' F' S' nx', Step C.T w1 c S nx w' c' S' nx' → At C n D w' c' S' nx' F' a' → post .normal F' S' nx' → Q .normal a' w' := by
      intro w1 h1 a' w' c' F' S' nx' hs hat' hp
      have h2 := h1.trans hs
      refine hq _ _ _ _ _ _ hp ⟨c', hat', hext.trans h2.ext, hst.trans (h2.st.le hle) (Nat.le_refl _), Nat.le_trans hle h2.nx⟩
    cases draw with
    | false =>
      refine wp_region ?_
      have := opswp_sound hT hok' _ ops.toList 0 (Nat.le_refl _) rfl hat (by simpa only [wp] using h) (fin (Step.refl hat.sat))
      rw [List.range_eq_range']
      simpa using this
    | true =>
      simp only [wp] at h
      obtain ⟨hchk, h⟩ := h
      have hchk' : ∀ i o, ops[i]? = some o → OpOk ops i o ∧ oOk n o = true := fun i o ho => by
        have := drawOk_iff (ops := ops) (l := ops.toList) (i0 := 0) (fun i o hi => by simpa using hi) hchk i o (by simpa using ho)
        rw [Nat.zero_add] at this
        exact ⟨this, hok' o (Array.mem_toList_iff.2 (Array.mem_of_getElem? ho))⟩
      refine wp_region_any hM ?_
      have hd := Step.drawn hat.sat (w.drawn + 1)
      have h0 : DInv C n D ops (Array.replicate ops.size false) [] [] a a { w with drawn := w.drawn + 1 } c F S nx := DInv.start (hat.step hd)
      simp only [drawwp] at h
      obtain ⟨done', rs', av', c', F', S', k1, k2, k3⟩ := float_all hT hchk' ops.toList 0 (fun j o hj => by simpa using hj) h0 h
      refine draw_sound hT hchk' (fin hd) ops.size _ _ ?_ k1 k2 k3
      simp [List.count_replicate_self]
  | loop x ih =>
    intro hok F S nx a w Q post hr h hq
    obtain ⟨α, st, I, m, ⟨x0, hle0, hi0⟩, hround⟩ := h
    have move : ∀ {F : Frm} {S : Sto} {nx : Nat} {a : Act} {w : World} {y : α}, Le C.T m0 ⟨F, S, nx⟩ (st y) → Rel C n D m0 w0 c0 S0 F S nx a w → Rel C n D m0 w0 c0 S0 (st y).F (st y).S (st y).nx a w := by
      intro F S nx a w y hle hr
      obtain ⟨c, hat, hext, hst, hn⟩ := hr
      unfold Le at hle
      obtain ⟨c', h1, h2, h3, h4⟩ := hle hn w c a.tmps ⟨hat.sat, hat.fr⟩
      exact ⟨c', ⟨h1.sat, h1.fr, hat.size, hat.defs⟩, hext.trans h2, hst.trans h3 (Nat.le_refl _), h4⟩
    let p : Act → World → Nat → Prop := fun a w k => ∃ y, I y ∧ Rel C n D m0 w0 c0 S0 (st y).F (st y).S (st y).nx a w ∧ m y = k
    have hmin : ∀ a w, ∃ k, (∃ k', p a w k') → p a w k ∧ ∀ k', p a w k' → k ≤ k' := fun a w => by
      by_cases h : ∃ k', p a w k'
      · obtain ⟨k', h⟩ := h
        obtain ⟨k, h1, h2⟩ := exists_min (p a w) k' h
        exact ⟨k, fun _ => ⟨h1, h2⟩⟩
      · exact ⟨0, fun h' => absurd h' h⟩
    refine wp_loop (fun a w => ∃ k, p a w k) (fun a w => (hmin a w).choose) ⟨_, x0, hi0, move hle0 hr, rfl⟩ ?_
    rintro a w hex
    obtain ⟨⟨y, hy, hr, hm⟩, _⟩ := (hmin a w).choose_spec hex
    refine ih hok hr (hround y hy) fun e F S nx a' w' hp hr' => ?_
    cases e with
    | normal =>
      obtain ⟨y', h1, h2, h3⟩ := hp
      have hp' : p a' w' (m y') := ⟨y', h2, move h1 hr', rfl⟩
      refine ⟨⟨_, hp'⟩, ?_⟩
      have := ((hmin a' w').choose_spec ⟨_, hp'⟩).2 _ hp'
      omega
    | _ => exact hq _ _ _ _ _ _ hp hr'
end Go.Proofs.Ytodhnbjncmihkaa.V
end

section
/- The symbolic machine V: a call out of its code. -/
set_option linter.unusedVariables false
set_option linter.unusedSimpArgs false
namespace Go.Proofs.Ytodhnbjncmihkaa.V
open Go
variable {w : World} {c : Cx} {S : Sto} {nx : Nat}

theorem force_of {v : V} {K : V → Prop} (h : K v) : force v K := by cases v <;> exact h
theorem guardT_of {b : Bool} {p : Prop} (hb : b = true) (h : p) : guardT b p := by subst hb; exact h
/-- How a result is read. -/
def resSem (tmps : Array Value) : ResultVar → Sem Value
  | .tmp t => pure (tmps.getD t undef)
  | .cell x t => do loadVar t (← asAddr (tmps.getD x undef))
theorem resV_sound {C : Cfg} (hT : TOk C.P C.T) {n : Nat} {D : List Deferred} {F : Frm} {a : Act} (h : At C n D w c S nx F a) {r : ResultVar} {v : V} (hv : resV C F S r = some v) :
    ∃ u c', (resSem a.tmps r).run C.P w = .ok u w ∧ Step C.T w c S nx w c' S nx ∧ VR C.T w c' S nx v u := by
  cases r with
  | tmp t =>
    simp only [resV, Option.some.injEq] at hv
    subst hv
    exact ⟨_, c, rfl, Step.refl h.sat, h.fr t⟩
  | cell x t =>
    simp only [resV] at hv
    split at hv
    · rename_i i id ver p j hi hx
      split at hv
      · rename_i bt ls ho
        split at hv
        · rename_i hb
          cases hv
          have hvx := h.fr x
          rw [hx] at hvx
          obtain ⟨u, v', c', S', b, h1, h2, h3, ⟨e1, e2⟩, _⟩ := load_soundL (K := fun v S' n => v = mkV i (sub ls j i.ks.length) ∧ S' = S) hT (t := t) (show loadwp C t (.one (.ptr id ver p j)) S _ from by
            simp only [loadwp, hi, ho]
            exact guardT_of hb (force_of (by simp))) h.sat hvx
          subst e1
          subst e2
          obtain ⟨_, ⟨ad, e⟩, _⟩ := hvx.inv1
          refine ⟨u, c', ?_, h2, h3⟩
          have g := h1 w rfl
          rw [e] at g
          simp only [resSem, e]
          simpa [Instr.loadAt, Instr.sureAddr, asAddr] using g
        · cases hv
      · cases hv
    · cases hv
theorem resVs_sound {C : Cfg} (hT : TOk C.P C.T) {n : Nat} {D : List Deferred} {F : Frm} {a : Act} : ∀ {rs : List ResultVar} {vs : List V} {c : Cx}, At C n D w c S nx F a → resVs C F S rs = some vs →
    ∃ us c', (rs.mapM (resSem a.tmps)).run C.P w = .ok us w ∧ Step C.T w c S nx w c' S nx ∧ us.length = vs.length ∧ ∀ (j : Nat) (v : V) (u : Value), vs[j]? = some v → us[j]? = some u → VR C.T w c' S nx v u
  | [], vs, c, h, hv => by
    simp [resVs] at hv
    subst hv
    exact ⟨[], c, rfl, Step.refl h.sat, rfl, fun j v u h => by simp at h⟩
  | r :: rs, vs, c, h, hv => by
    simp only [resVs] at hv
    split at hv
    · rename_i v vs' h1 h2
      cases hv
      obtain ⟨u, c1, g1, g2, g3⟩ := resV_sound hT h h1
      obtain ⟨us, c2, g4, g5, g6, g7⟩ := resVs_sound hT (h.step g2) h2
      refine ⟨u :: us, c2, ?_, g2.trans g5, by simp [g6], fun j v u' hj hu => ?_⟩
      · simp [List.mapM_cons, g1, g4]
      · cases j with
        | zero => simp at hj hu; subst hj; subst hu; exact g5.vr g2.sat g3
        | succ j => exact g7 j v u' (by simpa using hj) (by simpa using hu)
    · cases hv
theorem results_eq (fn : Func) (tmps : Array Value) : results fn tmps = (do
    let vs ← fn.results.mapM (resSem tmps)
    pure (if h : vs.size = 1 then vs[0] else .tuple vs)) := by
  have : (fun r => (match r with | .tmp t => pure (tmps.getD t undef) | .cell x t => do loadVar t (← asAddr (tmps.getD x undef)) : Sem Value)) = resSem tmps := by
    funext r
    cases r <;> rfl
  unfold results
  rw [← this]
  rfl
theorem retV_sound {C : Cfg} (hT : TOk C.P C.T) {n : Nat} {D : List Deferred} {F : Frm} {a : Act} (h : At C n D w c S nx F a) {fn : Func} {v : V} (hv : retV C fn.results.toList F S = some v) :
    ∃ u c', (results fn a.tmps).run C.P w = .ok u w ∧ Step C.T w c S nx w c' S nx ∧ VR C.T w c' S nx v u := by
  rw [results_eq]
  have key : ∀ vs, resVs C F S fn.results.toList = some vs → ∃ (us : List Value) (c' : Cx), (do
      let vs ← fn.results.mapM (resSem a.tmps)
      pure (if h : vs.size = 1 then vs[0] else .tuple vs) : Sem Value).run C.P w = .ok (if h : us.toArray.size = 1 then us.toArray[0] else .tuple us.toArray) w ∧ Step C.T w c S nx w c' S nx ∧ us.length = vs.length ∧ ∀ (j : Nat) (v : V) (u : Value), vs[j]? = some v → us[j]? = some u → VR C.T w c' S nx v u := by
    intro vs hvs
    obtain ⟨us, c', g1, g2, g3, g4⟩ := resVs_sound hT h hvs
    refine ⟨us, c', ?_, g2, g3, g4⟩
    rw [Array.mapM_eq_mapM_toList, Sem.run_bind]
    simp [g1]
  unfold retV at hv
  split at hv
  · rename_i r hr
    have h1 : resVs C F S fn.results.toList = some [v] := by rw [hr]; simp [resVs, hv]
    obtain ⟨us, c', g1, g2, g3, g4⟩ := key _ h1
    match us, g3 with
    | [u], _ => exact ⟨u, c', by simpa using g1, g2, g4 0 v u rfl rfl⟩
  · rename_i hne
    split at hv
    · rename_i vs hvs
      cases hv
      obtain ⟨us, c', g1, g2, g3, g4⟩ := key _ hvs
      have hlen : ∀ {rs : List ResultVar} {vs : List V}, resVs C F S rs = some vs → vs.length = rs.length := by
        intro rs
        induction rs with
        | nil => intro vs h; simp [resVs] at h; subst h; rfl
        | cons r rs ih =>
          intro vs h
          simp only [resVs] at h
          split at h
          · rename_i h2; cases h; simp [ih h2]
          · cases h
      have h1 : us.toArray.size ≠ 1 := by
        intro e
        have : fn.results.toList.length = 1 := by rw [← hlen hvs, ← g3]; simpa using e
        obtain ⟨x, hx⟩ := List.length_eq_one_iff.1 this
        exact hne x hx
      rw [dif_neg h1] at g1
      exact ⟨_, c', g1, g2, .tup (by simpa using g3) fun j v u hj hu => g4 j v u hj (by simpa using hu)⟩
    · cases hv

theorem addAll_pre : ∀ (l acc : List Nat), ∃ r, addAll acc l = acc ++ r
  | [], acc => ⟨[], by simp [addAll]⟩
  | x :: l, acc => by
    simp only [addAll]
    split
    · exact addAll_pre l acc
    · obtain ⟨r, hr⟩ := addAll_pre l (acc ++ [x])
      exact ⟨x :: r, by rw [hr]; simp⟩
theorem close_pre (S : Sto) : ∀ (n : Nat) (acc : List Nat), ∃ r, close S n acc = acc ++ r
  | 0, acc => ⟨[], by simp [close]⟩
  | n + 1, acc => by
    obtain ⟨r1, h1⟩ := addAll_pre (moreIds S acc) acc
    obtain ⟨r2, h2⟩ := close_pre S n (addAll acc (moreIds S acc))
    exact ⟨r1 ++ r2, by simp only [close]; rw [h2, h1]; simp⟩
theorem first_eq : ∀ m, retwp.first m = List.range m
  | 0 => rfl
  | m + 1 => by simp [retwp.first, first_eq m, List.range_succ]
theorem pre_get {b r : List Nat} {m : Nat} (h : b = List.range m ++ r) {k : Nat} (hk : k < m) : b[k]? = some k := by
  subst h
  rw [List.getElem?_append_left (by simpa using hk)]
  simp [hk]
/-- Only some objects go on, numbered anew; those below m keep their numbers. -/
theorem Stays.call {T : TypeId → Option TI} {c0 : Cx} {S0 : Sto} {m0 : Nat} (h : Stays c0 S0 m0 c S) {b : List Nat} {S' : Sto} (hS : renS b S b 0 = some S') (hb : ∀ k, k < m0 → b[k]? = some k) : Stays c0 S0 m0 (c.call b) S' := by
  obtain ⟨h1, h2⟩ := renS_at hS
  refine .mk (fun id e k ver xs hi hr => ?_) (fun id t ls hi hr => ?_)
  · obtain ⟨o, g1, g2⟩ := h1 id id (hb id hi)
    rw [Nat.zero_add] at g2
    rw [g2] at hr
    subst hr
    have hg : geto S id = .row e k ver xs := by
      cases hgo : geto S id with
      | dead => rw [hgo] at g1; simp [renO] at g1
      | row e' k' v' xs' => rw [hgo] at g1; simp [renO] at g1; obtain ⟨rfl, rfl, rfl, rfl⟩ := g1; rfl
      | box t ls => rw [hgo] at g1; simp only [renO] at g1; split at g1 <;> simp at g1
    obtain ⟨k0, v0, x0, g3, g4⟩ := h.at hi hg
    rw [call_cur (hb id hi)]
    exact ⟨k0, v0, x0, g3, g4⟩
  · obtain ⟨o, g1, g2⟩ := h1 id id (hb id hi)
    rw [Nat.zero_add] at g2
    rw [g2] at hr
    subst hr
    have hg : ∃ ls', geto S id = .box t ls' := by
      cases hgo : geto S id with
      | dead => rw [hgo] at g1; simp [renO] at g1
      | row e' k' v' xs' => rw [hgo] at g1; simp [renO] at g1
      | box t' ls' =>
        rw [hgo] at g1; simp only [renO] at g1
        split at g1
        · simp at g1; obtain ⟨rfl, _⟩ := g1; exact ⟨_, rfl⟩
        · cases g1
    obtain ⟨ls', hg⟩ := hg
    obtain ⟨l0, g3, g4⟩ := h.atB hi hg
    rw [call_cur (hb id hi)]
    exact ⟨l0, g3, g4⟩
theorem Ext.call {w0 : World} {c0 : Cx} (h : Ext w0 c0 w c) (b : List Nat) : Ext w0 c0 w (c.call b) :=
  ⟨h.os, h.tape, h.output, h.size, h.keep, h.zup, h.znew, fun k z hz hx => by
    obtain ⟨id, _, h2⟩ := call_Xb hx
    exact h.xnew id z hz h2⟩

/-! ### new rows at version 0; nil as a row -/
theorem resetS_get {m : Nat} {S : Sto} : ∀ {l S' : Sto}, resetS m S l = some S' → ∀ k, resetO m S k (geto l k) = some (geto S' k)
  | [], S', h, k => by simp [resetS] at h; subst h; rfl
  | (k0, o) :: r, S', h, k => by
    simp only [resetS] at h
    split at h
    · rename_i x xs hx hxs
      cases h
      rw [geto_cons, geto_cons]
      split
      · rename_i e; subst e; exact hx
      · exact resetS_get hxs k
    · cases h
theorem curVer_iff {id v : Nat} (h : curVer S id v = true) : ∃ e k xs, geto S id = .row e k v xs := by
  unfold curVer at h
  split at h
  · rename_i e k v' xs hr
    rw [beq_t h]
    exact ⟨e, k, xs, hr⟩
  · cases h
theorem blt_t {a b : Nat} (h : Nat.blt a b = true) : a < b := Nat.le_of_ble_eq_true h
theorem blt_f {a b : Nat} (h : Nat.blt a b = false) : ¬ a < b := fun h' => by
  have : Nat.ble (a + 1) b = true := Nat.ble_eq_true_of_le h'
  have h2 : Nat.ble (a + 1) b = false := h
  rw [this] at h2; cases h2
theorem allLt_iff {m : Nat} : ∀ {l : List Nat}, allLt m l = true → ∀ x ∈ l, x < m
  | [], _, x, hx => by simp at hx
  | y :: r, h, x, hx => by
    simp only [allLt] at h
    split at h
    · rename_i hy
      rcases List.mem_cons.1 hx with rfl | hx
      · exact blt_t hy
      · exact allLt_iff h x hx
    · cases h
/-- What is reset: rows that lie at m or above, at version 0. -/
structure ResetOf (m : Nat) (S S' : Sto) : Prop where
  row : ∀ id e k v xs, geto S' id = .row e k v xs → ∃ v0, geto S id = .row e k v0 xs ∧ (id < m → v = v0) ∧ (m ≤ id → v = 0)
  box : ∀ id t ls, geto S' id = .box t ls → ∃ ls0, geto S id = .box t ls0 ∧ resetLs m S ls0 = some ls
  dead : ∀ id, geto S' id = .dead ↔ geto S id = .dead
theorem resetOf {m : Nat} {S S' : Sto} (h : resetS m S S = some S') : ResetOf m S S' := by
  have hg := resetS_get h
  refine ⟨fun id e k v xs hr => ?_, fun id t ls hr => ?_, fun id => ?_⟩
  · have := hg id
    cases ho : geto S id with
    | dead => rw [ho, hr] at this; simp [resetO] at this
    | box t ls => rw [ho, hr] at this; simp only [resetO] at this; split at this <;> simp at this
    | row e0 k0 v0 xs0 =>
      rw [ho, hr] at this
      simp only [resetO] at this
      split at this
      · rename_i hb
        simp at this
        obtain ⟨rfl, rfl, rfl, rfl⟩ := this
        exact ⟨_, rfl, fun _ => rfl, fun hle => by have := blt_t hb; omega⟩
      · rename_i hb
        simp at this
        obtain ⟨rfl, rfl, rfl, rfl⟩ := this
        exact ⟨_, rfl, fun hlt => absurd hlt (blt_f hb), fun _ => rfl⟩
  · have := hg id
    cases ho : geto S id with
    | dead => rw [ho, hr] at this; simp [resetO] at this
    | row e0 k0 v0 xs0 => rw [ho, hr] at this; simp only [resetO] at this; split at this <;> simp at this
    | box t0 ls0 =>
      rw [ho, hr] at this
      simp only [resetO] at this
      split at this
      · rename_i xs hxs
        simp at this
        obtain ⟨rfl, rfl⟩ := this
        exact ⟨_, rfl, hxs⟩
      · cases this
  · have := hg id
    cases ho : geto S id with
    | dead => rw [ho] at this; simp [resetO] at this; simp [this.symm]
    | row e k v xs =>
      rw [ho] at this
      simp only [resetO] at this
      split at this <;> (simp at this; simp [this.symm])
    | box t ls =>
      rw [ho] at this
      simp only [resetO] at this
      split at this
      · simp at this; simp [this.symm]
      · cases this
theorem resetL_sound {T : TypeId → Option TI} {m : Nat} {S' : Sto} (hR : ResetOf m S S') {l l' : L} {u : Value} (h : LR T w c S nx l u) (hl : resetL m S l = some l') : LR T w c S' nx l' u := by
  cases l with
  | sc v => simp [resetL] at hl; subst hl; exact h
  | kb b => simp [resetL] at hl; subst hl; exact h
  | ro e xs => simp [resetL] at hl; subst hl; exact h
  | rptr ks ds j => simp [resetL] at hl; subst hl; exact h
  | all id v =>
    obtain ⟨h1, h2, h3⟩ := h
    simp only [resetL] at hl
    split at hl
    · rename_i hb
      cases hl
      refine ⟨h1, h2, fun e k v' xs hr => ?_⟩
      obtain ⟨v0, g1, g2, g3⟩ := hR.row _ _ _ _ _ hr
      rw [g2 (blt_t hb)]
      exact h3 _ _ _ _ g1
    · rename_i hb
      split at hl
      · rename_i hv
        cases hl
        refine ⟨h1, h2, fun e k v' xs hr => ⟨Nat.zero_le _, fun _ => ?_⟩⟩
        obtain ⟨e0, k0, xs0, g4⟩ := curVer_iff hv
        exact (h3 _ _ _ _ g4).2 rfl
      · cases hl
  | part id v lo n =>
    obtain ⟨h1, h2, h3⟩ := h
    simp only [resetL] at hl
    split at hl
    · rename_i hb
      cases hl
      refine ⟨h1, h2, fun e k v' xs hr => ?_⟩
      obtain ⟨v0, g1, g2, g3⟩ := hR.row _ _ _ _ _ hr
      rw [g2 (blt_t hb)]
      exact h3 _ _ _ _ g1
    · rename_i hb
      split at hl
      · rename_i hv
        cases hl
        refine ⟨h1, h2, fun e k v' xs hr => ⟨Nat.zero_le _, fun _ => ?_⟩⟩
        obtain ⟨v0, g1, g2, g3⟩ := hR.row _ _ _ _ _ hr
        obtain ⟨e0, k0, xs0, g4⟩ := curVer_iff hv
        rw [g4] at g1
        cases g1
        exact (h3 _ _ _ _ g4).2 rfl
      · cases hl
  | ptr id v p j =>
    obtain ⟨h1, h2, h3, h4⟩ := h
    simp only [resetL] at hl
    split at hl
    · rename_i hb
      cases hl
      refine ⟨h1, h2, fun e k v' xs hr => ?_, fun t ls hr => ?_⟩
      · obtain ⟨v0, g1, g2, g3⟩ := hR.row _ _ _ _ _ hr
        rw [g2 (blt_t hb)]
        exact h3 _ _ _ _ g1
      · obtain ⟨ls0, g1, _⟩ := hR.box _ _ _ hr
        exact h4 _ _ g1
    · cases hl
  | fn f caps =>
    obtain ⟨h1, us, h2, h3, h4⟩ := h
    simp only [resetL] at hl
    split at hl
    · cases hl
      refine ⟨h1, us, h2, h3, fun q id hq => ?_⟩
      obtain ⟨x, g1, g2, g3⟩ := h4 q id hq
      refine ⟨x, g1, g2, fun t ls hr => ?_⟩
      obtain ⟨ls0, k1, _⟩ := hR.box _ _ _ hr
      exact g3 _ _ k1
    · cases hl
theorem resetLs_sound {T : TypeId → Option TI} {m : Nat} {S' : Sto} (hR : ResetOf m S S') : ∀ {ls ls' : List L} {us : List Value}, LRs T w c S nx ls us → resetLs m S ls = some ls' → LRs T w c S' nx ls' us
  | [], ls', us, h, hl => by
    simp [resetLs] at hl; subst hl
    obtain rfl := h.nil
    exact ⟨rfl, fun j l hj => by simp at hj⟩
  | l :: ls, ls', us, h, hl => by
    simp only [resetLs] at hl
    split at hl
    · rename_i x xs hx hxs
      cases hl
      obtain ⟨u, us', rfl, h1, h2⟩ := h.cons
      have g1 := resetL_sound hR h1 hx
      have g2 := resetLs_sound hR h2 hxs
      refine ⟨by simpa using g2.1, fun j l' hj => ?_⟩
      cases j with
      | zero => simp at hj; subst hj; exact ⟨u, rfl, g1⟩
      | succ j => simpa using g2.2 j l' (by simpa using hj)
    · cases hl
theorem resetV1_sound {T : TypeId → Option TI} {m : Nat} {S' : Sto} (hR : ResetOf m S S') {v v' : V} {u : Value} (h : VR T w c S nx v u) (hl : resetV1 m S v = some v') : VR T w c S' nx v' u := by
  cases h with
  | one h =>
    simp only [resetV1] at hl
    split at hl
    · rename_i x hx; cases hl; exact .one (resetL_sound hR h hx)
    · cases hl
  | agg h =>
    simp only [resetV1] at hl
    split at hl
    · rename_i x hx; cases hl; exact .agg (resetLs_sound hR h hx)
    · cases hl
  | tup h1 h2 => simp [resetV1] at hl
  | junk => simp [resetV1] at hl
theorem resetVs_sound {T : TypeId → Option TI} {m : Nat} {S' : Sto} (hR : ResetOf m S S') : ∀ {vs vs' : List V}, resetVs m S vs = some vs' → vs'.length = vs.length ∧ ∀ (j : Nat) (v' : V), vs'[j]? = some v' → ∃ v, vs[j]? = some v ∧ resetV1 m S v = some v'
  | [], vs', h => by simp [resetVs] at h; subst h; exact ⟨rfl, fun j v' hj => by simp at hj⟩
  | v :: vs, vs', h => by
    simp only [resetVs] at h
    split at h
    · rename_i x xs hx hxs
      cases h
      obtain ⟨g1, g2⟩ := resetVs_sound (T := T) hR hxs
      refine ⟨by simp [g1], fun j v' hj => ?_⟩
      cases j with
      | zero => simp at hj; subst hj; exact ⟨v, rfl, hx⟩
      | succ j => simpa using g2 j v' (by simpa using hj)
    · cases h
theorem resetV_sound {T : TypeId → Option TI} {m : Nat} {S' : Sto} (hR : ResetOf m S S') {v v' : V} {u : Value} (h : VR T w c S nx v u) (hl : resetV m S v = some v') : VR T w c S' nx v' u := by
  cases v with
  | tup vs =>
    simp only [resetV] at hl
    split at hl
    · rename_i xs hxs
      cases hl
      cases h with
      | @tup _ us hl' hv' =>
        obtain ⟨g1, g2⟩ := resetVs_sound (T := T) hR hxs
        refine .tup (by rw [g1]; exact hl') fun j v' u h1 h2 => ?_
        obtain ⟨v, g3, g4⟩ := g2 j v' h1
        exact resetV1_sound hR (hv' j v u g3 h2) g4
    · cases hl
  | one l => exact resetV1_sound hR h hl
  | agg ls => exact resetV1_sound hR h hl
  | junk => exact resetV1_sound hR h hl
theorem resetS_sat {T : TypeId → Option TI} {m : Nat} {S' : Sto} (hR : ResetOf m S S') (hs : Sat T w c S nx) : Sat T w c S' nx := by
  refine ⟨fun id => ?_, fun id hid => (hR.dead id).2 (hs.lt id hid), hs.disj, hs.xz, hs.zlt, hs.xlt⟩
  cases hg : geto S' id with
  | dead =>
    have h0 := hs.os id
    rw [(hR.dead id).1 hg] at h0
    exact h0
  | row e k v xs =>
    obtain ⟨v0, h1, _⟩ := hR.row _ _ _ _ _ hg
    have h0 := hs.os id
    rw [h1] at h0
    cases k <;> exact h0
  | box t ls =>
    obtain ⟨ls0, h1, h2⟩ := hR.box _ _ _ hg
    have h0 := hs.os id
    rw [h1] at h0
    obtain ⟨b, arr, g1, g2, g3, g4⟩ := h0
    exact ⟨b, arr, g1, g2, g3, resetLs_sound hR g4 h2⟩

theorem geto_append : ∀ (S T : Sto) (id : Nat), geto (S ++ T) id = if hasKey id S = true then geto S id else geto T id
  | [], T, id => by simp [hasKey]
  | (k, o) :: S, T, id => by
    rw [List.cons_append, geto_cons, geto_cons, geto_append S T id]
    simp only [hasKey]
    by_cases h : k = id
    · subst h; simp
    · have : Nat.beq k id = false := by
        cases hb : Nat.beq k id with
        | false => rfl
        | true => exact absurd (beq_t hb) h
      simp [h, this]
theorem geto_noKey : ∀ {S : Sto} {id : Nat}, hasKey id S = false → geto S id = .dead
  | [], id, _ => rfl
  | (k, o) :: S, id, h => by
    simp only [hasKey] at h
    split at h
    · cases h
    · rename_i hb
      rw [geto_cons, if_neg (beq_f hb)]
      exact geto_noKey h
theorem geto_add {S : Sto} {n id : Nat} {o : O} (h : hasKey n S = false) : geto (S ++ [(n, o)]) id = if id = n then o else geto S id := by
  rw [geto_append]
  by_cases he : id = n
  · subst he; simp [h, geto_cons]
  · rw [if_neg he]
    split
    · rfl
    · rename_i hk
      rw [geto_cons, if_neg (Ne.symm he), geto_noKey (S := S) (by simpa using hk)]
      rfl
theorem nilRow {T : TypeId → Option TI} {n : Nat} (hs : Sat T w c S n) (e : TypeId) (hk : hasKey n S = false) :
    Step T w c S n w (c.new n (.slice none 0 0) fun _ => False) (S ++ [(n, .row e .tree 0 [])]) (n + 1) ∧ LR T w (c.new n (.slice none 0 0) fun _ => False) (S ++ [(n, .row e .tree 0 [])]) (n + 1) (.all n 0) (.slice none 0 0) := by
  have hst : Stays c S n (c.new n (.slice none 0 0) fun _ => False) (S ++ [(n, .row e .tree 0 [])]) := by
    refine .mk (fun id e' k ver xs hi hr => ?_) (fun id t ls hi hr => ?_)
    · rw [geto_add hk, if_neg (by omega)] at hr
      exact ⟨k, ver, xs, hr, .inr ⟨rfl, rfl, up_other _ _ _ (by omega)⟩⟩
    · rw [geto_add hk, if_neg (by omega)] at hr
      exact ⟨ls, hr, up_other _ _ _ (by omega)⟩
  have hX : ∀ id b, (c.new n (.slice none 0 0) fun _ => False).X id b → c.X id b := fun id b h => by
    simp only [Cx.new, up] at h
    split at h
    · exact h.elim
    · exact h
  refine ⟨⟨hs.of hst (by omega) (Nat.le_refl _) (fun _ h => h) (fun _ _ => rfl) (fun id => ?_) (fun id hid => ?_) (fun id id' b h1 h2 => hs.disj id id' b (hX _ _ h1) (hX _ _ h2)) (fun id b h1 => hs.xz id b (hX _ _ h1)) hs.zlt (fun id b h1 => hs.xlt id b (hX _ _ h1)),
    ⟨rfl, rfl, rfl, Nat.le_refl _, fun _ _ _ => rfl, fun _ h => h, fun _ _ h => .inl h, fun id b _ h => ⟨id, hX _ _ h⟩⟩, hst, by omega⟩, by omega, ⟨_, _, _, rfl⟩, fun e' k ver' xs hr => ?_⟩
  · by_cases hid : id = n
    · subst hid
      refine .inl ?_
      rw [geto_add hk, if_pos rfl]
      simp only [OS, Cx.new, up_same]
      exact .nil fun _ h => h
    · exact .inr ⟨by rw [geto_add hk, if_neg hid], up_other _ _ _ hid, up_other _ _ _ hid, fun _ _ => rfl⟩
  · rw [geto_add hk, if_neg (by omega)]
    exact hs.lt id (by omega)
  · rw [geto_add hk, if_pos rfl] at hr
    cases hr
    exact ⟨Nat.le_refl _, fun _ => (up_same _ _ _).symm⟩
theorem fillL1_sound {T : TypeId → Option TI} {n : Nat} {κ : LK} {l : L} {u : Value} (hs : Sat T w c S n) (h : LR T w c S n l u) :
    ∃ c', Step T w c S n w c' (fillL1 κ l S n).2.1 (fillL1 κ l S n).2.2 ∧ LR T w c' (fillL1 κ l S n).2.1 (fillL1 κ l S n).2.2 (fillL1 κ l S n).1 u := by
  unfold fillL1
  split
  · rename_i hk
    obtain ⟨h1, h2⟩ := nilRow hs _ hk
    obtain ⟨rfl, _⟩ := h
    exact ⟨_, h1, h2⟩
  · exact ⟨c, Step.refl hs, h⟩
theorem fillLs1_sound {T : TypeId → Option TI} : ∀ {ks : List LK} {ls : List L} {us : List Value} {c : Cx} {S : Sto} {n : Nat}, Sat T w c S n → LRs T w c S n ls us →
    ∃ c', Step T w c S n w c' (fillLs1 ks ls S n).2.1 (fillLs1 ks ls S n).2.2 ∧ LRs T w c' (fillLs1 ks ls S n).2.1 (fillLs1 ks ls S n).2.2 (fillLs1 ks ls S n).1 us
  | [], ls, us, c, S, n, hs, h => by simp only [fillLs1]; exact ⟨c, Step.refl hs, h⟩
  | κ :: ks, [], us, c, S, n, hs, h => by simp only [fillLs1]; exact ⟨c, Step.refl hs, h⟩
  | κ :: ks, l :: ls, us, c, S, n, hs, h => by
    obtain ⟨u, us', rfl, h1, h2⟩ := h.cons
    obtain ⟨c1, g1, g2⟩ := fillL1_sound (κ := κ) hs h1
    have g3 : LRs T w c1 (fillL1 κ l S n).2.1 (fillL1 κ l S n).2.2 ls us' := h2.step g1.st g1.nx (g1.ext.zkeep hs) g1.ext.zup
    obtain ⟨c2, g4, g5⟩ := fillLs1_sound (ks := ks) g1.sat g3
    simp only [fillLs1]
    refine ⟨c2, g1.trans g4, by simpa using g5.1, fun j l' hj => ?_⟩
    cases j with
    | zero => simp at hj; subst hj; exact ⟨u, rfl, g2.step g4.st g4.nx (g4.ext.zkeep g1.sat) g4.ext.zup⟩
    | succ j => simpa using g5.2 j l' (by simpa using hj)
theorem fillLs1_len : ∀ {ks : List LK} {ls : List L} {S : Sto} {n : Nat}, (fillLs1 ks ls S n).1.length = ls.length
  | [], ls, S, n => by simp only [fillLs1]
  | κ :: ks, [], S, n => by simp only [fillLs1]
  | κ :: ks, l :: ls, S, n => by simp only [fillLs1, List.length_cons]; rw [fillLs1_len]
theorem fillV1_sound {T : TypeId → Option TI} {n : Nat} {t : TypeId} {v : V} {u : Value} (hs : Sat T w c S n) (h : VR T w c S n v u) :
    ∃ c', Step T w c S n w c' (fillV1 T t v S n).2.1 (fillV1 T t v S n).2.2 ∧ VR T w c' (fillV1 T t v S n).2.1 (fillV1 T t v S n).2.2 (fillV1 T t v S n).1 u := by
  unfold fillV1
  split
  · rename_i i l hi
    have h1 : LRs T w c S n [l] [u] := ⟨rfl, fun j l' hj => by
      cases j with
      | zero => simp at hj; subst hj; exact ⟨u, rfl, h.inv1⟩
      | succ j => simp at hj⟩
    obtain ⟨c', g1, g2⟩ := fillLs1_sound (ks := i.ks) hs h1
    split
    · rename_i l' S' n' he
      rw [he] at g1 g2
      obtain ⟨u', g3, g4⟩ := g2.2 0 l' rfl
      simp at g3; subst g3
      exact ⟨c', g1, .one g4⟩
    · exact ⟨c, Step.refl hs, h⟩
  · rename_i i ls hi
    cases h with
    | agg h =>
      obtain ⟨c', g1, g2⟩ := fillLs1_sound (ks := i.ks) hs h
      exact ⟨c', g1, .agg g2⟩
  · exact ⟨c, Step.refl hs, h⟩
theorem fillVs_sound {T : TypeId → Option TI} : ∀ {ts : List TypeId} {vs : List V} {us : List Value} {c : Cx} {S : Sto} {n : Nat}, Sat T w c S n → us.length = vs.length → (∀ (j : Nat) (v : V) (u : Value), vs[j]? = some v → us[j]? = some u → VR T w c S n v u) →
    ∃ c', Step T w c S n w c' (fillVs T ts vs S n).2.1 (fillVs T ts vs S n).2.2 ∧ us.length = (fillVs T ts vs S n).1.length ∧ ∀ (j : Nat) (v : V) (u : Value), (fillVs T ts vs S n).1[j]? = some v → us[j]? = some u → VR T w c' (fillVs T ts vs S n).2.1 (fillVs T ts vs S n).2.2 v u
  | [], vs, us, c, S, n, hs, hl, h => by simp only [fillVs]; exact ⟨c, Step.refl hs, hl, h⟩
  | t :: ts, [], us, c, S, n, hs, hl, h => by simp only [fillVs]; exact ⟨c, Step.refl hs, hl, h⟩
  | t :: ts, v :: vs, us, c, S, n, hs, hl, h => by
    cases us with
    | nil => simp at hl
    | cons u us =>
      obtain ⟨c1, g1, g2⟩ := fillV1_sound (t := t) hs (h 0 v u rfl rfl)
      obtain ⟨c2, g4, g5, g6⟩ := fillVs_sound (ts := ts) (vs := vs) (us := us) g1.sat (by simpa using hl) fun j v' u' h1 h2 => g1.vr hs (h (j + 1) v' u' (by simpa using h1) (by simpa using h2))
      simp only [fillVs]
      refine ⟨c2, g1.trans g4, by simp [g5], fun j v' u' h1 h2 => ?_⟩
      cases j with
      | zero => simp at h1 h2; subst h1; subst h2; exact g4.vr g1.sat g2
      | succ j => exact g6 j v' u' (by simpa using h1) (by simpa using h2)
theorem fillV_sound {T : TypeId → Option TI} {n : Nat} {ts : List TypeId} {v : V} {u : Value} (hs : Sat T w c S n) (h : VR T w c S n v u) :
    ∃ c', Step T w c S n w c' (fillV T ts v S n).2.1 (fillV T ts v S n).2.2 ∧ VR T w c' (fillV T ts v S n).2.1 (fillV T ts v S n).2.2 (fillV T ts v S n).1 u := by
  unfold fillV
  split
  · rename_i vs ts
    cases h with
    | @tup _ us hl hv =>
      obtain ⟨c', g1, g2, g3⟩ := fillVs_sound (us := us.toList) hs (by simpa using hl) fun j v u h1 h2 => hv j v u h1 (by simpa using h2)
      exact ⟨c', g1, .tup (by simpa using g2) fun j v u h1 h2 => g3 j v u h1 (by simpa using h2)⟩
  · exact fillV1_sound hs h
  · exact ⟨c, Step.refl hs, h⟩
theorem canon_sound {T : TypeId → Option TI} {w0 : World} {c0 : Cx} {S0 : Sto} {m n : Nat} {r : V} {u : Value} (hs : Sat T w c S n) (hr : VR T w c S n r u) (he : Ext w0 c0 w c) (hst : Stays c0 S0 m c S) (hm : m ≤ n) (ts : List TypeId) :
    ∃ c', Sat T w c' (canon T m ts r S n).2.1 (canon T m ts r S n).2.2 ∧ VR T w c' (canon T m ts r S n).2.1 (canon T m ts r S n).2.2 (canon T m ts r S n).1 u ∧ Ext w0 c0 w c' ∧ Stays c0 S0 m c' (canon T m ts r S n).2.1 ∧ m ≤ (canon T m ts r S n).2.2 := by
  have fin : ∀ {r : V} {S : Sto}, Sat T w c S n → VR T w c S n r u → Stays c0 S0 m c S → ∃ c', Sat T w c' (fillV T ts r S n).2.1 (fillV T ts r S n).2.2 ∧ VR T w c' (fillV T ts r S n).2.1 (fillV T ts r S n).2.2 (fillV T ts r S n).1 u ∧ Ext w0 c0 w c' ∧ Stays c0 S0 m c' (fillV T ts r S n).2.1 ∧ m ≤ (fillV T ts r S n).2.2 := by
    intro r S hs hr hst
    obtain ⟨c', g1, g2⟩ := fillV_sound (ts := ts) hs hr
    exact ⟨c', g1.sat, g2, he.trans g1.ext, hst.trans (g1.st.le hm) (Nat.le_refl _), Nat.le_trans hm g1.nx⟩
  unfold canon
  split
  · rename_i r' S' hr' hS'
    have hR := resetOf hS'
    refine fin (resetS_sat hR hs) (resetV_sound hR hr hr') ?_
    refine .mk (fun id e k ver xs hi hg => ?_) (fun id t ls hi hg => ?_)
    · obtain ⟨v0, g1, g2, _⟩ := hR.row _ _ _ _ _ hg
      rw [g2 hi]
      exact hst.at hi g1
    · obtain ⟨ls0, g1, _⟩ := hR.box _ _ _ hg
      exact hst.atB hi g1
  · exact fin hs hr hst

/-- Where the parameters lie. -/
def frameOf : List V → Nat → Frm
  | [], _ => []
  | v :: vs, i => (i, v) :: frameOf vs (i + 1)
theorem frameOf_get : ∀ (vs : List V) (i t : Nat), get (frameOf vs i) t = if i ≤ t ∧ t < i + vs.length then vs.getD (t - i) .junk else .junk
  | [], i, t => by simp [frameOf, get]
  | v :: vs, i, t => by
    simp only [frameOf, get_cons]
    by_cases h : i = t
    · subst h; simp
    · rw [if_neg h, frameOf_get vs (i + 1) t]
      by_cases h1 : i + 1 ≤ t ∧ t < i + 1 + vs.length
      · rw [if_pos h1, if_pos (by simp; omega)]
        rw [show t - i = (t - (i + 1)) + 1 by omega]
        simp
      · rw [if_neg h1, if_neg (by simp; omega)]

theorem LR.norm {T : TypeId → Option TI} {l : L} {u : Value} (h : LR T w c S nx l u) : LR T w c S nx (normL l) u := by
  cases l with
  | kb b => cases h; exact LR.boolv b
  | _ => exact h
theorem normLs_eq : ∀ (ls : List L), normLs ls = ls.map normL
  | [] => rfl
  | l :: ls => by simp [normLs, normLs_eq ls]
theorem normVs_eq : ∀ (vs : List V), normVs vs = vs.map normV1
  | [] => rfl
  | v :: vs => by simp [normVs, normVs_eq vs]
theorem VR.norm1 {T : TypeId → Option TI} {v : V} {u : Value} (h : VR T w c S nx v u) : VR T w c S nx (normV1 v) u := by
  cases h with
  | one h => exact .one h.norm
  | agg h =>
    refine .agg ?_
    rw [normLs_eq]
    refine ⟨by simpa using h.1, fun j l hj => ?_⟩
    rw [List.getElem?_map] at hj
    rename_i ls us
    cases hl : ls[j]? with
    | none => rw [hl] at hj; cases hj
    | some l0 =>
      rw [hl] at hj
      cases hj
      obtain ⟨u, h1, h2⟩ := h.2 j l0 hl
      exact ⟨u, h1, h2.norm⟩
  | tup hl h => exact .tup hl h
  | junk => exact .junk
theorem VR.norm {T : TypeId → Option TI} {v : V} {u : Value} (h : VR T w c S nx v u) : VR T w c S nx (normV v) u := by
  cases v with
  | tup vs =>
    cases h with
    | @tup _ us hl h =>
      refine .tup (by rw [normVs_eq]; simpa using hl) fun j v u hj hu => ?_
      rw [normVs_eq, List.getElem?_map] at hj
      cases hv : vs[j]? with
      | none => rw [hv] at hj; cases hj
      | some v0 =>
        rw [hv] at hj
        cases hj
        exact (h j v0 u hv hu).norm1
  | one l => exact h.norm1
  | agg ls => exact h.norm1
  | junk => exact h.norm1
def fnOk (fn : Func) : Bool := fn.name != "runtime.NumGoroutine"
theorem VC.intro {C : Cfg} (hT : TOk C.P C.T) (hM : C.P.follows .mixedOrders = true) {f : FuncId} {fn : Func} {body : Code} (hf : C.P.funcs[f]? = some fn) (hb : fn.body = some body) (hname : fnOk fn = true) (hc : codeOk fn.ntmps body = true) {args : List V} {S : Sto} {nx : Nat} {post : V → Sto → Nat → Prop} (hl : args.length ≤ fn.ntmps)
    (h : wp C nx body (retwp C fn.results.toList fn.resultTypes.toList nx post) (frameOf args 0) S nx) : VC C.P C.T f args S nx post := by
  unfold VC
  intro w c us hs hlen hv
  refine .inl ⟨?_, ?_⟩
  · have : fn.name ≠ "runtime.NumGoroutine" := by simpa [fnOk] using hname
    simp [callFunc, hf, hb, this]
  · refine calls_of_wp hf hb ?_
    have hat : At C fn.ntmps [] w c S nx (frameOf args 0) { tmps := us.toArray ++ Array.replicate (fn.ntmps - us.toArray.size) undef, defers := [] } := by
      refine ⟨hs, fun t => ?_, by simp; omega, rfl⟩
      rw [frameOf_get]
      split
      · rename_i ht
        simp only [Nat.zero_add, Nat.zero_le, true_and] at ht
        have h1 : args[t]? = some args[t] := List.getElem?_eq_getElem ht
        have h2 : t < us.length := by omega
        have h3 : us[t]? = some us[t] := List.getElem?_eq_getElem h2
        have h4 := hv t _ _ h1 h3
        have h5 : args.getD (t - 0) .junk = args[t] := by simp [List.getD, h1]
        have h6 : (us.toArray ++ Array.replicate (fn.ntmps - us.toArray.size) undef).getD t undef = us[t] := by
          rw [Array.getD_eq_getD_getElem?, Array.getElem?_append_left (by simpa using h2)]
          simp [h3]
        rw [h5, h6]
        exact h4
      · exact .junk
    refine wp_sound hT hM (m0 := nx) (w0 := w) (c0 := c) (S0 := S) body hc ⟨c, hat, Ext.refl _ _, Stays.refl _ _ _, Nat.le_refl _⟩ h fun e F' S' nx' a' w' hp hr => ?_
    have fin : (match retV C fn.results.toList F' S' with
        | some r => fNs (close S' 3 (addAll (retwp.first nx) (retwp.idsTop r))) fun b =>
          match retwp.renTop b r, renS b S' b 0 with
          | some r', some S'' => fV (normV r') fun r1 => fS S'' fun S1 => match canon C.T nx fn.resultTypes.toList r1 S1 b.length with
            | (r2, S2, n2) => fV r2 fun r2 => fS S2 fun S2 => fN n2 fun n2 => post r2 S2 n2
          | _, _ => False
        | none => False) → ∃ v, a'.defers = [] ∧ (results fn a'.tmps).run C.P w' = .ok v w' ∧ ∃ u r S'' nx'' c', Ending.returned v = .returned u ∧ nx ≤ nx'' ∧ Sat C.T w' c' S'' nx'' ∧ VR C.T w' c' S'' nx'' r u ∧ Ext w c w' c' ∧ Stays c S nx c' S'' ∧ post r S'' nx'' := by
      intro hp
      obtain ⟨c1, hat', hext, hst, hle⟩ := hr
      split at hp
      · rename_i r hret
        replace hp := fNs_eq hp
        generalize hb1 : close S' 3 (addAll (retwp.first nx) (retwp.idsTop r)) = b at hp
        split at hp
        · rename_i r1 S1 hr1 hS1
          replace hp := fS_eq (fV_eq hp)
          have hpost := fN_eq (fS_eq (fV_eq hp))
          obtain ⟨u, c2, g1, g2, g3⟩ := retV_sound hT hat' hret
          have hsub : nx ≤ b.length ∧ Sat C.T w' (c2.call b) S1 b.length ∧ VR C.T w' (c2.call b) S1 b.length (normV r1) u ∧ Ext w c w' (c2.call b) ∧ Stays c S nx (c2.call b) S1 := by
            obtain ⟨r0, hpre⟩ : ∃ r0, b = List.range nx ++ r0 := by
              obtain ⟨q1, e1⟩ := addAll_pre (retwp.idsTop r) (retwp.first nx)
              obtain ⟨q2, e2⟩ := close_pre S' 3 (addAll (retwp.first nx) (retwp.idsTop r))
              exact ⟨q1 ++ q2, by rw [← hb1, e2, e1, first_eq]; simp⟩
            have hn : b.Nodup := by
              rw [← hb1]
              exact close_nodup _ _ _ (addAll_nodup _ _ (by rw [first_eq]; exact List.nodup_range))
            have hsat := g2.sat.call hn hS1
            have hst2 := (hst.trans (g2.st.le hle) (Nat.le_refl _)).call (T := C.T) hS1 fun k hk => pre_get hpre hk
            have hext2 := (hext.trans g2.ext).call b
            refine ⟨by rw [hpre]; simp, hsat, VR.norm ?_, hext2, hst2⟩
            have fin1 : ∀ r, renV1 b r = some r1 → VR C.T w' c2 S' nx' r u → VR C.T w' (c2.call b) S1 b.length r1 u := fun r hr1 g3 => by
              obtain ⟨k1, k2⟩ := renVs_sound hS1 (vs := [r]) (vs' := [r1]) (us := [u]) (by simp [renVs, hr1]) rfl fun j v u' h1 h2 => by
                cases j with
                | zero => simp at h1 h2; subst h1; subst h2; exact g3
                | succ j => simp at h1
              exact k2 0 r1 u rfl rfl
            cases r with
            | tup vs =>
              simp only [retwp.renTop] at hr1
              split at hr1
              · rename_i xs hxs
                cases hr1
                cases g3 with
                | @tup _ us' hl' hv' =>
                  obtain ⟨k1, k2⟩ := renVs_sound hS1 hxs (us := us'.toList) (by simpa using hl') fun j v u h1 h2 => hv' j v u h1 (by simpa using h2)
                  exact .tup (by simpa using k1) fun j v u h1 h2 => k2 j v u h1 (by simpa using h2)
              · cases hr1
            | one l => exact fin1 (.one l) hr1 g3
            | agg ls => exact fin1 (.agg ls) hr1 g3
            | junk => exact fin1 .junk hr1 g3
          obtain ⟨q1, q2, q3, q4, q5⟩ := hsub
          obtain ⟨c3, k1, k2, k3, k4, k5⟩ := canon_sound (T := C.T) q2 q3 q4 q5 q1 fn.resultTypes.toList
          exact ⟨u, hat'.defs, g1, u, _, _, _, c3, rfl, k5, k1, k2, k3, k4, hpost⟩
        · exact hp.elim
      · exact hp.elim
    cases e with
    | normal => obtain ⟨v, h1, h2, h3⟩ := fin hp; exact ⟨h1, v, h2, h3⟩
    | ret => obtain ⟨v, h1, h2, h3⟩ := fin hp; exact ⟨h1, v, h2, h3⟩
    | _ => exact hp.elim
end Go.Proofs.Ytodhnbjncmihkaa.V
end

section
/- The symbolic machine V: the table of types; steps that only tell anew. -/
set_option linter.unusedVariables false
set_option linter.unusedSimpArgs false
namespace Go.Proofs.Ytodhnbjncmihkaa.V
open Go
theorem tok_of {P : Program} {T : TypeId → Option TI} {N : Nat} (h : (List.range N).all (fun t => match T t with | none => true | some i => tyOk P t i) = true) (hN : ∀ n, Nat.blt n N = false → T n = none) : TOk P T := by
  intro t i hi
  by_cases hlt : t < N
  · have := List.all_eq_true.1 h t (List.mem_range.2 hlt)
    rw [hi] at this
    exact this
  · have : Nat.blt t N = false := by
      cases hb : Nat.blt t N with
      | false => rfl
      | true => exact absurd (Nat.le_of_ble_eq_true hb) hlt
    rw [hN t this] at hi
    cases hi
/-- What is asked of a function's text. -/
def fnChk (fn : Func) (k : Nat) : Bool :=
  match fn.body with
  | some b => fnOk fn && codeOk fn.ntmps b && Nat.ble k fn.ntmps
  | none => false
/-- A function, run. -/
def wpF (C : Cfg) (fn : Func) (args : List V) (S : Sto) (nx : Nat) (post : V → Sto → Nat → Prop) : Prop :=
  match fn.body with
  | some b => wp C nx b (retwp C fn.results.toList fn.resultTypes.toList nx post) (frameOf args 0) S nx
  | none => False
/-- What is known of values that are handed in. -/
def factL : L → Prop → Prop
  | .sc (.int k n), p => rng k n → p
  | .sc (.string s), p => s.size ≤ 9223372036854775807 → p
  | .ro _ xs, p => xs.length ≤ 9223372036854775807 → p
  | _, p => p
def factLs : List L → Prop → Prop
  | [], p => p
  | l :: ls, p => factL l (factLs ls p)
def factVs : List V → Prop → Prop
  | [], p => p
  | .one l :: vs, p => factL l (factVs vs p)
  | .agg ls :: vs, p => factLs ls (factVs vs p)
  | _ :: vs, p => factVs vs p
variable {T : TypeId → Option TI} {w : World} {c : Cx} {S : Sto} {nx : Nat}
theorem factL_sound {l : L} {u : Value} (h : LR T w c S nx l u) {p : Prop} (hp : factL l p) : p := by
  unfold factL at hp
  split at hp
  · exact hp (h.2.2.1 _ _ rfl)
  · exact hp (h.2.2.2 _ rfl)
  · rename_i e xs
    have h : Rd T w c.Z (.sl e) (.sl xs) u := h
    refine hp ?_
    cases h with
    | nil => simp
    | sl u hT hm => exact hm
  · exact hp
theorem factLs_sound : ∀ {ls : List L} {us : List Value}, LRs T w c S nx ls us → ∀ {p : Prop}, factLs ls p → p
  | [], us, h, p, hp => hp
  | l :: ls, us, h, p, hp => by
    obtain ⟨u, us', rfl, h1, h2⟩ := h.cons
    exact factLs_sound h2 (factL_sound h1 hp)
theorem factVs_sound : ∀ {vs : List V} {us : List Value}, us.length = vs.length → (∀ (j : Nat) (v : V) (u : Value), vs[j]? = some v → us[j]? = some u → VR T w c S nx v u) → ∀ {p : Prop}, factVs vs p → p
  | [], us, hl, hv, p, hp => hp
  | v :: vs, us, hl, hv, p, hp => by
    cases us with
    | nil => simp at hl
    | cons u us =>
      have ih := fun {p} => factVs_sound (vs := vs) (us := us) (by simpa using hl) (fun j v u h1 h2 => hv (j + 1) v u (by simpa using h1) (by simpa using h2)) (p := p)
      have h0 := hv 0 v u rfl rfl
      cases v with
      | one l => exact ih (factL_sound h0.inv1 hp)
      | agg ls => cases h0 with | agg h0 => exact ih (factLs_sound h0 hp)
      | tup vs => exact ih hp
      | junk => exact ih hp
theorem VC.run {C : Cfg} (hT : TOk C.P C.T) (hM : C.P.follows .mixedOrders = true) {f : FuncId} {fn : Func} (hf : C.P.funcs[f]? = some fn) {args : List V} {S : Sto} {nx : Nat} {post : V → Sto → Nat → Prop} (hc : fnChk fn args.length = true)
    (h : factVs args (wpF C fn args S nx post)) : VC C.P C.T f args S nx post := by
  have key : wpF C fn args S nx post → VC C.P C.T f args S nx post := fun h => by
    unfold fnChk at hc
    unfold wpF at h
    split at h
    · rename_i b hb
      rw [hb] at hc
      simp only [Bool.and_eq_true] at hc
      exact VC.intro hT hM hf hb hc.1.1 hc.1.2 (Nat.le_of_ble_eq_true hc.2) h
    · exact h.elim
  unfold VC
  intro w c us hs hl hv
  have h1 := key (factVs_sound hl hv h)
  unfold VC at h1
  exact h1 w c us hs hl hv

/-! ### steps that only tell anew -/
theorem Le.refl (T : TypeId → Option TI) (m0 : Nat) (s : St) : Le T m0 s s := by
  unfold Le
  exact fun hm w c tmps h => ⟨c, h, Ext.refl _ _, Stays.refl _ _ _, hm⟩
theorem Le.trans {m0 : Nat} {s t r : St} (h : Le T m0 s t) (h' : Le T m0 t r) : Le T m0 s r := by
  unfold Le at *
  intro hm w c tmps hs
  obtain ⟨c1, h1, h2, h3, h4⟩ := h hm w c tmps hs
  obtain ⟨c2, h5, h6, h7, h8⟩ := h' h4 w c1 tmps h1
  exact ⟨c2, h5, h2.trans h6, h3.trans h7 (Nat.le_refl _), h8⟩
def isPre : Nat → List Nat → Nat → Bool
  | 0, _, _ => true
  | _ + 1, [], _ => false
  | m + 1, x :: r, i => match Nat.beq x i with | true => isPre m r (i + 1) | false => false
theorem isPre_get : ∀ {m : Nat} {b : List Nat} {i : Nat}, isPre m b i = true → ∀ k, k < m → b[k]? = some (i + k)
  | 0, b, i, _, k, hk => by omega
  | m + 1, [], i, h, k, hk => by simp [isPre] at h
  | m + 1, x :: r, i, h, k, hk => by
    simp only [isPre] at h
    split at h
    · rename_i hx
      cases k with
      | zero => simp [beq_t hx]
      | succ k =>
        have := isPre_get h k (by omega)
        rw [show i + (k + 1) = i + 1 + k by omega]
        simpa using this
    · cases h
def nodupB : List Nat → Bool
  | [] => true
  | x :: r => match mem x r with | true => false | false => nodupB r
theorem nodupB_iff : ∀ {b : List Nat}, nodupB b = true → b.Nodup
  | [], _ => List.nodup_nil
  | x :: r, h => by
    simp only [nodupB] at h
    split at h
    · cases h
    · rename_i hm
      exact List.nodup_cons.2 ⟨mem_not hm, nodupB_iff h⟩
/-- What a place held, numbered anew. -/
def frEq (b : List Nat) (F : Frm) : Frm → Prop
  | [] => True
  | (t, v) :: r => retwp.renTop b (normV (get F t)) = some v ∧ frEq b F r
def stEq (b : List Nat) (S : Sto) : List Nat → Nat → Sto → Prop
  | [], _, [] => True
  | id :: r, k, (k', o) :: S' => (k' = k ∧ renO b (geto S id) = some o) ∧ stEq b S r (k + 1) S'
  | _, _, _ => False
theorem stEq_iff {b : List Nat} {S : Sto} : ∀ {l : List Nat} {k : Nat} {S' : Sto}, stEq b S l k S' → renS b S l k = some S'
  | [], k, [], _ => rfl
  | [], k, _ :: _, h => h.elim
  | id :: r, k, [], h => h.elim
  | id :: r, k, (k', o) :: S', h => by
    obtain ⟨⟨rfl, h1⟩, h2⟩ := h
    simp [renS, h1, stEq_iff h2]
theorem renTop_sound {b : List Nat} {S' : Sto} (hS : renS b S b 0 = some S') {v v' : V} {u : Value} (h : retwp.renTop b v = some v') (hv : VR T w c S nx v u) : VR T w (c.call b) S' b.length v' u := by
  have fin1 : ∀ r, renV1 b r = some v' → VR T w c S nx r u → VR T w (c.call b) S' b.length v' u := fun r hr1 g3 => by
    obtain ⟨k1, k2⟩ := renVs_sound hS (vs := [r]) (vs' := [v']) (us := [u]) (by simp [renVs, hr1]) rfl fun j v u' h1 h2 => by
      cases j with
      | zero => simp at h1 h2; subst h1; subst h2; exact g3
      | succ j => simp at h1
    exact k2 0 v' u rfl rfl
  cases v with
  | tup vs =>
    simp only [retwp.renTop] at h
    split at h
    · rename_i xs hxs
      cases h
      cases hv with
      | @tup _ us' hl' hv' =>
        obtain ⟨k1, k2⟩ := renVs_sound hS hxs (us := us'.toList) (by simpa using hl') fun j v u h1 h2 => hv' j v u h1 (by simpa using h2)
        exact .tup (by simpa using k1) fun j v u h1 h2 => k2 j v u h1 (by simpa using h2)
    · cases h
  | one l => exact fin1 (.one l) h hv
  | agg ls => exact fin1 (.agg ls) h hv
  | junk => exact fin1 .junk h hv
theorem frEq_get {b : List Nat} {F : Frm} : ∀ {F' : Frm}, frEq b F F' → ∀ t, get F' t = .junk ∨ retwp.renTop b (normV (get F t)) = some (get F' t)
  | [], _, t => .inl rfl
  | (t', v) :: r, h, t => by
    rw [get_cons]
    split
    · rename_i e; subst e; exact .inr h.1
    · exact frEq_get h.2 t
/-- Objects are numbered anew, and what isn't named is forgotten. -/
theorem Le.ren {m0 : Nat} {F F' : Frm} {S' : Sto} (b : List Nat) (hb : (isPre m0 b 0 && nodupB b) = true) (hS : stEq b S b 0 S') (hF : frEq b F F') : Le T m0 ⟨F, S, nx⟩ ⟨F', S', b.length⟩ := by
  simp only [Bool.and_eq_true] at hb
  have hpre := fun k hk => by have := isPre_get hb.1 k hk; rwa [Nat.zero_add] at this
  have hS := stEq_iff hS
  unfold Le
  intro hm w c tmps h
  refine ⟨c.call b, ⟨h.sat.call (nodupB_iff hb.2) hS, fun t => ?_⟩, (Ext.refl w c).call b, (Stays.refl c S m0).call (T := T) hS hpre, ?_⟩
  · show VR T w (c.call b) S' b.length (get F' t) _
    rcases frEq_get hF t with h1 | h1
    · rw [h1]; exact .junk
    · exact renTop_sound hS h1 (h.fr t).norm
  · show m0 ≤ b.length
    cases m0 with
    | zero => omega
    | succ m =>
      have := (List.getElem?_eq_some_iff.1 (hpre m (by omega))).1
      omega
/-- Rows at version 0, a place. -/
def rsV (m : Nat) (S : Sto) : V → Option V
  | .one (.ptr id v i j) => match Nat.blt id m with
    | true => resetV m S (.one (.ptr id v i j))
    | false => match geto S id with
      | .box _ _ => some (.one (.ptr id v i j))
      | _ => none
  | v => resetV m S v
theorem rsV_sound {m : Nat} {S' : Sto} (hR : ResetOf m S S') {v v' : V} {u : Value} (h : VR T w c S nx v u) (hl : rsV m S v = some v') : VR T w c S' nx v' u := by
  unfold rsV at hl
  split at hl
  · split at hl
    · exact resetV_sound hR h hl
    · split at hl
      · rename_i hg
        cases hl
        cases h with
        | one h =>
          obtain ⟨h1, h2, h3, h4⟩ := h
          refine .one ⟨h1, h2, fun e k v' xs hr => ?_, fun t ls hb => ?_⟩
          · obtain ⟨v0, g1, _⟩ := hR.row _ _ _ _ _ hr
            rw [hg] at g1; cases g1
          · obtain ⟨ls0, g1, _⟩ := hR.box _ _ _ hb
            exact h4 _ _ g1
      · cases hl
  · exact resetV_sound hR h hl
def frEq0 (m : Nat) (b : List Nat) (F : Frm) (S1 : Option Sto) : Frm → Prop
  | [] => True
  | (t, v) :: r => ((retwp.renTop b (normV (get F t))).bind fun v1 => S1.bind fun S1 => rsV m S1 v1) = some v ∧ frEq0 m b F S1 r
def stEq0 (m : Nat) (b : List Nat) (S : Sto) (S1 : Option Sto) : List Nat → Nat → Sto → Prop
  | [], _, [] => True
  | id :: r, k, (k', o) :: S' => (k' = k ∧ ((renO b (geto S id)).bind fun o1 => S1.bind fun S1 => resetO m S1 k o1) = some o) ∧ stEq0 m b S S1 r (k + 1) S'
  | _, _, _ => False
theorem stEq0_iff {m : Nat} {b : List Nat} {S1 : Sto} : ∀ {l : List Nat} {k : Nat} {S' : Sto}, stEq0 m b S (some S1) l k S' → ∃ X, renS b S l k = some X ∧ resetS m S1 X = some S'
  | [], k, [], _ => ⟨[], rfl, rfl⟩
  | [], k, _ :: _, h => h.elim
  | id :: r, k, [], h => h.elim
  | id :: r, k, (k', o) :: S', h => by
    obtain ⟨⟨rfl, h1⟩, h2⟩ := h
    obtain ⟨X, g1, g2⟩ := stEq0_iff h2
    cases ho : renO b (geto S id) with
    | none => rw [ho] at h1; cases h1
    | some o1 =>
      rw [ho] at h1
      have h1 : resetO m S1 k' o1 = some o := h1
      exact ⟨(k', o1) :: X, by simp [renS, ho, g1], by simp [resetS, h1, g2]⟩
theorem frEq0_get {m : Nat} {b : List Nat} {F : Frm} {S1 : Sto} : ∀ {F' : Frm}, frEq0 m b F (some S1) F' → ∀ t, get F' t = .junk ∨ ∃ v1, retwp.renTop b (normV (get F t)) = some v1 ∧ rsV m S1 v1 = some (get F' t)
  | [], _, t => .inl rfl
  | (t', v) :: r, h, t => by
    rw [get_cons]
    split
    · rename_i e
      subst e
      have h1 := h.1
      cases ho : retwp.renTop b (normV (get F t')) with
      | none => rw [ho] at h1; cases h1
      | some v1 => rw [ho] at h1; exact .inr ⟨v1, rfl, h1⟩
    · exact frEq0_get h.2 t
/-- As Le.ren; and rows that are new lie at version 0. -/
theorem Le.ren0 {m0 : Nat} {F F' : Frm} {S' : Sto} (b : List Nat) (hb : (isPre m0 b 0 && nodupB b) = true) (hS : stEq0 m0 b S (renS b S b 0) b 0 S') (hF : frEq0 m0 b F (renS b S b 0) F') : Le T m0 ⟨F, S, nx⟩ ⟨F', S', b.length⟩ := by
  simp only [Bool.and_eq_true] at hb
  have hpre := fun k hk => by have := isPre_get hb.1 k hk; rwa [Nat.zero_add] at this
  obtain ⟨S1, hS1⟩ : ∃ S1, renS b S b 0 = some S1 := by
    cases h : renS b S b 0 with
    | some S1 => exact ⟨S1, rfl⟩
    | none =>
      rw [h] at hS
      cases b with
      | nil => simp [renS] at h
      | cons id r =>
        cases S' with
        | nil => exact hS.elim
        | cons a S' =>
          have h1 := hS.1.2
          cases ho : renO (id :: r) (geto S id) with
          | none => rw [ho] at h1; cases h1
          | some o1 => rw [ho] at h1; cases h1
  rw [hS1] at hS hF
  obtain ⟨X, hX, hr⟩ := stEq0_iff hS
  rw [hS1] at hX
  cases hX
  have hR := resetOf hr
  unfold Le
  intro hm w c tmps h
  have hst := (Stays.refl c S m0).call (T := T) hS1 hpre
  refine ⟨c.call b, ⟨resetS_sat hR (h.sat.call (nodupB_iff hb.2) hS1), fun t => ?_⟩, (Ext.refl w c).call b, .mk (fun id e k ver xs hi hg => ?_) (fun id t ls hi hg => ?_), ?_⟩
  · show VR T w (c.call b) S' b.length (get F' t) _
    rcases frEq0_get hF t with h1 | ⟨v1, h1, h2⟩
    · rw [h1]; exact .junk
    · exact rsV_sound hR (renTop_sound hS1 h1 (h.fr t).norm) h2
  · obtain ⟨v0, g1, g2, _⟩ := hR.row _ _ _ _ _ hg
    rw [g2 hi]
    exact hst.at hi g1
  · obtain ⟨ls0, g1, _⟩ := hR.box _ _ _ hg
    exact hst.atB hi g1
  · show m0 ≤ b.length
    cases m0 with
    | zero => omega
    | succ m =>
      have := (List.getElem?_eq_some_iff.1 (hpre m (by omega))).1
      omega
/-- A row's elements are only read from now on. -/
theorem Le.share {m0 : Nat} {F : Frm} {id e ver : Nat} {xs : List (List D)} (h : geto S id = .row e .tree ver xs) : Le T m0 ⟨F, S, nx⟩ ⟨F, (id, .row e .sh ver xs) :: S, nx⟩ := by
  unfold Le
  intro hm w c tmps hs
  obtain ⟨c', hg, hc⟩ := Gs.share hs.sat h
  exact ⟨c', ⟨hg.sat, fun t => hg.step.vr hs.sat (hs.fr t)⟩, hg.ext, hg.st.le hm, hm⟩
end Go.Proofs.Ytodhnbjncmihkaa.V
end

section
/- The table of types of this seat. -/
namespace Go.Proofs.Ytodhnbjncmihkaa.V
open Go
def tblRaw (n : Nat) : Option TI := (match Nat.ble n 44 with | true => (match Nat.ble n 15 with | true => (match Nat.ble n 8 with | true => (match Nat.ble n 4 with | true => (match Nat.ble n 2 with | true => (match Nat.beq n 2 with | true => some ⟨.int .i64, [.int .i64], 8⟩ | false => none) | false => (match Nat.ble n 3 with | true => (match Nat.beq n 3 with | true => some ⟨.int .i64, [.int .i64], 8⟩ | false => none) | false => (match Nat.beq n 4 with | true => some ⟨.bool, [.bool], 1⟩ | false => none))) | false => (match Nat.ble n 6 with | true => (match Nat.ble n 5 with | true => (match Nat.beq n 5 with | true => some ⟨.int .u8, [.int .u8], 1⟩ | false => none) | false => (match Nat.beq n 6 with | true => some ⟨.int .u8, [.int .u8], 1⟩ | false => none)) | false => (match Nat.ble n 7 with | true => (match Nat.beq n 7 with | true => some ⟨.st [(0, 2), (1, 3), (2, 4), (3, 6)], [.int .i64, .int .i64, .bool, .int .u8], 24⟩ | false => none) | false => (match Nat.beq n 8 with | true => some ⟨.st [(0, 2), (1, 3), (2, 4), (3, 6)], [.int .i64, .int .i64, .bool, .int .u8], 24⟩ | false => none)))) | false => (match Nat.ble n 11 with | true => (match Nat.ble n 9 with | true => (match Nat.beq n 9 with | true => some ⟨.str, [.str], 16⟩ | false => none) | false => (match Nat.ble n 10 with | true => (match Nat.beq n 10 with | true => some ⟨.str, [.str], 16⟩ | false => none) | false => (match Nat.beq n 11 with | true => some ⟨.str, [.str], 16⟩ | false => none))) | false => (match Nat.ble n 13 with | true => (match Nat.ble n 12 with | true => (match Nat.beq n 12 with | true => some ⟨.int .u64, [.int .u64], 8⟩ | false => none) | false => (match Nat.beq n 13 with | true => some ⟨.st [(0, 9), (1, 12)], [.str, .int .u64], 24⟩ | false => none)) | false => (match Nat.ble n 14 with | true => (match Nat.beq n 14 with | true => some ⟨.st [(0, 9), (1, 12)], [.str, .int .u64], 24⟩ | false => none) | false => (match Nat.beq n 15 with | true => some ⟨.ptr 124, [.oth], 8⟩ | false => none))))) | false => (match Nat.ble n 23 with | true => (match Nat.ble n 18 with | true => (match Nat.ble n 16 with | true => (match Nat.beq n 16 with | true => some ⟨.ptr 127, [.oth], 8⟩ | false => none) | false => (match Nat.ble n 17 with | true => (match Nat.beq n 17 with | true => some ⟨.ptr 136, [.oth], 8⟩ | false => none) | false => (match Nat.beq n 18 with | true => some ⟨.st [(0, 17)], [.oth], 8⟩ | false => none))) | false => (match Nat.ble n 21 with | true => (match Nat.ble n 19 with | true => (match Nat.beq n 19 with | true => some ⟨.st [(0, 17)], [.oth], 8⟩ | false => none) | false => (match Nat.beq n 21 with | true => some ⟨.int .i32, [.int .i32], 4⟩ | false => none)) | false => (match Nat.ble n 22 with | true => (match Nat.beq n 22 with | true => some ⟨.sl 45, [.sl 45], 24⟩ | false => none) | false => (match Nat.beq n 23 with | true => some ⟨.sl 64, [.sl 64], 24⟩ | false => none)))) | false => (match Nat.ble n 30 with | true => (match Nat.ble n 25 with | true => (match Nat.ble n 24 with | true => (match Nat.beq n 24 with | true => some ⟨.st [(0, 23)], [.sl 64], 24⟩ | false => none) | false => (match Nat.beq n 25 with | true => some ⟨.st [(0, 23)], [.sl 64], 24⟩ | false => none)) | false => (match Nat.ble n 28 with | true => (match Nat.beq n 28 with | true => some ⟨.sl 2, [.sl 2], 24⟩ | false => none) | false => (match Nat.beq n 30 with | true => some ⟨.sl 53, [.sl 53], 24⟩ | false => none))) | false => (match Nat.ble n 33 with | true => (match Nat.ble n 32 with | true => (match Nat.beq n 32 with | true => some ⟨.sl 52, [.sl 52], 24⟩ | false => none) | false => (match Nat.beq n 33 with | true => some ⟨.st [(0, 32)], [.sl 52], 24⟩ | false => none)) | false => (match Nat.ble n 34 with | true => (match Nat.beq n 34 with | true => some ⟨.st [(0, 32)], [.sl 52], 24⟩ | false => none) | false => (match Nat.beq n 44 with | true => some ⟨.st [(0, 9), (1, 2)], [.str, .int .i64], 24⟩ | false => none)))))) | false => (match Nat.ble n 86 with | true => (match Nat.ble n 53 with | true => (match Nat.ble n 49 with | true => (match Nat.ble n 45 with | true => (match Nat.beq n 45 with | true => some ⟨.st [(0, 9), (1, 2)], [.str, .int .i64], 24⟩ | false => none) | false => (match Nat.ble n 48 with | true => (match Nat.beq n 48 with | true => some ⟨.sl 86, [.sl 86], 24⟩ | false => none) | false => (match Nat.beq n 49 with | true => some ⟨.st [(0, 2), (1, 48)], [.int .i64, .sl 86], 32⟩ | false => none))) | false => (match Nat.ble n 51 with | true => (match Nat.ble n 50 with | true => (match Nat.beq n 50 with | true => some ⟨.st [(0, 2), (1, 48)], [.int .i64, .sl 86], 32⟩ | false => none) | false => (match Nat.beq n 51 with | true => some ⟨.st [(0, 2), (1, 2), (2, 2), (3, 2), (4, 50), (6, 28)], [.int .i64, .int .i64, .int .i64, .int .i64, .int .i64, .sl 86, .sl 2], 88⟩ | false => none)) | false => (match Nat.ble n 52 with | true => (match Nat.beq n 52 with | true => some ⟨.st [(0, 2), (1, 2), (2, 2), (3, 2), (4, 50), (6, 28)], [.int .i64, .int .i64, .int .i64, .int .i64, .int .i64, .sl 86, .sl 2], 88⟩ | false => none) | false => (match Nat.beq n 53 with | true => some ⟨.st [(0, 9), (1, 2)], [.str, .int .i64], 24⟩ | false => none)))) | false => (match Nat.ble n 64 with | true => (match Nat.ble n 62 with | true => (match Nat.beq n 62 with | true => some ⟨.st [(0, 2), (1, 48)], [.int .i64, .sl 86], 32⟩ | false => none) | false => (match Nat.ble n 63 with | true => (match Nat.beq n 63 with | true => some ⟨.st [(0, 2), (1, 2), (2, 2), (3, 2), (4, 62), (6, 28)], [.int .i64, .int .i64, .int .i64, .int .i64, .int .i64, .sl 86, .sl 2], 88⟩ | false => none) | false => (match Nat.beq n 64 with | true => some ⟨.st [(0, 2), (1, 2), (2, 2), (3, 2), (4, 62), (6, 28)], [.int .i64, .int .i64, .int .i64, .int .i64, .int .i64, .sl 86, .sl 2], 88⟩ | false => none))) | false => (match Nat.ble n 73 with | true => (match Nat.ble n 70 with | true => (match Nat.beq n 70 with | true => some ⟨.sl 5, [.sl 5], 24⟩ | false => none) | false => (match Nat.beq n 73 with | true => some ⟨.sl 4, [.sl 4], 24⟩ | false => none)) | false => (match Nat.ble n 84 with | true => (match Nat.beq n 84 with | true => some ⟨.int .u64, [.int .u64], 8⟩ | false => none) | false => (match Nat.beq n 86 with | true => some ⟨.int .u64, [.int .u64], 8⟩ | false => none))))) | false => (match Nat.ble n 123 with | true => (match Nat.ble n 106 with | true => (match Nat.ble n 92 with | true => (match Nat.beq n 92 with | true => some ⟨.ptr 52, [.oth], 8⟩ | false => none) | false => (match Nat.ble n 97 with | true => (match Nat.beq n 97 with | true => some ⟨.int .i64, [.int .i64], 8⟩ | false => none) | false => (match Nat.beq n 106 with | true => some ⟨.int .u32, [.int .u32], 4⟩ | false => none))) | false => (match Nat.ble n 116 with | true => (match Nat.ble n 112 with | true => (match Nat.beq n 112 with | true => some ⟨.int .u64, [.int .u64], 8⟩ | false => none) | false => (match Nat.beq n 116 with | true => some ⟨.ptr 3, [.oth], 8⟩ | false => none)) | false => (match Nat.ble n 119 with | true => (match Nat.beq n 119 with | true => some ⟨.ptr 112, [.oth], 8⟩ | false => none) | false => (match Nat.beq n 123 with | true => some ⟨.st [(0, 17), (1, 17), (2, 17), (3, 9)], [.oth, .oth, .oth, .str], 40⟩ | false => none)))) | false => (match Nat.ble n 132 with | true => (match Nat.ble n 129 with | true => (match Nat.ble n 124 with | true => (match Nat.beq n 124 with | true => some ⟨.st [(0, 17), (1, 17), (2, 17), (3, 9)], [.oth, .oth, .oth, .str], 40⟩ | false => none) | false => (match Nat.beq n 129 with | true => some ⟨.int .u8, [.int .u8], 1⟩ | false => none)) | false => (match Nat.ble n 130 with | true => (match Nat.beq n 130 with | true => some ⟨.int .u8, [.int .u8], 1⟩ | false => none) | false => (match Nat.beq n 132 with | true => some ⟨.ptr 5, [.oth], 8⟩ | false => none))) | false => (match Nat.ble n 134 with | true => (match Nat.ble n 133 with | true => (match Nat.beq n 133 with | true => some ⟨.int .i32, [.int .i32], 4⟩ | false => none) | false => (match Nat.beq n 134 with | true => some ⟨.int .i32, [.int .i32], 4⟩ | false => none)) | false => (match Nat.ble n 135 with | true => (match Nat.beq n 135 with | true => some ⟨.st [(0, 12), (1, 12), (2, 106), (3, 129), (4, 5), (5, 5), (6, 130), (7, 131), (8, 132), (9, 133), (10, 134)], [.int .u64, .int .u64, .int .u32, .int .u8, .int .u8, .int .u8, .int .u8, .oth, .oth, .int .i32, .int .i32], 48⟩ | false => none) | false => (match Nat.beq n 136 with | true => some ⟨.st [(0, 12), (1, 12), (2, 106), (3, 129), (4, 5), (5, 5), (6, 130), (7, 131), (8, 132), (9, 133), (10, 134)], [.int .u64, .int .u64, .int .u32, .int .u8, .int .u8, .int .u8, .int .u8, .oth, .oth, .int .i32, .int .i32], 48⟩ | false => none)))))))
def tblN : Nat := 137
def tbl (n : Nat) : Option TI := match Nat.blt n tblN with | false => none | true => tblRaw n
theorem tbl_chk : (List.range tblN).all (fun t => match tbl t with | none => true | some i => tyOk Try.prog t i) = true := by kernel_rfl
theorem tOk : TOk Try.prog tbl := tok_of tbl_chk (fun n h => by unfold tbl; rw [h])
theorem follows : Try.prog.follows .mixedOrders = true := by kernel_rfl
end Go.Proofs.Ytodhnbjncmihkaa.V
end

section
/- How the symbolic machine is used: what is told of a call; small lemmas for its branches. -/
set_option linter.unusedVariables false
namespace Go.Proofs.Ytodhnbjncmihkaa.V
open Go

/-- What holds at the end. -/
structure Done (p : Prop) : Prop where
  h : p
noncomputable def cfg (loan : FuncId → Bool) (nest : Bool := false) : Cfg := ⟨Try.prog, tbl, loan, nest⟩
/-- A call: with these values, over these objects. -/
abbrev CT (f : FuncId) (args : List V) (S : Sto) (nx : Nat) (post : V → Sto → Nat → Prop) : Prop := VC Try.prog tbl f args S nx fun r S n => Done (post r S n)
theorem CT.run {f : FuncId} {fn : Func} (loan : FuncId → Bool) (nest : Bool := false) (hf : Try.prog.funcs[f]? = some fn) {args : List V} {S : Sto} {nx : Nat} {post : V → Sto → Nat → Prop} (hc : fnChk fn args.length = true)
    (h : factVs args (wpF (cfg loan nest) fn args S nx fun r S n => Done (post r S n))) : CT f args S nx post := VC.run (C := cfg loan nest) tOk follows hf hc h
theorem CT.then {f : FuncId} {args : List V} {S : Sto} {nx : Nat} {post : V → Sto → Nat → Prop} {K : V → Sto → Nat → Prop} (h : CT f args S nx post) (hk : ∀ r S n, post r S n → K r S n) : VC Try.prog tbl f args S nx K := VC.mono h fun r S n hd => hk r S n hd.h
theorem CT.eq {f : FuncId} {args : List V} {S S1 : Sto} {nx n1 : Nat} {r1 : V} {K : V → Sto → Nat → Prop} (h : CT f args S nx fun r S n => r = r1 ∧ S = S1 ∧ n = n1) (hk : K r1 S1 n1) : VC Try.prog tbl f args S nx K := VC.mono h fun r S n hd => by obtain ⟨⟨rfl, rfl, rfl⟩⟩ := hd; exact hk
theorem CT.eqf {f : FuncId} {args : List V} {S S1 : Sto} {nx n1 : Nat} {r1 : V} {p : Prop} {K : V → Sto → Nat → Prop} (h : CT f args S nx fun r S n => p ∧ r = r1 ∧ S = S1 ∧ n = n1) (hk : p → K r1 S1 n1) : VC Try.prog tbl f args S nx K := VC.mono h fun r S n hd => by obtain ⟨⟨hp, rfl, rfl, rfl⟩⟩ := hd; exact hk hp
theorem fork_dec {q : Prop} [Decidable q] {A B : Prop} (h1 : q → A) (h2 : ¬ q → B) : (decide q = true → A) ∧ (decide q = false → B) := ⟨fun h => h1 (of_decide_eq_true h), fun h => h2 (of_decide_eq_false h)⟩
theorem fork_any {p : Bool} {A B : Prop} (h1 : p = true → A) (h2 : p = false → B) : (p = true → A) ∧ (p = false → B) := ⟨h1, h2⟩
theorem fork_ndec {q : Prop} [Decidable q] {A B : Prop} (h1 : ¬ q → A) (h2 : q → B) : ((!decide q) = true → A) ∧ ((!decide q) = false → B) := ⟨fun h => h1 (by simpa using h), fun h => h2 (by simpa using h)⟩
theorem fork_not {p : Bool} {A B : Prop} (h1 : p = false → A) (h2 : p = true → B) : ((!p) = true → A) ∧ ((!p) = false → B) := ⟨fun h => h1 (by simpa using h), fun h => h2 (by simpa using h)⟩
theorem gd2 {A B K : Prop} (h1 : A) (h2 : B) (k : K) : (A ∧ B) ∧ K := ⟨⟨h1, h2⟩, k⟩
theorem gdn {a b : Nat} {K : Prop} (h : a ≤ b) (k : K) : a ≤ b ∧ K := ⟨h, k⟩
theorem gdi {a b : Int} {K : Prop} (h : a ≤ b) (k : K) : a ≤ b ∧ K := ⟨h, k⟩
theorem gdz {a b : Int} {K : Prop} (h : a ≠ b) (k : K) : a ≠ b ∧ K := ⟨h, k⟩
theorem gdm {a b : Int} {A B K : Prop} (h : a = b) (h1 : A) (h2 : B) (k : K) : a = b ∧ (A ∧ B) ∧ K := ⟨h, ⟨h1, h2⟩, k⟩
theorem gdd {ops l : List Oper} {n : Nat} {K : Prop} (h : drawOk ops l n = true) (k : K) : drawOk ops l n = true ∧ K := ⟨h, k⟩
/-- Of what can come next, one; two. -/
theorem act1 {b : Bool} {p q : Prop} (hb : b = true) (hp : p) (hq : q) : guardT b p ∧ q := ⟨guardT_of hb hp, hq⟩
abbrev vI (n : Int) : V := .one (.sc (.int .i64 n))
abbrev vU (n : Int) : V := .one (.sc (.int .u64 n))
abbrev vS (s : ByteArray) : V := .one (.sc (.string s))
abbrev vB (b : Bool) : V := .one (.sc (.bool b))
abbrev lI (n : Int) : L := .sc (.int .i64 n)
abbrev lB (b : Bool) : L := .sc (.bool b)
abbrev lS (s : ByteArray) : L := .sc (.string s)
abbrev dI (n : Int) : D := .sc (.int .i64 n)
abbrev dU (n : Int) : D := .sc (.int .u64 n)
abbrev dB (b : Bool) : D := .sc (.bool b)
abbrev dS (s : ByteArray) : D := .sc (.string s)
theorem wrap64 {n : Int} (h1 : -9223372036854775808 ≤ n) (h2 : n ≤ 9223372036854775807) : IntKind.i64.wrap n = n := rng_of_wrap ⟨h1, h2⟩
theorem wrapU {n : Int} (h1 : 0 ≤ n) (h2 : n ≤ 18446744073709551615) : IntKind.u64.wrap n = n := rng_of_wrap ⟨h1, h2⟩
/-- One more. -/
theorem inc {k : Nat} (h : k < 9223372036854775807) : IntKind.i64.wrap ((k : Int) + 1) = ((k + 1 : Nat) : Int) := by rw [wrap64] <;> omega
/-- Byte k of a text. -/
def chr (s : ByteArray) (k : Nat) : Int := (s.data.getD k 0).toNat
end Go.Proofs.Ytodhnbjncmihkaa.V
end
