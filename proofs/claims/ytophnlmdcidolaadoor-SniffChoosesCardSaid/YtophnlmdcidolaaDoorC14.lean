import Derived.Test.YtophnlmdcidolaaDoorB
set_option linter.all false
namespace Go.Am
variable {θ : Where} {P : Program} {w : World}

theorem aLenOf_run {x : AV} {cx : Value} {n : Nat} (h : aLenOf x = some n) (hx : VRel θ x cx) : (Builtin.lenOf cx).run P w = .ok n w := by
  unfold aLenOf at h
  split at h
  · rw [vrel_nilslice] at hx; subst hx; simp at h; subst h; rfl
  · rw [vrel_slice] at hx; obtain ⟨a, c', cb, base, rfl, _⟩ := hx; simp at h; subst h; rfl
  · rw [vrel_str] at hx; obtain ⟨s, rfl, rfl⟩ := hx; simp at h; subst h; simp [Builtin.lenOf, bytesOf_length]
  · simp at h

theorem bytesAV_take : ∀ (l : List Nat) (n : Nat), bytesAV (l.take n) = (bytesAV l).take n
  | [], n => by simp [bytesAV]
  | x :: l, 0 => by simp [bytesAV]
  | x :: l, n + 1 => by simp [bytesAV, bytesAV_take l n]

/-- what is appended or copied is read -/
theorem aSrc_sound {σ : PT ABlock} (hM : MRel θ σ w.heap) {sz n m : Nat} {x : AV} {cx : Value} {r : List AV} (h : aSrc σ sz n x = some r) (hl : aLenOf x = some m) (hnm : n ≤ m) (hx : VRel θ x cx) :
    ∃ cs : Array Value, (Builtin.firstCells sz n cx).run P w = .ok cs w ∧ VRels θ r cs.toList := by
  unfold aSrc at h
  split at h
  · rw [vrel_nilslice] at hx; subst hx; simp at h; subst h
    exact ⟨#[], by simp [Builtin.firstCells], by simp [VRels]⟩
  · rename_i b o sl c ex z
    rw [vrel_slice] at hx; obtain ⟨a, c', cb, base, rfl, h1, h2, h3, hθ, h4, ha⟩ := hx
    split at h
    · rename_i e
      simp at h; subst h
      exact ⟨#[], by simp [Builtin.firstCells, e, loadCells, loadCellsFrom], by simp [VRels]⟩
    · rename_i k hk e
      split at h
      · rename_i xs ro fz ps hb
        obtain ⟨ca, el, f, hw, hc⟩ := mrel_cells hM hb hθ
        have hn : n ≠ 0 := fun e0 => by subst e0; simp at e; all_goals exact hk e
        simp [aLenOf] at hl
        have := ha.resolve_left (by omega)
        subst this
        obtain ⟨cs, k1, k2⟩ := cells_load (P := P) hw hc h
        exact ⟨cs, by simp only [Builtin.firstCells]; exact k1, k2⟩
      · simp at h
  · rename_i l
    rw [vrel_str] at hx; obtain ⟨s, rfl, rfl⟩ := hx
    simp at h; subst h
    refine ⟨(s.extract 0 n).data.map fun b => .int .u8 b.toNat, by simp only [Builtin.firstCells, Sem.run_pure], ?_⟩
    have : (bytesOf s).take n = (s.extract 0 n).data.toList.map UInt8.toNat := by
      have := bytes_extract s 0 n
      simp only [bytesOf, List.drop_zero] at this
      rw [this]; rfl
    rw [this, Array.toList_map]
    exact bytesAV_rel _
  · simp at h

theorem aSrc_nil {σ : PT ABlock} {sz : Nat} {x : AV} {new : List AV} (h : aSrc σ sz 0 x = some new) : new = [] := by
  unfold aSrc at h
  split at h
  · simpa using h.symm
  · simp only [Nat.zero_mul] at h
    simpa using h.symm
  · simp [bytesAV] at h; exact h
  · simp at h

theorem oneAll_append : ∀ {xs ys : List AV}, oneAll xs = true → oneAll ys = true → oneAll (xs ++ ys) = true
  | [], _, _, h => h
  | x :: xs, ys, h, k => by
    cases x <;> simp only [oneAll, List.cons_append] at h ⊢ <;> first
      | (simp at h; done)
      | exact oneAll_append h k

theorem aPutAt_sound {σ σ' : AHeap} (hR : Rel θ σ w.heap) {b o : Nat} {new : List AV} {cs : Array Value} {a : Addr} {cb base : Nat} (h : aPutAt σ b o 0 new = some σ') (hr : VRels θ new cs.toList) (hθ : θ b = some (cb, base))
    (ha : new ≠ [] → a = ⟨cb, base + o, none⟩) : ∃ w', (storeCells a cs.toList).run P w = .ok () w' ∧ Ev θ σ w θ σ' w' := by
  unfold aPutAt at h
  split at h
  · simp at h; subst h
    have : cs.toList = [] := by cases hc : cs.toList with
      | nil => rfl
      | cons c l => rw [hc] at hr; simp [VRels] at hr
    rw [this]
    exact ⟨w, rfl, Ev.refl hR⟩
  · rename_i hne
    split at h
    · rename_i xs fz ps hb
      split at h
      · rename_i e1 e2
        split at h
        · rename_i r hlay
          simp at h; subst h
          have := ha (fun e => hne e)
          subst this
          exact put_run hR hb hθ (Nat.le_of_ble_eq_true e2) hlay hr e1 (Nat.le_refl _)
        · simp at h
      · simp at h
    · simp at h

theorem grown_row {z : Array Value} {xs ys : List AV} {olds news : Array Value} (hx : VRels θ xs olds.toList) (hy : VRels θ ys news.toList) (k : Nat) :
    ∀ (i : Nat) (v : AV), (xs ++ ys)[i]? = some v → ∃ cv, (olds ++ news ++ Builtin.zeroCells z k)[i]? = some cv ∧ VRel θ v cv := by
  intro i v hv
  have h := vrels_append hx hy
  obtain ⟨d, hd, hr⟩ := vrels_get h hv
  have hlt : i < (olds ++ news).size := by
    rw [← Array.toList_append, Array.getElem?_toList] at hd
    rcases Nat.lt_or_ge i (olds ++ news).size with h' | h'
    · exact h'
    · simp [Array.getElem?_eq_none h'] at hd
  refine ⟨d, ?_, hr⟩
  rw [Array.getElem?_append_left hlt, ← Array.getElem?_toList, Array.toList_append]
  exact hd

theorem aAppend_sound {σ σ' : AHeap} (hR : Rel θ σ w.heap) {ts : Array TypeId} {ty : TypeId} {xs : List AV} {args : Array Value} {v : AV} (h : aAppend P σ ts.toList xs = some (v, σ')) (hx : VRels θ xs args.toList) :
    ∃ θ' w' cv, (Builtin.append_ ts ty args).run P w = .ok cv w' ∧ Ev θ σ w θ' σ' w' ∧ VRel θ' v cv := by
  obtain ⟨ts⟩ := ts
  obtain ⟨args⟩ := args
  simp only at h hx
  unfold aAppend at h
  split at h
  case h_2 => simp at h
  rename_i st xt ts' s x xs'
  match args, hx with
  | [], hx => simp [VRels] at hx
  | [_], hx => simp [VRels] at hx
  | cs :: cx :: args', hx =>
  simp only [VRels] at hx
  obtain ⟨hs, hxx, _⟩ := hx
  split at h
  case h_2 => simp at h
  rename_i e d hus hux
  split at h
  case h_2 => simp at h
  rename_i i z n hd hi hz hn
  obtain ⟨cz, hzr, hzv, i', hi', hz'⟩ := zeroOf_run (θ := θ) (w := w) hz
  rw [hi] at hi'; simp at hi'; subst hi'
  have hczs : cz.cells.size = (aCells z).length := vrels_size (aCells_rel hzv)
  split at h
  case h_2 => simp at h
  rename_i new hnew
  have hlen := aLenOf_run (P := P) (w := w) hn hxx
  obtain ⟨news, hnr, hnv⟩ := aSrc_sound (P := P) (w := w) hR.mem hnew hn (Nat.le_refl _) hxx
  obtain ⟨news', hnr', hnv'⟩ := aSrc_sound (P := P) (w := w.drew) hR.mem hnew hn (Nat.le_refl _) hxx
  split at h
  · -- onto nil
    rw [vrel_nilslice] at hs; subst hs
    split at h
    · simp at h; obtain ⟨rfl, rfl⟩ := h
      exact ⟨θ, w, .slice none 0 0, append_room_run (t0 := by simp) (t1 := by simp) (a0 := by simp) (a1 := by simp) hus hux hd hi hlen (by omega) hnr rfl, Ev.refl hR, by rw [vrel_nilslice]⟩
    · rename_i n0 hn0
      split at h
      · rename_i hcond
        simp at h; obtain ⟨rfl, rfl⟩ := h
        have hpos : 0 < n := by
          rcases Nat.eq_zero_or_pos n with h0 | h0
          · exact absurd h0 (by intro e; exact hn0 e)
          · exact h0
        have hrun := append_grow_run (P := P) (w := w) (ts := ⟨st :: xt :: ts'⟩) (args := ⟨.slice none 0 0 :: cx :: args'⟩) (ty := ty) (base := none) (sl := 0) (sc := 0) (olds := #[]) (by simp) (by simp) (by simp) (by simp) hus hux hd hi hz' hlen (by omega) hnr' (by simp [Builtin.firstCells]) (by omega) (by simpa using hcond.1)
        simp only [Nat.zero_add] at hrun
        have hcap : n ≤ grownCap w n 0 e := by simp [grownCap, Question.cut]
        have hns : news'.size = n * i.size := by rw [vrels_size hnv']; exact hcond.2.2.1
        refine ⟨_, _, _, hrun, (push_row (w := w.drew) (el := e) (xs := new) hR ?_ (fun j u hu => grown_row (xs := []) (olds := #[]) (by simp [VRels]) hnv' _ j u hu) (fun j _ _ => by simp)).congr rfl rfl rfl rfl, vrel_newslice _ _ hcap hcap (by simp) ?_⟩
        · have := vrels_size hnv'; simp; omega
        · simp only [Array.size_append, List.size_toArray, List.length_nil, size_zeroCells, hns, hczs, hcond.2.2.2]
          rw [Nat.zero_add, ← Nat.add_mul]
          exact Nat.mul_le_mul_right _ (by omega)
      · simp at h
  · rename_i b o sl c ex zz
    split at h
    · simp at h
    · rename_i hbeq
      obtain rfl : zz = i.size := Nat.eq_of_beq_eq_true hbeq
      have hsl := hs
      rw [vrel_slice] at hs
      obtain ⟨a, c', cb, base, rfl, k1, k2, k3, hθ, k4, ka⟩ := hs
      split at h
      · -- room is known
        rename_i hle
        have hle' : sl + n ≤ c := Nat.le_of_ble_eq_true hle
        split at h
        · rename_i σ1 hput
          simp at h; obtain ⟨rfl, rfl⟩ := h
          obtain ⟨w', hst, hev⟩ := aPutAt_sound (P := P) (a := a.add (sl * i.size)) hR hput hnv hθ (fun hne => by
            have hn0 : n ≠ 0 := by
              intro e0; subst e0
              exact hne (aSrc_nil hnew)
            rw [ka.resolve_left (by omega), addr_add, Nat.add_assoc])
          exact ⟨θ, w', _, append_room_run (t0 := by simp) (t1 := by simp) (a0 := by simp) (a1 := by simp) hus hux hd hi hlen (by omega) hnr hst, hev,
            vrel_slice.2 ⟨a, c', cb, base, rfl, by omega, k2, k3, hθ, k4, ka⟩⟩
        · simp at h
      · rename_i hle
        have hgt : ¬ sl + n ≤ c := fun h' => by rw [Nat.ble_eq_true_of_le h'] at hle; simp at hle
        split at h
        · simp at h; obtain ⟨rfl, rfl⟩ := h
          -- nothing is appended
          have hnil : new = [] := aSrc_nil hnew
          subst hnil
          have hnn : news.toList = [] := by cases hc : news.toList with
            | nil => rfl
            | cons c l => rw [hc] at hnv; simp [VRels] at hnv
          refine ⟨θ, w, .slice (some a) sl c', ?_, Ev.refl hR, hsl⟩
          have := append_room_run (P := P) (w := w) (w' := w) (ts := ⟨st :: xt :: ts'⟩) (args := ⟨.slice (some a) sl c' :: cx :: args'⟩) (ty := ty) (base := some a) (sl := sl) (sc := c') (by simp) (by simp) (by simp) (by simp) hus hux hd hi hlen (by omega) hnr (by simp only [hnn]; rfl)
          simpa using this
        · rename_i n0 hn0
          split at h
          · rename_i hcond
            have hpos : n ≠ 0 := fun e => hn0 e
            split at h
            · rename_i old hold
              split at h
              · rename_i hol
                have hsrc := fun (w1 : World) (hm : MRel θ σ.m w1.heap) => aSrc_sound (P := P) (w := w1) hm hold rfl (Nat.le_refl _) hsl
                obtain ⟨olds, hor, hov⟩ := hsrc w.drew hR.mem
                have hos : olds.size = sl * i.size := by rw [vrels_size hov, hol]
                have hns : news'.size = n * i.size := by rw [vrels_size hnv']; exact hcond.2.2.1
                have hrun := fun hroom : ¬ sl + n ≤ c' => append_grow_run (P := P) (w := w) (ts := ⟨st :: xt :: ts'⟩) (args := ⟨.slice (some a) sl c' :: cx :: args'⟩) (ty := ty) (base := some a) (sl := sl) (sc := c') (by simp) (by simp) (by simp) (by simp) hus hux hd hi hz' hlen hroom hnr' hor hcond.2.1 hcond.1
                have hcap : sl + n ≤ grownCap w (sl + n) c' e := by simp [grownCap, Question.cut]
                have hsize : grownCap w (sl + n) c' e * i.size ≤ (olds ++ news' ++ Builtin.zeroCells cz.cells (grownCap w (sl + n) c' e - (sl + n))).size := by
                  simp only [Array.size_append, size_zeroCells, hos, hns, hczs, hcond.2.2.2]
                  rw [← Nat.add_mul, ← Nat.add_mul]
                  exact Nat.mul_le_mul_right _ (by omega)
                have hfit : (old ++ new).length ≤ (olds ++ news' ++ Builtin.zeroCells cz.cells (grownCap w (sl + n) c' e - (sl + n))).size := by
                  simp only [Array.size_append, List.length_append, hos, hns, hol, hcond.2.2.1]; omega
                split at h
                · simp at h; obtain ⟨rfl, rfl⟩ := h
                  have hc' : c' = c := k3 rfl
                  exact ⟨_, _, _, hrun (by omega), (push_row (w := w.drew) (el := e) (xs := old ++ new) hR hfit (fun j u hu => grown_row hov hnv' _ j u hu) (fun j _ _ => by simp)).congr rfl rfl rfl rfl,
                    vrel_newslice _ _ hcap hcap (by simp) hsize⟩
                · split at h
                  · rename_i xs0 fz ps hb
                    split at h
                    · rename_i e1 e2
                      simp at h; obtain ⟨rfl, rfl⟩ := h
                      have hfz : fz ≤ o + sl * i.size := Nat.le_of_ble_eq_true e2
                      by_cases hroom : sl + n ≤ c'
                      · -- in its place
                        obtain ⟨cc, el, lo, hi2, q1, q2, q3, q4, q5⟩ := hR.mem b _ cb base hb hθ
                        have haa : a = ⟨cb, base + o, none⟩ := ka.resolve_left (by omega)
                        have hnsz : news.size = n * i.size := by rw [vrels_size hnv]; exact hcond.2.2.1
                        have hin : base + o + sl * i.size + n * i.size ≤ cc.size := by
                          rw [q2]
                          have := Nat.mul_le_mul_right i.size hroom
                          rw [Nat.add_mul] at this
                          omega
                        obtain ⟨w', c2, r1, r2, r3, r4, r5, r6, r7, r8, r9⟩ := storeCells_run (P := P) news.toList 0 cb (base + o + sl * i.size) cc el lo hi2 w q1 (by simp; omega)
                          (fun j hj => by
                            have := q5 rfl (o + sl * i.size + j) (by omega) (by simp at hj; omega)
                            rw [show base + o + sl * i.size + 0 + j = base + (o + sl * i.size + j) by omega]; exact this) (oneAll_one e1 hnv)
                        have hst : (storeCells (a.add (sl * i.size)) news.toList).run P w = .ok () w' := by rw [haa, addr_add]; exact r1
                        have hrun2 := append_room_run (P := P) (w := w) (w' := w') (ts := ⟨st :: xt :: ts'⟩) (args := ⟨.slice (some a) sl c' :: cx :: args'⟩) (ty := ty) (base := some a) (sl := sl) (sc := c') (by simp) (by simp) (by simp) (by simp) hus hux hd hi hlen hroom hnr hst
                        have hlold : ∀ j, j < sl * i.size → ∃ u, old[j]? = some u ∧ xs0[o + j]? = some u := by
                          intro j hj
                          have hj' : j < old.length := by omega
                          refine ⟨old[j], by rw [List.getElem?_eq_getElem hj'], ?_⟩
                          simp only [aSrc] at hold
                          split at hold
                          · rename_i e0; omega
                          · rw [hb] at hold
                            simp only at hold
                            have := (sub_some hold).2 j hj
                            rw [← this, List.getElem?_eq_getElem hj']
                        refine ⟨_, w', _, hrun2, ev_regrow (base' := base + o) hR hb rfl hθ rfl r2 r3 r4 r5 r6 ⟨c2, el, lo, hi2, r7, by rw [r8, q2], ?_, ?_, ?_⟩, ?_⟩
                        · simp only [List.length_append, hol, hcond.2.2.1]; omega
                        · intro j u hu
                          rw [r9]
                          simp only [Nat.add_zero, Array.length_toList, hnsz]
                          by_cases hj : j < sl * i.size
                          · rw [List.getElem?_append_left (by omega)] at hu
                            obtain ⟨u', g1, g2⟩ := hlold j hj
                            rw [hu] at g1; simp at g1; subst g1
                            obtain ⟨cv, g3, g4⟩ := q4 _ _ g2
                            rw [if_neg (by omega)]
                            exact ⟨cv, by rw [show base + o + j = base + (o + j) by omega]; exact g3, VRel.mono (put_le hR _ _) u cv g4⟩
                          · rw [List.getElem?_append_right (by omega)] at hu
                            obtain ⟨dv, g1, g2⟩ := vrels_get hnv hu
                            have hjn : j - old.length < n * i.size := by
                              rcases Nat.lt_or_ge (j - old.length) new.length with h' | h'
                              · rw [hcond.2.2.1] at h'; exact h'
                              · rw [List.getElem?_eq_none h'] at hu; simp at hu
                            rw [if_pos (by omega)]
                            exact ⟨dv, by rw [show base + o + j - (base + o + sl * i.size) = j - old.length by omega]; exact g1, VRel.mono (put_le hR _ _) u dv g2⟩
                        · intro _ j hj1 hj2
                          have := q5 rfl (o + j) (by omega) (by omega)
                          rw [show base + o + j = base + (o + j) by omega]; exact this
                        · rw [vrel_slice]
                          refine ⟨a, c', cb, base + o, rfl, hroom, hroom, by simp, Where.put_same .., ?_, .inr (by rw [haa]; rfl)⟩
                          rw [Where.put_tot]; omega
                      · -- elsewhere
                        have hforget : Ev θ σ w θ ⟨delAll ps (σ.m.del b), σ.next⟩ w := ev_forget hR _ fun c0 k0 hc0 => by
                          rw [get_delAll, PT.get_del] at hc0
                          split at hc0
                          · simp at hc0
                          · split at hc0
                            · simp at hc0
                            · exact ⟨k0, hc0, .inl rfl⟩
                        exact ⟨_, _, _, hrun hroom, hforget.trans ((push_row (σ := ⟨delAll ps (σ.m.del b), σ.next⟩) (w := w.drew) (el := e) (xs := old ++ new) (fz := fz - o) hforget.rel hfit (fun j u hu => grown_row hov hnv' _ j u hu) (fun j _ _ => by simp)).congr rfl rfl rfl rfl),
                          vrel_newslice (σ := ⟨delAll ps (σ.m.del b), σ.next⟩) _ _ hcap hcap (by simp) hsize⟩
                    · simp at h
                  · simp at h
              · simp at h
            · simp at h
          · simp at h
  · simp at h

end Go.Am
