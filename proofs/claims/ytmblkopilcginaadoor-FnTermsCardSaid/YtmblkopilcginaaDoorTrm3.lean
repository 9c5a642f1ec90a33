/-
  laws.FnTerms: the card, by a typed machine over the code
-/
import Derived.Shelf.Strconv.Itoa0
import Derived.Shelf.Strconv.Itoa1
import Derived.Shelf.LaysM
import Derived.Shelf.Strconv.Itoa2
import Derived.Shelf.Strconv.Itoa3
import Derived.Shelf.Strings.Search1
import Derived.Shelf.Strings.Search2
import Derived.Shelf.Strings.Search3
import Derived.Shelf.Strings.Shaped
import Derived.Test.YtmblkopilcginaaDoorProg
import Derived.Test.YtmblkopilcginaaDoorTrm2
set_option linter.unusedVariables false
set_option linter.unusedSimpArgs false
set_option linter.unusedSectionVars false
namespace Go.Vm
open Go.Proofs

abbrev kT : C := .sl [.str, .str, .str]

set_option maxRecDepth 100000 in
set_option maxHeartbeats 1600000 in
theorem S23 (_ : Nat) : HSound Tryd.prog gl 23 false (hIns kT 48) := by
  have hE : EnvOK Tryd.prog (mkEnv tis gl 0 [] [] [] 0) := mkEnv_ok tis_ok calls_nil
  have ht : Tryd.prog.underlying 24 = some (.slice 29) := by kernel_rfl
  have ht3 : Tryd.prog.underlying 3 = some (.int .i64) := by kernel_rfl
  obtain ⟨info, d, z, q1, q2, q3, q4, q5, q6, q7, q8, q9⟩ := hE.ti 29 ⟨3, 48, true, [.str, .str, .str], .strct [(0, 9), (1, 9), (2, 9)]⟩ rfl
  have q2 : info.size = 3 := q2
  have q3 : info.bytes = 48 := q3
  have q8 : z.cells.size = 3 := q8
  have hs : ∀ w', (sizeOf 29).run Tryd.prog w' = .ok 3 w' := fun w' => by simp [sizeOf, typeInfo, q1, q2]
  refine ⟨hEnter_of Tryd.func23 (by kernel_rfl) (by kernel_rfl), ?_⟩
  intro R args vs c K r hok hgl hlen hargs hv
  unfold hIns at hv
  split at hv
  · rename_i b i b'
    split at hv
    · rename_i c1 xs1 c2 ys1 hm1 hm1'
      split at hv
      · rename_i xs ys hx hy
        have hm : c.mem[b]? = some (.arr kT xs) := by rw [hm1, cast?_eq hx]
        have hm' : c.mem[b']? = some (.arr kT ys) := by rw [hm1', cast?_eq hy]
        split at hv
        · cases hv
        rename_i hbb
        split at hv
        · cases hv
        rename_i hys
        split at hv
        · rename_i hi0
          split at hv
          · rename_i hin
            split at hv
            · rename_i hbytes
              obtain ⟨v0, e0, h0⟩ := hargs 0 _ rfl
              obtain ⟨v1, e1, h1⟩ := hargs 1 _ rfl
              obtain ⟨v2, e2, h2⟩ := hargs 2 _ rfl
              have hvs : vs = [v0, v1, v2] := by
                match vs, hlen with
                | [a0, a1, a2], _ => simp at e0 e1 e2; rw [e0, e1, e2]
              have h1 : v1 = .int .i64 i := by simpa [Cf.ra0, Cf.r1, enc, Rd] using h1
              obtain ⟨p, hp⟩ : ∃ p : Nat, i = p := ⟨i.toNat, by omega⟩
              subst hp
              have hpn : p ≤ lenC kT xs := by omega
              have hm0 : 0 < lenC kT ys := Nat.pos_of_ne_zero hys
              have hk : isSl kT = true := rfl
              have hw3 : (rowOf kT).length = 3 := rfl
              -- what is put in
              have hB' := (hok.blk b' _ hm').2
              have h2 : c.r1 (.ref b') v2 := h2
              simp only [Cf.r1, hm'] at h2
              rcases hB' with ⟨g', cap', cells', T', eb', hh', hsz', hlc', hrel'⟩ | ⟨_, hz'⟩
              · rcases h2 with ⟨g2, cap2, eb2, hv2⟩ | ⟨eb2, _⟩
                · rw [eb'] at eb2; cases eb2
                  let news := (cells'.toList.drop 0).take (lenC kT ys * 3)
                  have hul' : (cellsU kT ys).length = lenC kT ys * 3 := cellsU_len kT ys
                  have hc'l : lenC kT ys * 3 ≤ cells'.size := by rw [hsz', hw3]; exact Nat.mul_le_mul_right _ hlc'
                  have hnl : news.length = lenC kT ys * 3 := by
                    show ((cells'.toList.drop 0).take _).length = _
                    rw [List.length_take, List.length_drop, Array.length_toList]; omega
                  have hnr : RelU c.w c.Al (cellsU kT ys) news := by
                    have h := (RelU.take (w := c.w) (Al := c.Al) (us := cellsU kT ys) (l := cells'.toList) (fun j u hj => by
                      obtain ⟨x, hx, hr⟩ := hrel' j u hj
                      exact ⟨x, by simpa using hx, hr⟩) (lenC kT ys * 3))
                    rw [List.take_of_length_le (l := cellsU kT ys) (by rw [hul']; exact Nat.le_refl _)] at h
                    exact h
                  have hn1 := hnr.one (by rw [hnl, hul'])
                  have hnf : ∀ w' : World, w'.heap[g']? = some (.cells cells' T' (0, 0)) → (Builtin.firstCells 3 (lenC kT ys) v2).run Tryd.prog w' = .ok news.toArray w' := by
                    intro w' hw'
                    rw [hv2]
                    simp only [Builtin.firstCells]
                    exact row_first hw' (by omega)
                  have hg'lt : g' < c.w.heap.size := (Array.getElem?_eq_some_iff.1 hh').1
                  obtain ⟨news2, hsrc⟩ := src_ok (P := Tryd.prog) hok hk (y := .ref b') (v := v2) (by simp only [Cf.r1, hm']; exact .inl ⟨g', cap', eb', hv2⟩) (ys := ys) (by simp only [srcOf, slOf, hm', cast?, dif_pos (show C.beq kT kT = true from rfl)]; rfl)
                  have hnr2 : RelU c.w c.Al (cellsU kT ys) news2 := hsrc.rd
                  have hl2 : news2.length = lenC kT ys * 3 := hsrc.len
                  rw [Int.toNat_natCast] at hv
                  have hul : (cellsU kT xs).length = lenC kT xs * 3 := cellsU_len kT xs
                  have h0 : c.r1 (.ref b) v0 := h0
                  simp only [Cf.r1, hm] at h0
                  have hBk := (hok.blk b _ hm).2
                  have fin : ∀ {ar : List A0} {v : Value} {w' : World}, (∃ be', (⟨w', c.Al, be', c.mem.set b .dead ++ [.arr kT (insC kT xs p ys)]⟩ : Cf).ok ∧ c.To ⟨w', c.Al, be', c.mem.set b .dead ++ [.arr kT (insC kT xs p ys)]⟩ ∧
                      (⟨w', c.Al, be', c.mem.set b .dead ++ [.arr kT (insC kT xs p ys)]⟩ : Cf).r1 (.ref c.mem.length) v ∧
                      ∀ (b1 : Nat) (cs : List V) (g1 cap1 : Nat), c.mem[b1]? = some (.box cs) → c.be[b1]? = some (.blk g1 cap1) → w'.heap[g1]? = c.w.heap[g1]?) →
                      ∃ v1 av Al be mem', Ending.returned v = .returned v1 ∧ K av mem' = some r ∧ (⟨w', Al, be, mem'⟩ : Cf).ok ∧ c.To ⟨w', Al, be, mem'⟩ ∧ (⟨w', Al, be, mem'⟩ : Cf).ra av v1 ∧ (false = true → Ext c.w w') ∧ FrB c ar w' := by
                    rintro ar v w' ⟨be', g1, g2, g3, g4⟩
                    exact ⟨v, _, c.Al, be', _, rfl, hv, g1, g2, g3, (fun h => by cases h), fun b1 cs q cap1 h1 h2 _ => g4 b1 cs q cap1 h1 h2⟩
                  rw [hvs, h1, hv2]
                  rcases hBk with ⟨g, cap, cells, T, eb, hh, hsz, hlc, hrel⟩ | ⟨eb, hz⟩
                  · rcases h0 with ⟨g1, cap1, eb1, hv0⟩ | ⟨eb1, _⟩
                    · rw [eb] at eb1; cases eb1
                      rw [hv0]
                      have hgne : g' ≠ g := fun h => hbb (hok.inj b' b _ _ g' cap' cap hm' rfl eb' hm rfl (h ▸ eb))
                      have hcl : cells.toList.length = cap * 3 := by rw [Array.length_toList, hsz, hw3]
                      have hxs : RelU c.w c.Al (cellsU kT xs) cells.toList := fun j u hj => by
                        obtain ⟨x, hx, hr⟩ := hrel j u hj
                        exact ⟨x, by simpa using hx, hr⟩
                      have hnc3 : lenC kT xs * 3 ≤ cap * 3 := Nat.mul_le_mul_right _ hlc
                      have hp3 : p * 3 ≤ lenC kT xs * 3 := Nat.mul_le_mul_right _ hpn
                      let tail := (cells.toList.drop (p * 3)).take (lenC kT xs * 3 - p * 3)
                      have htl : tail.length = lenC kT xs * 3 - p * 3 := by
                        show ((cells.toList.drop (p * 3)).take _).length = _
                        rw [List.length_take, List.length_drop]; omega
                      have htr : RelU c.w c.Al ((cellsU kT xs).drop (p * 3)) tail := by
                        have h := (hxs.drop (p * 3)).take (lenC kT xs * 3 - p * 3)
                        rw [List.take_of_length_le (by rw [List.length_drop, hul]; exact Nat.le_refl _)] at h
                        exact h
                      have ht1 := htr.one (by rw [htl, List.length_drop, hul])
                      have relAll : ∀ (nw rest : List Value), RelU c.w c.Al (cellsU kT ys) nw → nw.length = lenC kT ys * 3 →
                          ∀ (j : Nat) (u : U), ((cellsU kT xs).take (p * (rowOf kT).length) ++ cellsU kT ys ++ (cellsU kT xs).drop (p * (rowOf kT).length))[j]? = some u →
                            ∃ x, (cells.toList.take (p * 3) ++ nw ++ tail ++ rest).toArray[j]? = some x ∧ Rd c.w c.Al u x := by
                        intro nw rest hnw hnwl j u hj
                        rw [hw3] at hj
                        have h := ((((hxs.take (p * 3)).app (by rw [List.length_take, List.length_take]; omega) hnw).app (by rw [List.length_append, List.length_append, List.length_take, List.length_take, hul', hnwl]; omega) htr).pre rest) j u hj
                        obtain ⟨x, hx, hr⟩ := h
                        exact ⟨x, by simpa using hx, hr⟩
                      by_cases hend : p = lenC kT xs
                      · subst hend
                        by_cases hroom : lenC kT xs + lenC kT ys ≤ cap
                        · have hfit3 : (lenC kT xs + lenC kT ys) * 3 ≤ cap * 3 := Nat.mul_le_mul_right _ hroom
                          rw [Nat.add_mul] at hfit3
                          have hr := fun ty => append_room (P := Tryd.prog) (ty := ty) ht hs hsrc (sCap := cap) (sLen := lenC kT xs) hh hroom (by rw [hl2, hsz, hw3]; omega)
                          rw [hv2] at hr
                          refine Calls.mono (ins_end (some ⟨g, 0, none⟩) (lenC kT xs) cap g' (lenC kT ys) cap' c.w _ _ hm0 (by simp) hr hlc) ?_
                          rintro e w' ⟨rfl, rfl⟩
                          refine fin (ins_move hok hk hm eb hpn (Only.setRow c.w g _) (setRow_heap c.w g _ _ T (0, 0) hh) ?_ hroom ?_)
                          · simp only [List.size_toArray]
                            rw [over_len _ _ _ (by rw [hcl, hl2]; omega), hcl, hw3]
                          · have htn : tail = [] := List.eq_nil_of_length_eq_zero (by rw [htl]; omega)
                            have h := relAll news2 (cells.toList.drop (lenC kT xs * 3 + news2.length)) hnr2 hl2
                            rw [htn, List.append_nil] at h
                            rw [over_eq, ← List.append_assoc]
                            exact h
                        · obtain ⟨rest, cap2, hg1, hg2, hr⟩ := append_grow (P := Tryd.prog) (ty := 24) ht q1 q2 q7 q8 (by rw [q3]; decide) hsrc (base := some ⟨g, 0, none⟩) (sLen := lenC kT xs) (sCap := cap) (old := (cells.toList.drop 0).take (lenC kT xs * 3))
                            (by simp only [Builtin.firstCells]; exact row_first hh (by rw [hsz, hw3]; omega)) (by omega) (by rw [q3]; omega)
                          have hty : ∀ ty X, Builtin.append_ #[24, 24] ty X = Builtin.append_ #[24, 24] 24 X := fun _ _ => rfl
                          rw [hv2] at hr
                          refine Calls.mono (ins_end (some ⟨g, 0, none⟩) (lenC kT xs) cap g' (lenC kT ys) cap' c.w _ _ hm0 (by simp) (fun ty => by rw [hty]; exact hr) hlc) ?_
                          rintro e w' ⟨rfl, rfl⟩
                          have hol : ((cells.toList.drop 0).take (lenC kT xs * 3)).length = lenC kT xs * 3 := by
                            rw [List.length_take, List.length_drop]; omega
                          refine fin (ins_new hok hk hm hpn (drew_alloc_ext c.w _) (Nat.le_refl _) (new_cells c.w.drew _ 29) ?_ hg1 ?_)
                          · rw [List.size_toArray, List.length_append, List.length_append, hol, hl2, hg2, ← Nat.add_mul, ← Nat.add_mul, hw3]
                            congr 1; omega
                          · have htn : tail = [] := List.eq_nil_of_length_eq_zero (by rw [htl]; omega)
                            have h := relAll news2 rest hnr2 hl2
                            rw [htn, List.append_nil] at h
                            exact h
                      · have hlt : p < lenC kT xs := by omega
                        have hbig : lenC kT xs + lenC kT ys ≤ 140737488355328 := by omega
                        have hpm : (p + lenC kT ys) * 3 = p * 3 + news.length := by rw [hnl, Nat.add_mul]
                        by_cases hroom : lenC kT xs + lenC kT ys ≤ cap
                        · have hfit3 : (lenC kT xs + lenC kT ys) * 3 ≤ cap * 3 := Nat.mul_le_mul_right _ hroom
                          rw [Nat.add_mul] at hfit3
                          have hpm3 : (p + lenC kT ys) * 3 = p * 3 + lenC kT ys * 3 := Nat.add_mul _ _ _
                          let W1 := c.w.drew.setRow g (over cells.toList ((p + lenC kT ys) * 3) tail).toArray
                          have hh1 : W1.heap[g]? = some (.cells (over cells.toList ((p + lenC kT ys) * 3) tail).toArray T (0, 0)) := setRow_heap c.w.drew g cells _ T (0, 0) hh
                          have hov1 : (over cells.toList ((p + lenC kT ys) * 3) tail).length = cap * 3 := by rw [over_len _ _ _ (by omega), hcl]
                          have hh1' : W1.heap[g']? = some (.cells cells' T' (0, 0)) := by
                            rw [(Only.setRow c.w.drew g _).block g' hgne]; exact hh'
                          have hcp1 : ∀ ty dc sc, (Builtin.copy_ #[24, 24] ty #[.slice (some ⟨g, (p + lenC kT ys) * 3, none⟩) (lenC kT xs + lenC kT ys - (p + lenC kT ys)) dc, .slice (some ⟨g, p * 3, none⟩) (lenC kT xs + lenC kT ys - p) sc]).run Tryd.prog c.w.drew = .ok (goInt (lenC kT xs - p)) W1 := by
                            intro ty dc sc
                            have hmin : Nat.min (lenC kT xs + lenC kT ys - p) (lenC kT xs + lenC kT ys - (p + lenC kT ys)) = lenC kT xs - p := by
                              rw [show Nat.min _ _ = _ from Nat.min_eq_right (by omega)]; omega
                            have h := copy_row (P := Tryd.prog) (ty := ty) ht hs (w := c.w.drew) (g := g) (o := (p + lenC kT ys) * 3) (dLen := lenC kT xs + lenC kT ys - (p + lenC kT ys)) (dCap := dc) (v := .slice (some ⟨g, p * 3, none⟩) (lenC kT xs + lenC kT ys - p) sc) rfl
                              (news := tail) (by
                                rw [hmin]
                                simp only [Builtin.firstCells]
                                have h := row_first (P := Tryd.prog) (w := c.w.drew) (g := g) (off := p * 3) (n := (lenC kT xs - p) * 3) hh (by rw [hsz, hw3, Nat.sub_mul]; omega)
                                rw [Nat.sub_mul] at h ⊢
                                exact h) hh (by rw [htl, hsz, hw3]; omega) ht1
                            rw [hmin] at h
                            rw [h]
                            congr 2
                            omega
                          have hcp2 : ∀ ty dc, (Builtin.copy_ #[24, 24] ty #[.slice (some ⟨g, p * 3, none⟩) (lenC kT xs + lenC kT ys - p) dc, .slice (some ⟨g', 0, none⟩) (lenC kT ys) cap']).run Tryd.prog W1 =
                              .ok (goInt (lenC kT ys)) (W1.setRow g (over (over cells.toList ((p + lenC kT ys) * 3) tail) (p * 3) news).toArray) := by
                            intro ty dc
                            have hmin : Nat.min (lenC kT ys) (lenC kT xs + lenC kT ys - p) = lenC kT ys := Nat.min_eq_left (by omega)
                            have h := copy_row (P := Tryd.prog) (ty := ty) ht hs (w := W1) (g := g) (o := p * 3) (dLen := lenC kT xs + lenC kT ys - p) (dCap := dc) hv2 (news := news) (by rw [hmin]; exact hnf W1 hh1') hh1 (by rw [hnl]; simp only [List.size_toArray, hov1]; omega) hn1
                            rw [hmin, hv2] at h
                            exact h
                          have hovl : ∀ lb cb, (callFunc 48 #[.slice (some ⟨g', 0, none⟩) (lenC kT ys) cap', .slice (some ⟨g, (p + lenC kT ys) * 3, none⟩) lb cb]).run Tryd.prog c.w = .ok (.value (.bool false)) c.w := by
                            intro lb cb
                            rw [run_callFunc_extern Tryd.func48 (by kernel_rfl) (by kernel_rfl) (by kernel_rfl) (e := Extern.SlicesOverlaps.overlaps #[24, 24] #[4]) (by kernel_rfl),
                              Lib.run_overlaps_apart c.w 24 4 29 ht 3 hs ⟨g', 0, none⟩ ⟨g, (p + lenC kT ys) * 3, none⟩ (lenC kT ys) cap' lb cb hgne T' T cells'.size cells.size (by simp [World.shape?, hh']) (by simp [World.shape?, hh]) (by rw [hsz, hw3]; omega) (by simp [World.frozen?, hh']) (by simp [World.frozen?, hh'])]
                            rfl
                          refine Calls.mono (ins_shift g (lenC kT xs) cap p g' (lenC kT ys) cap' c.w W1 _ hlt hm0 hroom hbig hovl hcp1 hcp2) ?_
                          rintro e w' ⟨rfl, rfl⟩
                          refine fin (ins_move hok hk hm eb hpn ?_ (cells := (over (over cells.toList ((p + lenC kT ys) * 3) tail) (p * 3) news).toArray) (T := T) ?_ ?_ hroom ?_)
                          · have o2 := Only.setRow c.w.drew g (over cells.toList ((p + lenC kT ys) * 3) tail).toArray
                            have o3 := Only.setRow W1 g (over (over cells.toList ((p + lenC kT ys) * 3) tail) (p * 3) news).toArray
                            exact ⟨o3.os.trans o2.os, o3.tape.trans o2.tape, o3.output.trans o2.output, o3.size.trans o2.size, fun q hq => (o3.block q hq).trans (o2.block q hq)⟩
                          · exact setRow_heap W1 g _ _ T (0, 0) hh1
                          · simp only [List.size_toArray]
                            rw [over_len _ _ _ (by rw [hov1, hnl]; omega), hov1, hw3]
                          · rw [two_over cells.toList tail news (p * 3) ((p + lenC kT ys) * 3) hpm (by omega)]
                            exact relAll news _ hnr hnl
                        · have hkk : (lenC kT xs : Int) + (lenC kT ys : Int) - (p : Int) = ((lenC kT xs + lenC kT ys - p : Nat) : Int) := by omega
                          have hik : p + (lenC kT xs + lenC kT ys - p) = lenC kT xs + lenC kT ys := by omega
                          let G := grownCap c.w (lenC kT xs + lenC kT ys) cap 29
                          have hG : lenC kT xs + lenC kT ys ≤ G := grownCap_ge c.w _ _ _
                          let olds := (cells.toList.drop 0).take (p * 3)
                          have hol : olds.length = p * 3 := by
                            show ((cells.toList.drop 0).take _).length = _
                            rw [List.length_take, List.length_drop]; omega
                          let ROW : Array Value := olds.toArray ++ Builtin.zeroCells z.cells (lenC kT xs + lenC kT ys - p) ++ Builtin.zeroCells z.cells (G - (lenC kT xs + lenC kT ys))
                          have hrs : ROW.size = G * 3 := by
                            show (olds.toArray ++ _ ++ _).size = _
                            simp only [Array.size_append, List.size_toArray, hol, Builtin.zeroCells, Array.size_map, Array.size_range, q8]
                            rw [← Nat.add_mul, hik, ← Nat.add_mul]
                            congr 1; omega
                          let W1 := c.w.drew.alloc (.cells ROW 29)
                          have hrz : ∀ ty, (Builtin.append_ #[24, 3] ty #[.slice (some ⟨g, 0, none⟩) p cap, .int .i64 ((lenC kT xs : Int) + (lenC kT ys : Int) - (p : Int))]).run Tryd.prog c.w =
                              .ok (.slice (some ⟨c.w.heap.size, 0, none⟩) (lenC kT xs + lenC kT ys) G) W1 := by
                            intro ty
                            have h := Lib.run_append_grow_zeros (P := Tryd.prog) c.w 24 3 ty 29 info z .i64 .i64 ht ht3 q1 q7 (some ⟨g, 0, none⟩) p cap olds
                              (by rw [q2]; simp only [Builtin.firstCells]; exact row_first hh (by rw [hsz, hw3]; omega)) (lenC kT xs + lenC kT ys - p) (by omega) (by omega) (by omega) (by omega) (by rw [q3]; omega)
                              (by rw [q3, hik]; exact growslice_fits (by omega) (by omega))
                            rw [hik] at h
                            rw [hkk]
                            exact h
                          have hW1 : W1.heap[c.w.heap.size]? = some (.cells ROW 29 (0, 0)) := new_cells c.w.drew ROW 29
                          have x1 : Ext c.w W1 := drew_alloc_ext c.w _
                          have hpm3 : (p + lenC kT ys) * 3 = p * 3 + lenC kT ys * 3 := Nat.add_mul _ _ _
                          have hG3 : (lenC kT xs + lenC kT ys) * 3 ≤ G * 3 := Nat.mul_le_mul_right _ hG
                          rw [Nat.add_mul] at hG3
                          have hrl : ROW.toList.length = G * 3 := by rw [Array.length_toList, hrs]
                          let W2 := W1.setRow c.w.heap.size (over ROW.toList (p * 3) news).toArray
                          have hW2 : W2.heap[c.w.heap.size]? = some (.cells (over ROW.toList (p * 3) news).toArray 29 (0, 0)) := setRow_heap W1 _ _ _ 29 (0, 0) hW1
                          have ho2 := Only.setRow W1 c.w.heap.size (over ROW.toList (p * 3) news).toArray
                          have hl1 : (over ROW.toList (p * 3) news).length = G * 3 := by rw [over_len _ _ _ (by rw [hnl]; omega), hrl]
                          have hg2 : W2.drew.heap[g]? = some (.cells cells T (0, 0)) := by
                            have hgl : g < c.w.heap.size := (Array.getElem?_eq_some_iff.1 hh).1
                            show W2.heap[g]? = _
                            rw [ho2.block g (by omega), x1.block g hgl]; exact hh
                          have hcpA : ∀ ty dc, (Builtin.copy_ #[24, 24] ty #[.slice (some ⟨c.w.heap.size, p * 3, none⟩) (lenC kT xs + lenC kT ys - p) dc, .slice (some ⟨g', 0, none⟩) (lenC kT ys) cap']).run Tryd.prog W1 = .ok (goInt (lenC kT ys)) W2 := by
                            intro ty dc
                            have hmin : Nat.min (lenC kT ys) (lenC kT xs + lenC kT ys - p) = lenC kT ys := Nat.min_eq_left (by omega)
                            have h := copy_row (P := Tryd.prog) (ty := ty) ht hs (w := W1) (g := c.w.heap.size) (o := p * 3) (dLen := lenC kT xs + lenC kT ys - p) (dCap := dc) hv2 (news := news) (by rw [hmin]; exact hnf W1 (by rw [x1.block g' hg'lt]; exact hh')) hW1 (by rw [hnl, hrs]; omega) hn1
                            rw [hmin, hv2] at h
                            exact h
                          have hcpB : ∀ ty dc sc, (Builtin.copy_ #[24, 24] ty #[.slice (some ⟨c.w.heap.size, (p + lenC kT ys) * 3, none⟩) (lenC kT xs + lenC kT ys - (p + lenC kT ys)) dc, .slice (some ⟨g, p * 3, none⟩) (lenC kT xs - p) sc]).run Tryd.prog W2.drew =
                              .ok (goInt (lenC kT xs - p)) (W2.drew.setRow c.w.heap.size (over (over ROW.toList (p * 3) news) ((p + lenC kT ys) * 3) tail).toArray) := by
                            intro ty dc sc
                            have hmin : Nat.min (lenC kT xs - p) (lenC kT xs + lenC kT ys - (p + lenC kT ys)) = lenC kT xs - p := by
                              rw [show Nat.min _ _ = _ from Nat.min_eq_left (by omega)]
                            have h := copy_row (P := Tryd.prog) (ty := ty) ht hs (w := W2.drew) (g := c.w.heap.size) (o := (p + lenC kT ys) * 3) (dLen := lenC kT xs + lenC kT ys - (p + lenC kT ys)) (dCap := dc) (v := .slice (some ⟨g, p * 3, none⟩) (lenC kT xs - p) sc) rfl
                              (news := tail) (by
                                rw [hmin]
                                simp only [Builtin.firstCells]
                                have h := row_first (P := Tryd.prog) (w := W2.drew) (g := g) (off := p * 3) (n := (lenC kT xs - p) * 3) hg2 (by rw [hsz, hw3, Nat.sub_mul]; omega)
                                rw [Nat.sub_mul] at h ⊢
                                exact h) hW2 (by rw [htl, List.size_toArray, hl1]; omega) ht1
                            rw [hmin] at h
                            rw [h]
                            congr 2
                            omega
                          refine Calls.mono (ins_grow g (lenC kT xs) cap p g' (lenC kT ys) cap' G c.w.heap.size c.w W1 W2 _ hlt hm0 hlc (by omega) hbig hG hrz hcpA hcpB) ?_
                          rintro e w' ⟨rfl, rfl⟩
                          have ho3 := Only.setRow W2.drew c.w.heap.size (over (over ROW.toList (p * 3) news) ((p + lenC kT ys) * 3) tail).toArray
                          refine fin (ins_new hok hk hm hpn ⟨ho3.os.trans (ho2.os.trans x1.os), ho3.tape.trans (ho2.tape.trans x1.tape), ho3.output.trans (ho2.output.trans x1.output), ?_, fun q hq => ?_⟩ (Nat.le_refl _) (setRow_heap W2.drew _ _ _ 29 (0, 0) hW2) ?_ hG ?_)
                          · rw [ho3.size]; show _ ≤ W2.heap.size; rw [ho2.size]; exact x1.size
                          · rw [ho3.block q (by omega)]; show W2.heap[q]? = _; rw [ho2.block q (by omega)]; exact x1.block q hq
                          · rw [List.size_toArray, over_len _ _ _ (by rw [hl1, htl]; omega), hl1, hw3]
                          · rw [over_two ROW.toList tail news (p * 3) ((p + lenC kT ys) * 3) hpm (by rw [hrl]; omega)]
                            have hrt : ROW.toList.take (p * 3) = cells.toList.take (p * 3) := by
                              show List.take (p * 3) (olds.toArray ++ _ ++ _).toList = _
                              rw [Array.toList_append, Array.toList_append, List.append_assoc, List.take_append, hol, Nat.sub_self, List.take_zero, List.append_nil, List.take_of_length_le (by rw [hol]; exact Nat.le_refl _)]
                              rfl
                            rw [hrt]
                            exact relAll news _ hnr hnl
                    · rw [eb] at eb1; cases eb1
                  · rcases h0 with ⟨g1, cap1, eb1, _⟩ | ⟨_, hv0⟩
                    · rw [eb] at eb1; cases eb1
                    · rw [hv0]
                      have hp0 : p = 0 := by omega
                      subst hp0
                      obtain ⟨rest, cap2, hg1, hg2, hr⟩ := append_grow (P := Tryd.prog) (ty := 24) ht q1 q2 q7 q8 (by rw [q3]; decide) hsrc (base := none) (sLen := 0) (sCap := 0) (old := [])
                        (by simp [Builtin.firstCells]) (by omega) (by rw [q3]; omega)
                      have hty : ∀ ty X, Builtin.append_ #[24, 24] ty X = Builtin.append_ #[24, 24] 24 X := fun _ _ => rfl
                      rw [hv2] at hr
                      have hcall := ins_end none 0 0 g' (lenC kT ys) cap' c.w _ _ hm0 (fun _ => rfl) (fun ty => by rw [hty]; exact hr) (Nat.le_refl _)
                      refine Calls.mono hcall ?_
                      rintro e w' ⟨rfl, rfl⟩
                      have hcu : cellsU kT xs = [] := List.eq_nil_of_length_eq_zero (by rw [hul, hz])
                      have h := ins_new (i := 0) (ys := ys) hok hk hm (Nat.zero_le _) (drew_alloc_ext c.w (.cells ([] ++ news2 ++ rest).toArray 29)) (Nat.le_refl _) (new_cells c.w.drew _ 29) (cap := cap2) (by
                        rw [List.size_toArray, List.length_append, List.nil_append, hl2, hg2, ← Nat.add_mul, hw3]
                        congr 1; omega) (by rw [hz]; exact hg1) (by
                        rw [hcu]
                        simp only [List.take_nil, List.drop_nil, List.nil_append, List.append_nil]
                        intro j u hj
                        obtain ⟨x, hx, hr⟩ := hnr2.pre rest j u hj
                        exact ⟨x, by simpa using hx, hr⟩)
                      rw [hz] at h
                      exact fin h
                · rw [eb'] at eb2; cases eb2
              · exact absurd hz' hys
            · cases hv
          · cases hv
        · cases hv
      · cases hv
    · cases hv
  · cases hv

end Go.Vm

/-
  DERIVED: THE SHELF's CONTRACTS AT THIS DUMP, IN PLAIN WORDS (tools/lay-plain.mjs out of 'TrydShelf.lean', which tools/lay-shelf.mjs wrote): THE SAME DECLARATIONS UNDER THE SAME NAMES: 'import', 'namespace', 'open', 'def', 'theorem' AND NOTHING ELSE: no command of the shelf's: FOR A HAND-IN. Each laying: the table of numbers ('.._ren') and one theorem, a field a fact of the dump's own or the kernel's comparison; each contract: ONE APPLICATION.
-/
namespace Go.Proofs
open Go.Shelf
def Tryd.lays129_ren : Go.Shelf.Ren := ⟨fun | 129 => 81 | n => n, fun | 53 => 51 | 3 => 3 | 4 => 4 | 46 => 87 | 5 => 5 | 9 => 9 | n => n, fun | n => n⟩
theorem Tryd.lays129 : Go.Proofs.Lays.n129 Tryd.prog Tryd.lays129_ren := {
  mixed := by kernel_rfl
  f129 := Tryd.func81.trans (congrArg some (by kernel_rfl))
  t3 := Tryd.underlying3
  a3 := Tryd.isAgg3
  z3 := Tryd.sizeOf3
  v3 := Tryd.zeroValue3
  t4 := Tryd.underlying4
  a4 := Tryd.isAgg4
  z4 := Tryd.sizeOf4
  v4 := Tryd.zeroValue4
  t5 := Tryd.underlying5
  a5 := Tryd.isAgg5
  z5 := Tryd.sizeOf5
  v5 := Tryd.zeroValue5
  t9 := Tryd.underlying9
  a9 := Tryd.isAgg9
  z9 := Tryd.sizeOf9
  v9 := Tryd.zeroValue9
  t46 := Tryd.underlying87
  a46 := Tryd.isAgg87
  z46 := Tryd.sizeOf87
  v46 := Tryd.zeroValue87
  t53 := Tryd.underlying51
  a53 := Tryd.isAgg51
  z53 := Tryd.sizeOf51
  v53 := Tryd.zeroValue51 }
/-- bits.Len64: "Len64 returns the minimum number of bits required to represent x; the result is 0 for x == 0.": IT RETURNS 'Lib.bitLen x'; the world is as it was. ('h0', 'h1': x is a uint64.) (LAID: no walk: one application.) -/
theorem Tryd.bits_Len64 (x : Int) (w : World) (h0 : 0 ≤ x) (h1 : x ≤ 18446744073709551615) :
    Calls Tryd.prog 81 #[.int .u64 x] w fun e w' => e = .returned (.int .i64 (Lib.bitLen x.toNat)) ∧ w' = w := Any.bits_Len64 Tryd.lays129 x w h0 h1
def Tryd.lays317_ren : Go.Shelf.Ren := ⟨fun | 317 => 80 | n => n, fun | 3 => 3 | 46 => 87 | n => n, fun | n => n⟩
theorem Tryd.lays317 : Go.Proofs.Lays.n317 Tryd.prog Tryd.lays317_ren := {
  mixed := by kernel_rfl
  f317 := Tryd.func80.trans (congrArg some (by kernel_rfl))
  t3 := Tryd.underlying3
  a3 := Tryd.isAgg3
  z3 := Tryd.sizeOf3
  v3 := Tryd.zeroValue3
  t46 := Tryd.underlying87
  a46 := Tryd.isAgg87
  z46 := Tryd.sizeOf87
  v46 := Tryd.zeroValue87 }
open Go.Lib in
/-- internal/strconv.log10Pow2: "log10Pow2(x) returns ⌊log₁₀ 2**x⌋ = ⌊x * log₁₀ 2⌋.": '(x * 78913) >> 18', at an x up to 64 (a length in bits). The world is as it was. (LAID: no walk: one application.) -/
theorem Tryd.internal_strconv_log10Pow2 (x : Nat) (h : x ≤ 64) (w : World) :
    Calls Tryd.prog 80 #[.int .i64 x] w fun e w' => e = .returned (.int .i64 (Lib.l10 x)) ∧ w' = w := Any.internal_strconv_log10Pow2 Tryd.lays317 x h w
def Tryd.lays318_ren : Go.Shelf.Ren := ⟨fun | 318 => 82 | n => n, fun | 3 => 3 | 4 => 4 | n => n, fun | n => n⟩
theorem Tryd.lays318 : Go.Proofs.Lays.n318 Tryd.prog Tryd.lays318_ren := {
  mixed := by kernel_rfl
  f318 := Tryd.func82.trans (congrArg some (by kernel_rfl))
  t3 := Tryd.underlying3
  a3 := Tryd.isAgg3
  z3 := Tryd.sizeOf3
  v3 := Tryd.zeroValue3
  t4 := Tryd.underlying4
  a4 := Tryd.isAgg4
  z4 := Tryd.sizeOf4
  v4 := Tryd.zeroValue4 }
open Go.Lib in
/-- internal/strconv.bool2: "bool2 converts b to an integer: 1 for true, 0 for false." The world is as it was. (LAID: no walk: one application.) -/
theorem Tryd.internal_strconv_bool2_int (b : Bool) (w : World) :
    Calls Tryd.prog 82 #[.bool b] w fun e w' => e = .returned (.int .i64 (if b then 1 else 0)) ∧ w' = w := Any.internal_strconv_bool2_int Tryd.lays318 b w
def Tryd.lays283_ren : Go.Shelf.Ren := ⟨fun | 283 => 71 | n => n, fun | 3 => 3 | 9 => 9 | 4 => 4 | n => n, fun | n => n⟩
theorem Tryd.lays283 : Go.Proofs.Lays.n283 Tryd.prog Tryd.lays283_ren := {
  mixed := by kernel_rfl
  f283 := Tryd.func71.trans (congrArg some (by kernel_rfl))
  t3 := Tryd.underlying3
  a3 := Tryd.isAgg3
  z3 := Tryd.sizeOf3
  v3 := Tryd.zeroValue3
  t4 := Tryd.underlying4
  a4 := Tryd.isAgg4
  z4 := Tryd.sizeOf4
  v4 := Tryd.zeroValue4
  t9 := Tryd.underlying9
  a9 := Tryd.isAgg9
  z9 := Tryd.sizeOf9
  v9 := Tryd.zeroValue9 }
open Go.Lib in
/-- internal/strconv.small: "small returns the string for an i with 0 <= i < nSmalls.": i's decimal numeral. The world is as it was. (LAID: no walk: one application.) -/
theorem Tryd.internal_strconv_small (i : Nat) (h : i < 100) (w : World) :
    Calls Tryd.prog 71 #[.int .i64 i] w fun e w' => e = .returned (.string ⟨(Lib.decDigits i).toArray⟩) ∧ w' = w := Any.internal_strconv_small Tryd.lays283 i h w
def Tryd.laysM284_ren : Go.Shelf.Ren := ⟨fun | 284 => 72 | 129 => 81 | 317 => 80 | 318 => 82 | n => n, fun | 53 => 51 | 3 => 3 | 212 => 97 | 0 => 0 | 4 => 4 | 46 => 87 | 5 => 5 | 9 => 9 | n => n, fun | 17 => 1 | n => n⟩
theorem Tryd.laysM284 : Go.Proofs.LaysM.n284 Tryd.prog Tryd.laysM284_ren := {
  mixed := by kernel_rfl
  f129 := Tryd.func81.trans (congrArg some (by kernel_rfl))
  f284 := Tryd.func72.trans (congrArg some (by kernel_rfl))
  f317 := Tryd.func80.trans (congrArg some (by kernel_rfl))
  f318 := Tryd.func82.trans (congrArg some (by kernel_rfl))
  t0 := Tryd.underlying0
  a0 := Tryd.isAgg0
  z0 := Tryd.sizeOf0
  v0 := Tryd.zeroValue0
  t3 := Tryd.underlying3
  a3 := Tryd.isAgg3
  z3 := Tryd.sizeOf3
  v3 := Tryd.zeroValue3
  t4 := Tryd.underlying4
  a4 := Tryd.isAgg4
  z4 := Tryd.sizeOf4
  v4 := Tryd.zeroValue4
  t5 := Tryd.underlying5
  a5 := Tryd.isAgg5
  z5 := Tryd.sizeOf5
  v5 := Tryd.zeroValue5
  t9 := Tryd.underlying9
  a9 := Tryd.isAgg9
  z9 := Tryd.sizeOf9
  v9 := Tryd.zeroValue9
  t46 := Tryd.underlying87
  a46 := Tryd.isAgg87
  z46 := Tryd.sizeOf87
  v46 := Tryd.zeroValue87
  t53 := Tryd.underlying51
  a53 := Tryd.isAgg51
  z53 := Tryd.sizeOf51
  v53 := Tryd.zeroValue51
  t212 := Tryd.underlying97
  a212 := Tryd.isAgg97
  z212 := Tryd.sizeOf97
  v212 := Tryd.zeroValue97
  g17 := by kernel_rfl
  i0 := by kernel_rfl
  i3 := by kernel_rfl
  i4 := by kernel_rfl
  i5 := by kernel_rfl
  i9 := by kernel_rfl
  i46 := by kernel_rfl
  i53 := by kernel_rfl
  i212 := by kernel_rfl
  m17 := by kernel_rfl }
open Go.Lib in
/-- internal/strconv.numDigits, at a d that is not 0: THE NUMBER OF d's DECIMAL DIGITS. The world is as it was. (LAID: no walk: one application.) -/
theorem Tryd.internal_strconv_numDigits (u : Nat) (h1 : 1 ≤ u) (h2 : u < 18446744073709551616) (w : World) (htab : Lib.TabIs Tryd.prog w "internal/strconv.uint64pow10" .u64 Lib.pow10Tab) :
    Calls Tryd.prog 72 #[.int .u64 u] w fun e w' => e = .returned (.int .i64 (Lib.nDigits u)) ∧ w' = w := Any.internal_strconv_numDigits Tryd.laysM284 u h1 h2 w htab
def Tryd.lays285_ren : Go.Shelf.Ren := ⟨fun | 285 => 73 | n => n, fun | 37 => 22 | 53 => 51 | 3 => 3 | 4 => 4 | 51 => 98 | 9 => 9 | 5 => 5 | 0 => 0 | n => n, fun | n => n⟩
theorem Tryd.lays285 : Go.Proofs.Lays.n285 Tryd.prog Tryd.lays285_ren := {
  mixed := by kernel_rfl
  f285 := Tryd.func73.trans (congrArg some (by kernel_rfl))
  t0 := Tryd.underlying0
  a0 := Tryd.isAgg0
  z0 := Tryd.sizeOf0
  v0 := Tryd.zeroValue0
  t3 := Tryd.underlying3
  a3 := Tryd.isAgg3
  z3 := Tryd.sizeOf3
  v3 := Tryd.zeroValue3
  t4 := Tryd.underlying4
  a4 := Tryd.isAgg4
  z4 := Tryd.sizeOf4
  v4 := Tryd.zeroValue4
  t5 := Tryd.underlying5
  a5 := Tryd.isAgg5
  z5 := Tryd.sizeOf5
  v5 := Tryd.zeroValue5
  t9 := Tryd.underlying9
  a9 := Tryd.isAgg9
  z9 := Tryd.sizeOf9
  v9 := Tryd.zeroValue9
  t37 := Tryd.underlying22
  a37 := Tryd.isAgg22
  z37 := Tryd.sizeOf22
  v37 := Tryd.zeroValue22
  t51 := Tryd.underlying98
  a51 := Tryd.isAgg98
  z51 := Tryd.sizeOf98
  v51 := Tryd.zeroValue98
  t53 := Tryd.underlying51
  a53 := Tryd.isAgg51
  z53 := Tryd.sizeOf51
  v53 := Tryd.zeroValue51 }
open Go.RowKit Go.Sort Go.Lib in
/-- internal/strconv.formatBase10: "formatBase10 formats the decimal representation of u into a. The caller is responsible for ensuring that a is big enough to hold u. If a is too big, leading zeros will be filled in as needed.": THE ROW HOLDS u's DIGITS ('FmtInv .. 0 ..': every place t holds 'dg u (len - 1 - t)'); all else is as it was but for the count of draws. (LAID: no walk: one application.) -/
theorem Tryd.internal_strconv_formatBase10 (blk off cap : Nat) (u : Nat) (d : Array UInt8) (w : World) (hH : Holds (fun (b : UInt8) => Value.int .u8 (b.toNat : Int)) w blk off d) (hu : u < 10 ^ d.size) (hu64 : u < 18446744073709551616) (hsz : d.size < 4611686018427387904) :
    Calls Tryd.prog 73 #[.slice (some ⟨blk, off, none⟩) d.size cap, .int .u64 u] w fun e w' =>
      e = .returned (.tuple #[]) ∧ ∃ (n v' : Nat) (dk : Array UInt8), w' = (putRow (fun (b : UInt8) => Value.int .u8 (b.toNat : Int)) w blk off dk).drewN n ∧ FmtInv d.size u 0 v' dk := Any.internal_strconv_formatBase10 Tryd.lays285 blk off cap u d w hH hu hu64 hsz
def Tryd.laysM246_ren : Go.Shelf.Ren := ⟨fun | 246 => 67 | 283 => 71 | 284 => 72 | 285 => 73 | 286 => 74 | 129 => 81 | 317 => 80 | 318 => 82 | 319 => 83 | 320 => 84 | 337 => 87 | 338 => 88 | n => n, fun | 2 => 2 | 3 => 3 | 9 => 9 | 4 => 4 | 171 => 90 | 0 => 0 | 53 => 51 | 37 => 22 | 5 => 5 | 173 => 93 | 212 => 97 | 51 => 98 | 20 => 20 | 213 => 99 | 46 => 87 | 232 => 104 | 233 => 105 | n => n, fun | 17 => 1 | 18 => 2 | 19 => 3 | n => n⟩
theorem Tryd.laysM246 : Go.Proofs.LaysM.n246 Tryd.prog Tryd.laysM246_ren := {
  mixed := by kernel_rfl
  f129 := Tryd.func81.trans (congrArg some (by kernel_rfl))
  f246 := Tryd.func67.trans (congrArg some (by kernel_rfl))
  f283 := Tryd.func71.trans (congrArg some (by kernel_rfl))
  f284 := Tryd.func72.trans (congrArg some (by kernel_rfl))
  f285 := Tryd.func73.trans (congrArg some (by kernel_rfl))
  f286 := Tryd.func74.trans (congrArg some (by kernel_rfl))
  f317 := Tryd.func80.trans (congrArg some (by kernel_rfl))
  f318 := Tryd.func82.trans (congrArg some (by kernel_rfl))
  f319 := Tryd.func83.trans (congrArg some (by kernel_rfl))
  f320 := Tryd.func84.trans (congrArg some (by kernel_rfl))
  f337 := Tryd.func87.trans (congrArg some (by kernel_rfl))
  f338 := Tryd.func88.trans (congrArg some (by kernel_rfl))
  t0 := Tryd.underlying0
  a0 := Tryd.isAgg0
  z0 := Tryd.sizeOf0
  v0 := Tryd.zeroValue0
  t2 := Tryd.underlying2
  a2 := Tryd.isAgg2
  z2 := Tryd.sizeOf2
  v2 := Tryd.zeroValue2
  t3 := Tryd.underlying3
  a3 := Tryd.isAgg3
  z3 := Tryd.sizeOf3
  v3 := Tryd.zeroValue3
  t4 := Tryd.underlying4
  a4 := Tryd.isAgg4
  z4 := Tryd.sizeOf4
  v4 := Tryd.zeroValue4
  t5 := Tryd.underlying5
  a5 := Tryd.isAgg5
  z5 := Tryd.sizeOf5
  v5 := Tryd.zeroValue5
  t9 := Tryd.underlying9
  a9 := Tryd.isAgg9
  z9 := Tryd.sizeOf9
  v9 := Tryd.zeroValue9
  t20 := Tryd.underlying20
  a20 := Tryd.isAgg20
  z20 := Tryd.sizeOf20
  v20 := Tryd.zeroValue20
  t37 := Tryd.underlying22
  a37 := Tryd.isAgg22
  z37 := Tryd.sizeOf22
  v37 := Tryd.zeroValue22
  t46 := Tryd.underlying87
  a46 := Tryd.isAgg87
  z46 := Tryd.sizeOf87
  v46 := Tryd.zeroValue87
  t51 := Tryd.underlying98
  a51 := Tryd.isAgg98
  z51 := Tryd.sizeOf98
  v51 := Tryd.zeroValue98
  t53 := Tryd.underlying51
  a53 := Tryd.isAgg51
  z53 := Tryd.sizeOf51
  v53 := Tryd.zeroValue51
  t171 := Tryd.underlying90
  a171 := Tryd.isAgg90
  z171 := Tryd.sizeOf90
  v171 := Tryd.zeroValue90
  t173 := Tryd.underlying93
  a173 := Tryd.isAgg93
  z173 := Tryd.sizeOf93
  v173 := Tryd.zeroValue93
  t212 := Tryd.underlying97
  a212 := Tryd.isAgg97
  z212 := Tryd.sizeOf97
  v212 := Tryd.zeroValue97
  t213 := Tryd.underlying99
  a213 := Tryd.isAgg99
  z213 := Tryd.sizeOf99
  t232 := Tryd.underlying104
  a232 := Tryd.isAgg104
  z232 := Tryd.sizeOf104
  v232 := Tryd.zeroValue104
  t233 := Tryd.underlying105
  a233 := Tryd.isAgg105
  z233 := Tryd.sizeOf105
  v233 := Tryd.zeroValue105
  g17 := by kernel_rfl
  g18 := by kernel_rfl
  g19 := by kernel_rfl
  i0 := by kernel_rfl
  i2 := by kernel_rfl
  i3 := by kernel_rfl
  i4 := by kernel_rfl
  i5 := by kernel_rfl
  i9 := by kernel_rfl
  i20 := by kernel_rfl
  i37 := by kernel_rfl
  i46 := by kernel_rfl
  i51 := by kernel_rfl
  i53 := by kernel_rfl
  i171 := by kernel_rfl
  i173 := by kernel_rfl
  i212 := by kernel_rfl
  i232 := by kernel_rfl
  i233 := by kernel_rfl
  m17 := by kernel_rfl
  m18 := by kernel_rfl
  m19 := by kernel_rfl }
open Go.RowKit Go.Sort Go.Lib in
/-- internal/strconv.FormatInt: "FormatInt returns the string representation of i in the given base": AT BASE 10: i's decimal numeral, for every int64. The world behind the call: the world before it, new blocks behind the heap, draws. (LAID: no walk: one application.) -/
theorem Tryd.internal_strconv_FormatInt_10 (n : Int) (h0 : -9223372036854775808 ≤ n) (h1 : n ≤ 9223372036854775807) (w : World) (htab : Lib.TabIs Tryd.prog w "internal/strconv.uint64pow10" .u64 Lib.pow10Tab) :
    Calls Tryd.prog 67 #[.int .i64 n, .int .i64 10] w fun e w' => e = .returned (.string ⟨(Lib.itoa n).toArray⟩) ∧ ∃ k os, w' = grow (w.drewN k) os := Any.internal_strconv_FormatInt_10 Tryd.laysM246 n h0 h1 w htab
def Tryd.lays246_ren : Go.Shelf.Ren := ⟨fun | 246 => 67 | 283 => 71 | 284 => 72 | 285 => 73 | 286 => 74 | 129 => 81 | 317 => 80 | 318 => 82 | 319 => 83 | 320 => 84 | 337 => 87 | 338 => 88 | n => n, fun | 2 => 2 | 3 => 3 | 9 => 9 | 4 => 4 | 171 => 90 | 0 => 0 | 53 => 51 | 37 => 22 | 5 => 5 | 173 => 93 | 212 => 97 | 51 => 98 | 20 => 20 | 213 => 99 | 46 => 87 | 232 => 104 | 233 => 105 | n => n, fun | 17 => 1 | 18 => 2 | 19 => 3 | n => n⟩
theorem Tryd.lays246 : Go.Proofs.Lays.n246 Tryd.prog Tryd.lays246_ren := {
  mixed := by kernel_rfl
  f129 := Tryd.func81.trans (congrArg some (by kernel_rfl))
  f246 := Tryd.func67.trans (congrArg some (by kernel_rfl))
  f283 := Tryd.func71.trans (congrArg some (by kernel_rfl))
  f284 := Tryd.func72.trans (congrArg some (by kernel_rfl))
  f285 := Tryd.func73.trans (congrArg some (by kernel_rfl))
  f286 := Tryd.func74.trans (congrArg some (by kernel_rfl))
  f317 := Tryd.func80.trans (congrArg some (by kernel_rfl))
  f318 := Tryd.func82.trans (congrArg some (by kernel_rfl))
  f319 := Tryd.func83.trans (congrArg some (by kernel_rfl))
  f320 := Tryd.func84.trans (congrArg some (by kernel_rfl))
  f337 := Tryd.func87.trans (congrArg some (by kernel_rfl))
  f338 := Tryd.func88.trans (congrArg some (by kernel_rfl))
  t0 := Tryd.underlying0
  a0 := Tryd.isAgg0
  z0 := Tryd.sizeOf0
  v0 := Tryd.zeroValue0
  t2 := Tryd.underlying2
  a2 := Tryd.isAgg2
  z2 := Tryd.sizeOf2
  v2 := Tryd.zeroValue2
  t3 := Tryd.underlying3
  a3 := Tryd.isAgg3
  z3 := Tryd.sizeOf3
  v3 := Tryd.zeroValue3
  t4 := Tryd.underlying4
  a4 := Tryd.isAgg4
  z4 := Tryd.sizeOf4
  v4 := Tryd.zeroValue4
  t5 := Tryd.underlying5
  a5 := Tryd.isAgg5
  z5 := Tryd.sizeOf5
  v5 := Tryd.zeroValue5
  t9 := Tryd.underlying9
  a9 := Tryd.isAgg9
  z9 := Tryd.sizeOf9
  v9 := Tryd.zeroValue9
  t20 := Tryd.underlying20
  a20 := Tryd.isAgg20
  z20 := Tryd.sizeOf20
  v20 := Tryd.zeroValue20
  t37 := Tryd.underlying22
  a37 := Tryd.isAgg22
  z37 := Tryd.sizeOf22
  v37 := Tryd.zeroValue22
  t46 := Tryd.underlying87
  a46 := Tryd.isAgg87
  z46 := Tryd.sizeOf87
  v46 := Tryd.zeroValue87
  t51 := Tryd.underlying98
  a51 := Tryd.isAgg98
  z51 := Tryd.sizeOf98
  v51 := Tryd.zeroValue98
  t53 := Tryd.underlying51
  a53 := Tryd.isAgg51
  z53 := Tryd.sizeOf51
  v53 := Tryd.zeroValue51
  t171 := Tryd.underlying90
  a171 := Tryd.isAgg90
  z171 := Tryd.sizeOf90
  v171 := Tryd.zeroValue90
  t173 := Tryd.underlying93
  a173 := Tryd.isAgg93
  z173 := Tryd.sizeOf93
  v173 := Tryd.zeroValue93
  t212 := Tryd.underlying97
  a212 := Tryd.isAgg97
  z212 := Tryd.sizeOf97
  v212 := Tryd.zeroValue97
  t213 := Tryd.underlying99
  a213 := Tryd.isAgg99
  z213 := Tryd.sizeOf99
  t232 := Tryd.underlying104
  a232 := Tryd.isAgg104
  z232 := Tryd.sizeOf104
  v232 := Tryd.zeroValue104
  t233 := Tryd.underlying105
  a233 := Tryd.isAgg105
  z233 := Tryd.sizeOf105
  v233 := Tryd.zeroValue105
  g17 := by kernel_rfl
  g18 := by kernel_rfl
  g19 := by kernel_rfl }
open Go.RowKit Go.Sort Go.Lib in
/-- THE ROAD WITHOUT THE TABLE: 0 <= i < 100: two constants are read, nothing is laid: no premise on the world, and the world is as it was. (LAID: no walk: one application.) -/
theorem Tryd.internal_strconv_FormatInt_10_small (i : Nat) (hi : i < 100) (w : World) :
    Calls Tryd.prog 67 #[.int .i64 i, .int .i64 10] w fun e w' => e = .returned (.string ⟨(Lib.decDigits i).toArray⟩) ∧ w' = w := Any.internal_strconv_FormatInt_10_small Tryd.lays246 i hi w
def Tryd.laysM243_ren : Go.Shelf.Ren := ⟨fun | 243 => 62 | 246 => 67 | 283 => 71 | 284 => 72 | 285 => 73 | 286 => 74 | 129 => 81 | 317 => 80 | 318 => 82 | 319 => 83 | 320 => 84 | 337 => 87 | 338 => 88 | n => n, fun | 3 => 3 | 9 => 9 | 2 => 2 | 4 => 4 | 171 => 90 | 0 => 0 | 53 => 51 | 37 => 22 | 5 => 5 | 173 => 93 | 212 => 97 | 51 => 98 | 20 => 20 | 213 => 99 | 46 => 87 | 232 => 104 | 233 => 105 | n => n, fun | 17 => 1 | 18 => 2 | 19 => 3 | n => n⟩
theorem Tryd.laysM243 : Go.Proofs.LaysM.n243 Tryd.prog Tryd.laysM243_ren := {
  mixed := by kernel_rfl
  f129 := Tryd.func81.trans (congrArg some (by kernel_rfl))
  f243 := Tryd.func62.trans (congrArg some (by kernel_rfl))
  f246 := Tryd.func67.trans (congrArg some (by kernel_rfl))
  f283 := Tryd.func71.trans (congrArg some (by kernel_rfl))
  f284 := Tryd.func72.trans (congrArg some (by kernel_rfl))
  f285 := Tryd.func73.trans (congrArg some (by kernel_rfl))
  f286 := Tryd.func74.trans (congrArg some (by kernel_rfl))
  f317 := Tryd.func80.trans (congrArg some (by kernel_rfl))
  f318 := Tryd.func82.trans (congrArg some (by kernel_rfl))
  f319 := Tryd.func83.trans (congrArg some (by kernel_rfl))
  f320 := Tryd.func84.trans (congrArg some (by kernel_rfl))
  f337 := Tryd.func87.trans (congrArg some (by kernel_rfl))
  f338 := Tryd.func88.trans (congrArg some (by kernel_rfl))
  t0 := Tryd.underlying0
  a0 := Tryd.isAgg0
  z0 := Tryd.sizeOf0
  v0 := Tryd.zeroValue0
  t2 := Tryd.underlying2
  a2 := Tryd.isAgg2
  z2 := Tryd.sizeOf2
  v2 := Tryd.zeroValue2
  t3 := Tryd.underlying3
  a3 := Tryd.isAgg3
  z3 := Tryd.sizeOf3
  v3 := Tryd.zeroValue3
  t4 := Tryd.underlying4
  a4 := Tryd.isAgg4
  z4 := Tryd.sizeOf4
  v4 := Tryd.zeroValue4
  t5 := Tryd.underlying5
  a5 := Tryd.isAgg5
  z5 := Tryd.sizeOf5
  v5 := Tryd.zeroValue5
  t9 := Tryd.underlying9
  a9 := Tryd.isAgg9
  z9 := Tryd.sizeOf9
  v9 := Tryd.zeroValue9
  t20 := Tryd.underlying20
  a20 := Tryd.isAgg20
  z20 := Tryd.sizeOf20
  v20 := Tryd.zeroValue20
  t37 := Tryd.underlying22
  a37 := Tryd.isAgg22
  z37 := Tryd.sizeOf22
  v37 := Tryd.zeroValue22
  t46 := Tryd.underlying87
  a46 := Tryd.isAgg87
  z46 := Tryd.sizeOf87
  v46 := Tryd.zeroValue87
  t51 := Tryd.underlying98
  a51 := Tryd.isAgg98
  z51 := Tryd.sizeOf98
  v51 := Tryd.zeroValue98
  t53 := Tryd.underlying51
  a53 := Tryd.isAgg51
  z53 := Tryd.sizeOf51
  v53 := Tryd.zeroValue51
  t171 := Tryd.underlying90
  a171 := Tryd.isAgg90
  z171 := Tryd.sizeOf90
  v171 := Tryd.zeroValue90
  t173 := Tryd.underlying93
  a173 := Tryd.isAgg93
  z173 := Tryd.sizeOf93
  v173 := Tryd.zeroValue93
  t212 := Tryd.underlying97
  a212 := Tryd.isAgg97
  z212 := Tryd.sizeOf97
  v212 := Tryd.zeroValue97
  t213 := Tryd.underlying99
  a213 := Tryd.isAgg99
  z213 := Tryd.sizeOf99
  t232 := Tryd.underlying104
  a232 := Tryd.isAgg104
  z232 := Tryd.sizeOf104
  v232 := Tryd.zeroValue104
  t233 := Tryd.underlying105
  a233 := Tryd.isAgg105
  z233 := Tryd.sizeOf105
  v233 := Tryd.zeroValue105
  g17 := by kernel_rfl
  g18 := by kernel_rfl
  g19 := by kernel_rfl
  i0 := by kernel_rfl
  i2 := by kernel_rfl
  i3 := by kernel_rfl
  i4 := by kernel_rfl
  i5 := by kernel_rfl
  i9 := by kernel_rfl
  i20 := by kernel_rfl
  i37 := by kernel_rfl
  i46 := by kernel_rfl
  i51 := by kernel_rfl
  i53 := by kernel_rfl
  i171 := by kernel_rfl
  i173 := by kernel_rfl
  i212 := by kernel_rfl
  i232 := by kernel_rfl
  i233 := by kernel_rfl
  m17 := by kernel_rfl
  m18 := by kernel_rfl
  m19 := by kernel_rfl }
open Go.RowKit Go.Sort Go.Lib in
/-- internal/strconv.Itoa: "Itoa is equivalent to FormatInt(int64(i), 10).": i's decimal numeral, for every int. (LAID: no walk: one application.) -/
theorem Tryd.internal_strconv_Itoa (n : Int) (h0 : -9223372036854775808 ≤ n) (h1 : n ≤ 9223372036854775807) (w : World) (htab : Lib.TabIs Tryd.prog w "internal/strconv.uint64pow10" .u64 Lib.pow10Tab) :
    Calls Tryd.prog 62 #[.int .i64 n] w fun e w' => e = .returned (.string ⟨(Lib.itoa n).toArray⟩) ∧ ∃ k os, w' = grow (w.drewN k) os := Any.internal_strconv_Itoa Tryd.laysM243 n h0 h1 w htab
def Tryd.lays243_ren : Go.Shelf.Ren := ⟨fun | 243 => 62 | 246 => 67 | 283 => 71 | 284 => 72 | 285 => 73 | 286 => 74 | 129 => 81 | 317 => 80 | 318 => 82 | 319 => 83 | 320 => 84 | 337 => 87 | 338 => 88 | n => n, fun | 3 => 3 | 9 => 9 | 2 => 2 | 4 => 4 | 171 => 90 | 0 => 0 | 53 => 51 | 37 => 22 | 5 => 5 | 173 => 93 | 212 => 97 | 51 => 98 | 20 => 20 | 213 => 99 | 46 => 87 | 232 => 104 | 233 => 105 | n => n, fun | 17 => 1 | 18 => 2 | 19 => 3 | n => n⟩
theorem Tryd.lays243 : Go.Proofs.Lays.n243 Tryd.prog Tryd.lays243_ren := {
  mixed := by kernel_rfl
  f129 := Tryd.func81.trans (congrArg some (by kernel_rfl))
  f243 := Tryd.func62.trans (congrArg some (by kernel_rfl))
  f246 := Tryd.func67.trans (congrArg some (by kernel_rfl))
  f283 := Tryd.func71.trans (congrArg some (by kernel_rfl))
  f284 := Tryd.func72.trans (congrArg some (by kernel_rfl))
  f285 := Tryd.func73.trans (congrArg some (by kernel_rfl))
  f286 := Tryd.func74.trans (congrArg some (by kernel_rfl))
  f317 := Tryd.func80.trans (congrArg some (by kernel_rfl))
  f318 := Tryd.func82.trans (congrArg some (by kernel_rfl))
  f319 := Tryd.func83.trans (congrArg some (by kernel_rfl))
  f320 := Tryd.func84.trans (congrArg some (by kernel_rfl))
  f337 := Tryd.func87.trans (congrArg some (by kernel_rfl))
  f338 := Tryd.func88.trans (congrArg some (by kernel_rfl))
  t0 := Tryd.underlying0
  a0 := Tryd.isAgg0
  z0 := Tryd.sizeOf0
  v0 := Tryd.zeroValue0
  t2 := Tryd.underlying2
  a2 := Tryd.isAgg2
  z2 := Tryd.sizeOf2
  v2 := Tryd.zeroValue2
  t3 := Tryd.underlying3
  a3 := Tryd.isAgg3
  z3 := Tryd.sizeOf3
  v3 := Tryd.zeroValue3
  t4 := Tryd.underlying4
  a4 := Tryd.isAgg4
  z4 := Tryd.sizeOf4
  v4 := Tryd.zeroValue4
  t5 := Tryd.underlying5
  a5 := Tryd.isAgg5
  z5 := Tryd.sizeOf5
  v5 := Tryd.zeroValue5
  t9 := Tryd.underlying9
  a9 := Tryd.isAgg9
  z9 := Tryd.sizeOf9
  v9 := Tryd.zeroValue9
  t20 := Tryd.underlying20
  a20 := Tryd.isAgg20
  z20 := Tryd.sizeOf20
  v20 := Tryd.zeroValue20
  t37 := Tryd.underlying22
  a37 := Tryd.isAgg22
  z37 := Tryd.sizeOf22
  v37 := Tryd.zeroValue22
  t46 := Tryd.underlying87
  a46 := Tryd.isAgg87
  z46 := Tryd.sizeOf87
  v46 := Tryd.zeroValue87
  t51 := Tryd.underlying98
  a51 := Tryd.isAgg98
  z51 := Tryd.sizeOf98
  v51 := Tryd.zeroValue98
  t53 := Tryd.underlying51
  a53 := Tryd.isAgg51
  z53 := Tryd.sizeOf51
  v53 := Tryd.zeroValue51
  t171 := Tryd.underlying90
  a171 := Tryd.isAgg90
  z171 := Tryd.sizeOf90
  v171 := Tryd.zeroValue90
  t173 := Tryd.underlying93
  a173 := Tryd.isAgg93
  z173 := Tryd.sizeOf93
  v173 := Tryd.zeroValue93
  t212 := Tryd.underlying97
  a212 := Tryd.isAgg97
  z212 := Tryd.sizeOf97
  v212 := Tryd.zeroValue97
  t213 := Tryd.underlying99
  a213 := Tryd.isAgg99
  z213 := Tryd.sizeOf99
  t232 := Tryd.underlying104
  a232 := Tryd.isAgg104
  z232 := Tryd.sizeOf104
  v232 := Tryd.zeroValue104
  t233 := Tryd.underlying105
  a233 := Tryd.isAgg105
  z233 := Tryd.sizeOf105
  v233 := Tryd.zeroValue105
  g17 := by kernel_rfl
  g18 := by kernel_rfl
  g19 := by kernel_rfl }
open Go.RowKit Go.Sort Go.Lib in
/-- THE ROAD WITHOUT THE TABLE: 0 <= i < 100. (LAID: no walk: one application.) -/
theorem Tryd.internal_strconv_Itoa_small (i : Nat) (hi : i < 100) (w : World) :
    Calls Tryd.prog 62 #[.int .i64 i] w fun e w' => e = .returned (.string ⟨(Lib.decDigits i).toArray⟩) ∧ w' = w := Any.internal_strconv_Itoa_small Tryd.lays243 i hi w
def Tryd.laysM171_ren : Go.Shelf.Ren := ⟨fun | 171 => 44 | 243 => 62 | 246 => 67 | 283 => 71 | 284 => 72 | 285 => 73 | 286 => 74 | 129 => 81 | 317 => 80 | 318 => 82 | 319 => 83 | 320 => 84 | 337 => 87 | 338 => 88 | n => n, fun | 3 => 3 | 9 => 9 | 2 => 2 | 4 => 4 | 171 => 90 | 0 => 0 | 53 => 51 | 37 => 22 | 5 => 5 | 173 => 93 | 212 => 97 | 51 => 98 | 20 => 20 | 213 => 99 | 46 => 87 | 232 => 104 | 233 => 105 | n => n, fun | 17 => 1 | 18 => 2 | 19 => 3 | n => n⟩
theorem Tryd.laysM171 : Go.Proofs.LaysM.n171 Tryd.prog Tryd.laysM171_ren := {
  mixed := by kernel_rfl
  f129 := Tryd.func81.trans (congrArg some (by kernel_rfl))
  f171 := Tryd.func44.trans (congrArg some (by kernel_rfl))
  f243 := Tryd.func62.trans (congrArg some (by kernel_rfl))
  f246 := Tryd.func67.trans (congrArg some (by kernel_rfl))
  f283 := Tryd.func71.trans (congrArg some (by kernel_rfl))
  f284 := Tryd.func72.trans (congrArg some (by kernel_rfl))
  f285 := Tryd.func73.trans (congrArg some (by kernel_rfl))
  f286 := Tryd.func74.trans (congrArg some (by kernel_rfl))
  f317 := Tryd.func80.trans (congrArg some (by kernel_rfl))
  f318 := Tryd.func82.trans (congrArg some (by kernel_rfl))
  f319 := Tryd.func83.trans (congrArg some (by kernel_rfl))
  f320 := Tryd.func84.trans (congrArg some (by kernel_rfl))
  f337 := Tryd.func87.trans (congrArg some (by kernel_rfl))
  f338 := Tryd.func88.trans (congrArg some (by kernel_rfl))
  t0 := Tryd.underlying0
  a0 := Tryd.isAgg0
  z0 := Tryd.sizeOf0
  v0 := Tryd.zeroValue0
  t2 := Tryd.underlying2
  a2 := Tryd.isAgg2
  z2 := Tryd.sizeOf2
  v2 := Tryd.zeroValue2
  t3 := Tryd.underlying3
  a3 := Tryd.isAgg3
  z3 := Tryd.sizeOf3
  v3 := Tryd.zeroValue3
  t4 := Tryd.underlying4
  a4 := Tryd.isAgg4
  z4 := Tryd.sizeOf4
  v4 := Tryd.zeroValue4
  t5 := Tryd.underlying5
  a5 := Tryd.isAgg5
  z5 := Tryd.sizeOf5
  v5 := Tryd.zeroValue5
  t9 := Tryd.underlying9
  a9 := Tryd.isAgg9
  z9 := Tryd.sizeOf9
  v9 := Tryd.zeroValue9
  t20 := Tryd.underlying20
  a20 := Tryd.isAgg20
  z20 := Tryd.sizeOf20
  v20 := Tryd.zeroValue20
  t37 := Tryd.underlying22
  a37 := Tryd.isAgg22
  z37 := Tryd.sizeOf22
  v37 := Tryd.zeroValue22
  t46 := Tryd.underlying87
  a46 := Tryd.isAgg87
  z46 := Tryd.sizeOf87
  v46 := Tryd.zeroValue87
  t51 := Tryd.underlying98
  a51 := Tryd.isAgg98
  z51 := Tryd.sizeOf98
  v51 := Tryd.zeroValue98
  t53 := Tryd.underlying51
  a53 := Tryd.isAgg51
  z53 := Tryd.sizeOf51
  v53 := Tryd.zeroValue51
  t171 := Tryd.underlying90
  a171 := Tryd.isAgg90
  z171 := Tryd.sizeOf90
  v171 := Tryd.zeroValue90
  t173 := Tryd.underlying93
  a173 := Tryd.isAgg93
  z173 := Tryd.sizeOf93
  v173 := Tryd.zeroValue93
  t212 := Tryd.underlying97
  a212 := Tryd.isAgg97
  z212 := Tryd.sizeOf97
  v212 := Tryd.zeroValue97
  t213 := Tryd.underlying99
  a213 := Tryd.isAgg99
  z213 := Tryd.sizeOf99
  t232 := Tryd.underlying104
  a232 := Tryd.isAgg104
  z232 := Tryd.sizeOf104
  v232 := Tryd.zeroValue104
  t233 := Tryd.underlying105
  a233 := Tryd.isAgg105
  z233 := Tryd.sizeOf105
  v233 := Tryd.zeroValue105
  g17 := by kernel_rfl
  g18 := by kernel_rfl
  g19 := by kernel_rfl
  i0 := by kernel_rfl
  i2 := by kernel_rfl
  i3 := by kernel_rfl
  i4 := by kernel_rfl
  i5 := by kernel_rfl
  i9 := by kernel_rfl
  i20 := by kernel_rfl
  i37 := by kernel_rfl
  i46 := by kernel_rfl
  i51 := by kernel_rfl
  i53 := by kernel_rfl
  i171 := by kernel_rfl
  i173 := by kernel_rfl
  i212 := by kernel_rfl
  i232 := by kernel_rfl
  i233 := by kernel_rfl
  m17 := by kernel_rfl
  m18 := by kernel_rfl
  m19 := by kernel_rfl }
open Go.RowKit Go.Sort Go.Lib in
/-- strconv.Itoa: "Itoa is equivalent to FormatInt(int64(i), 10).": i's DECIMAL NUMERAL ('Lib.itoa': a '-' where i is negative, then the digits), FOR EVERY int. The world behind the call: the world before it, new blocks behind the heap (the library's 'var a [24]byte'), draws. (LAID: no walk: one application.) -/
theorem Tryd.strconv_Itoa (n : Int) (h0 : -9223372036854775808 ≤ n) (h1 : n ≤ 9223372036854775807) (w : World) (htab : Lib.TabIs Tryd.prog w "internal/strconv.uint64pow10" .u64 Lib.pow10Tab) :
    Calls Tryd.prog 44 #[.int .i64 n] w fun e w' => e = .returned (.string ⟨(Lib.itoa n).toArray⟩) ∧ ∃ k os, w' = grow (w.drewN k) os := Any.strconv_Itoa Tryd.laysM171 n h0 h1 w htab
def Tryd.lays171_ren : Go.Shelf.Ren := ⟨fun | 171 => 44 | 243 => 62 | 246 => 67 | 283 => 71 | 284 => 72 | 285 => 73 | 286 => 74 | 129 => 81 | 317 => 80 | 318 => 82 | 319 => 83 | 320 => 84 | 337 => 87 | 338 => 88 | n => n, fun | 3 => 3 | 9 => 9 | 2 => 2 | 4 => 4 | 171 => 90 | 0 => 0 | 53 => 51 | 37 => 22 | 5 => 5 | 173 => 93 | 212 => 97 | 51 => 98 | 20 => 20 | 213 => 99 | 46 => 87 | 232 => 104 | 233 => 105 | n => n, fun | 17 => 1 | 18 => 2 | 19 => 3 | n => n⟩
theorem Tryd.lays171 : Go.Proofs.Lays.n171 Tryd.prog Tryd.lays171_ren := {
  mixed := by kernel_rfl
  f129 := Tryd.func81.trans (congrArg some (by kernel_rfl))
  f171 := Tryd.func44.trans (congrArg some (by kernel_rfl))
  f243 := Tryd.func62.trans (congrArg some (by kernel_rfl))
  f246 := Tryd.func67.trans (congrArg some (by kernel_rfl))
  f283 := Tryd.func71.trans (congrArg some (by kernel_rfl))
  f284 := Tryd.func72.trans (congrArg some (by kernel_rfl))
  f285 := Tryd.func73.trans (congrArg some (by kernel_rfl))
  f286 := Tryd.func74.trans (congrArg some (by kernel_rfl))
  f317 := Tryd.func80.trans (congrArg some (by kernel_rfl))
  f318 := Tryd.func82.trans (congrArg some (by kernel_rfl))
  f319 := Tryd.func83.trans (congrArg some (by kernel_rfl))
  f320 := Tryd.func84.trans (congrArg some (by kernel_rfl))
  f337 := Tryd.func87.trans (congrArg some (by kernel_rfl))
  f338 := Tryd.func88.trans (congrArg some (by kernel_rfl))
  t0 := Tryd.underlying0
  a0 := Tryd.isAgg0
  z0 := Tryd.sizeOf0
  v0 := Tryd.zeroValue0
  t2 := Tryd.underlying2
  a2 := Tryd.isAgg2
  z2 := Tryd.sizeOf2
  v2 := Tryd.zeroValue2
  t3 := Tryd.underlying3
  a3 := Tryd.isAgg3
  z3 := Tryd.sizeOf3
  v3 := Tryd.zeroValue3
  t4 := Tryd.underlying4
  a4 := Tryd.isAgg4
  z4 := Tryd.sizeOf4
  v4 := Tryd.zeroValue4
  t5 := Tryd.underlying5
  a5 := Tryd.isAgg5
  z5 := Tryd.sizeOf5
  v5 := Tryd.zeroValue5
  t9 := Tryd.underlying9
  a9 := Tryd.isAgg9
  z9 := Tryd.sizeOf9
  v9 := Tryd.zeroValue9
  t20 := Tryd.underlying20
  a20 := Tryd.isAgg20
  z20 := Tryd.sizeOf20
  v20 := Tryd.zeroValue20
  t37 := Tryd.underlying22
  a37 := Tryd.isAgg22
  z37 := Tryd.sizeOf22
  v37 := Tryd.zeroValue22
  t46 := Tryd.underlying87
  a46 := Tryd.isAgg87
  z46 := Tryd.sizeOf87
  v46 := Tryd.zeroValue87
  t51 := Tryd.underlying98
  a51 := Tryd.isAgg98
  z51 := Tryd.sizeOf98
  v51 := Tryd.zeroValue98
  t53 := Tryd.underlying51
  a53 := Tryd.isAgg51
  z53 := Tryd.sizeOf51
  v53 := Tryd.zeroValue51
  t171 := Tryd.underlying90
  a171 := Tryd.isAgg90
  z171 := Tryd.sizeOf90
  v171 := Tryd.zeroValue90
  t173 := Tryd.underlying93
  a173 := Tryd.isAgg93
  z173 := Tryd.sizeOf93
  v173 := Tryd.zeroValue93
  t212 := Tryd.underlying97
  a212 := Tryd.isAgg97
  z212 := Tryd.sizeOf97
  v212 := Tryd.zeroValue97
  t213 := Tryd.underlying99
  a213 := Tryd.isAgg99
  z213 := Tryd.sizeOf99
  t232 := Tryd.underlying104
  a232 := Tryd.isAgg104
  z232 := Tryd.sizeOf104
  v232 := Tryd.zeroValue104
  t233 := Tryd.underlying105
  a233 := Tryd.isAgg105
  z233 := Tryd.sizeOf105
  v233 := Tryd.zeroValue105
  g17 := by kernel_rfl
  g18 := by kernel_rfl
  g19 := by kernel_rfl }
open Go.RowKit Go.Sort Go.Lib in
/-- THE ROAD WITHOUT THE TABLE: 0 <= i < 100: NO PREMISE ON THE WORLD, AND THE WORLD IS AS IT WAS: a row that keeps its argument in that range need list no table ('laid = []'). (LAID: no walk: one application.) -/
theorem Tryd.strconv_Itoa_small (i : Nat) (hi : i < 100) (w : World) :
    Calls Tryd.prog 44 #[.int .i64 i] w fun e w' => e = .returned (.string ⟨(Lib.decDigits i).toArray⟩) ∧ w' = w := Any.strconv_Itoa_small Tryd.lays171 i hi w
def Tryd.lays217_ren : Go.Shelf.Ren := ⟨fun | 217 => 76 | 266 => 85 | n => n, fun | 9 => 9 | 5 => 5 | 3 => 3 | n => n, fun | n => n⟩
theorem Tryd.lays217 : Go.Proofs.Lays.n217 Tryd.prog Tryd.lays217_ren := {
  mixed := by kernel_rfl
  f217 := Tryd.func76.trans (congrArg some (by kernel_rfl))
  f266 := Tryd.func85.trans (congrArg some (by kernel_rfl))
  t3 := Tryd.underlying3
  a3 := Tryd.isAgg3
  z3 := Tryd.sizeOf3
  v3 := Tryd.zeroValue3
  t5 := Tryd.underlying5
  a5 := Tryd.isAgg5
  z5 := Tryd.sizeOf5
  v5 := Tryd.zeroValue5
  t9 := Tryd.underlying9
  a9 := Tryd.isAgg9
  z9 := Tryd.sizeOf9
  v9 := Tryd.zeroValue9 }
open Go.RowKit Go.Lib in
/-- internal/stringslite.IndexByte (what strings.IndexByte calls): IT RETURNS 'Lib.indexByte s c'; the world is as it was. (LAID: no walk: one application.) -/
theorem Tryd.stringslite_IndexByte (s : ByteArray) (c : Int) (w : World) :
    Calls Tryd.prog 76 #[.string s, .int .u8 c] w fun e w' => e = .returned (.int .i64 (Lib.indexByte s.data.toList c.toNat.toUInt8)) ∧ w' = w := Any.stringslite_IndexByte Tryd.lays217 s c w
def Tryd.lays224_ren : Go.Shelf.Ren := ⟨fun | 224 => 78 | n => n, fun | 3 => 3 | n => n, fun | n => n⟩
theorem Tryd.lays224 : Go.Proofs.Lays.n224 Tryd.prog Tryd.lays224_ren := {
  mixed := by kernel_rfl
  f224 := Tryd.func78.trans (congrArg some (by kernel_rfl))
  t3 := Tryd.underlying3
  a3 := Tryd.isAgg3
  z3 := Tryd.sizeOf3
  v3 := Tryd.zeroValue3 }
open Go.RowKit Go.Lib in
/-- internal/bytealg.Cutover: "Cutover reports the number of failures of IndexByte we should tolerate before switching over to Index. n is the number of bytes processed so far.": on amd64: (n + 16) / 8. (LAID: no walk: one application.) -/
theorem Tryd.bytealg_Cutover (n : Int) (h0 : 0 ≤ n) (h1 : n < 4611686018427387904) (w : World) :
    Calls Tryd.prog 78 #[.int .i64 n] w fun e w' => e = .returned (.int .i64 ((n + 16) / 8)) ∧ w' = w := Any.bytealg_Cutover Tryd.lays224 n h0 h1 w
def Tryd.lays314_ren : Go.Shelf.Ren := ⟨fun | 314 => 86 | n => n, fun | 9 => 9 | 51 => 98 | 3 => 3 | 4 => 4 | 5 => 5 | 46 => 87 | n => n, fun | n => n⟩
theorem Tryd.lays314 : Go.Proofs.Lays.n314 Tryd.prog Tryd.lays314_ren := {
  mixed := by kernel_rfl
  f314 := Tryd.func86.trans (congrArg some (by kernel_rfl))
  t3 := Tryd.underlying3
  a3 := Tryd.isAgg3
  z3 := Tryd.sizeOf3
  v3 := Tryd.zeroValue3
  t4 := Tryd.underlying4
  a4 := Tryd.isAgg4
  z4 := Tryd.sizeOf4
  v4 := Tryd.zeroValue4
  t5 := Tryd.underlying5
  a5 := Tryd.isAgg5
  z5 := Tryd.sizeOf5
  v5 := Tryd.zeroValue5
  t9 := Tryd.underlying9
  a9 := Tryd.isAgg9
  z9 := Tryd.sizeOf9
  v9 := Tryd.zeroValue9
  t46 := Tryd.underlying87
  a46 := Tryd.isAgg87
  z46 := Tryd.sizeOf87
  v46 := Tryd.zeroValue87
  t51 := Tryd.underlying98
  a51 := Tryd.isAgg98
  z51 := Tryd.sizeOf98
  v51 := Tryd.zeroValue98 }
open Go.RowKit Go.Lib in
/-- hashStr: "returns the hash and the appropriate multiplicative factor for use in Rabin-Karp algorithm": THE HASH OF ALL OF sep, AND 16777619 ^ len(sep), both in uint32. (LAID: no walk: one application.) -/
theorem Tryd.bytealg_hashStr (sep : ByteArray) (hs : sep.size < 4294967281) (w : World) :
    Calls Tryd.prog 86 #[.string sep] w fun e w' => e = .returned (.tuple #[.int .u32 (RK.H sep.data.toList % 4294967296), .int .u32 (16777619 ^ sep.size % 4294967296)]) ∧ w' = w := Any.bytealg_hashStr Tryd.lays314 sep hs w
def Tryd.lays267_ren : Go.Shelf.Ren := ⟨fun | 267 => 79 | 314 => 86 | n => n, fun | 9 => 9 | 3 => 3 | 146 => 101 | 51 => 98 | 4 => 4 | 5 => 5 | 46 => 87 | n => n, fun | n => n⟩
theorem Tryd.lays267 : Go.Proofs.Lays.n267 Tryd.prog Tryd.lays267_ren := {
  mixed := by kernel_rfl
  f267 := Tryd.func79.trans (congrArg some (by kernel_rfl))
  f314 := Tryd.func86.trans (congrArg some (by kernel_rfl))
  t3 := Tryd.underlying3
  a3 := Tryd.isAgg3
  z3 := Tryd.sizeOf3
  v3 := Tryd.zeroValue3
  t4 := Tryd.underlying4
  a4 := Tryd.isAgg4
  z4 := Tryd.sizeOf4
  v4 := Tryd.zeroValue4
  t5 := Tryd.underlying5
  a5 := Tryd.isAgg5
  z5 := Tryd.sizeOf5
  v5 := Tryd.zeroValue5
  t9 := Tryd.underlying9
  a9 := Tryd.isAgg9
  z9 := Tryd.sizeOf9
  v9 := Tryd.zeroValue9
  t46 := Tryd.underlying87
  a46 := Tryd.isAgg87
  z46 := Tryd.sizeOf87
  v46 := Tryd.zeroValue87
  t51 := Tryd.underlying98
  a51 := Tryd.isAgg98
  z51 := Tryd.sizeOf98
  v51 := Tryd.zeroValue98
  t146 := Tryd.underlying101
  a146 := Tryd.isAgg101
  z146 := Tryd.sizeOf101
  v146 := Tryd.zeroValue101 }
open Go.RowKit Go.Lib in
theorem Tryd.bytealg_IndexRabinKarp (s sep : ByteArray) (h1 : 1 ≤ sep.size) (h2 : sep.size ≤ s.size) (hs : s.size < 4294967281) (w : World) :
    Calls Tryd.prog 79 #[.string s, .string sep] w fun e w' => e = .returned (.int .i64 (Lib.index s.data.toList sep.data.toList)) ∧ w' = w := Any.bytealg_IndexRabinKarp Tryd.lays267 s sep h1 h2 hs w
def Tryd.lays219_ren : Go.Shelf.Ren := ⟨fun | 219 => 70 | 217 => 76 | 225 => 77 | 224 => 78 | 267 => 79 | 266 => 85 | 314 => 86 | n => n, fun | 9 => 9 | 3 => 3 | 4 => 4 | 5 => 5 | 46 => 87 | 146 => 101 | 51 => 98 | n => n, fun | 1 => 0 | n => n⟩
theorem Tryd.lays219 : Go.Proofs.Lays.n219 Tryd.prog Tryd.lays219_ren := {
  mixed := by kernel_rfl
  f217 := Tryd.func76.trans (congrArg some (by kernel_rfl))
  f219 := Tryd.func70.trans (congrArg some (by kernel_rfl))
  f224 := Tryd.func78.trans (congrArg some (by kernel_rfl))
  f225 := Tryd.func77.trans (congrArg some (by kernel_rfl))
  f266 := Tryd.func85.trans (congrArg some (by kernel_rfl))
  f267 := Tryd.func79.trans (congrArg some (by kernel_rfl))
  f314 := Tryd.func86.trans (congrArg some (by kernel_rfl))
  t3 := Tryd.underlying3
  a3 := Tryd.isAgg3
  z3 := Tryd.sizeOf3
  v3 := Tryd.zeroValue3
  t4 := Tryd.underlying4
  a4 := Tryd.isAgg4
  z4 := Tryd.sizeOf4
  v4 := Tryd.zeroValue4
  t5 := Tryd.underlying5
  a5 := Tryd.isAgg5
  z5 := Tryd.sizeOf5
  v5 := Tryd.zeroValue5
  t9 := Tryd.underlying9
  a9 := Tryd.isAgg9
  z9 := Tryd.sizeOf9
  v9 := Tryd.zeroValue9
  t46 := Tryd.underlying87
  a46 := Tryd.isAgg87
  z46 := Tryd.sizeOf87
  v46 := Tryd.zeroValue87
  t51 := Tryd.underlying98
  a51 := Tryd.isAgg98
  z51 := Tryd.sizeOf98
  v51 := Tryd.zeroValue98
  t146 := Tryd.underlying101
  a146 := Tryd.isAgg101
  z146 := Tryd.sizeOf101
  v146 := Tryd.zeroValue101
  g1 := by kernel_rfl }
open Go.RowKit Go.Lib in
/-- internal/stringslite.Index (what strings.Index calls) AT A substr OF ONE BYTE c: IT RETURNS 'Lib.indexByte s c'; the world is as it was. (LAID: no walk: one application.) -/
theorem Tryd.stringslite_Index_one (s : ByteArray) (c : UInt8) (w : World) :
    Calls Tryd.prog 70 #[.string s, .string ⟨#[c]⟩] w fun e w' => e = .returned (.int .i64 (Lib.indexByte s.data.toList c)) ∧ w' = w := Any.stringslite_Index_one Tryd.lays219 s c w
open Go.RowKit Go.Lib in
/-- internal/stringslite.Index (what strings.Index calls) AT A substr OF WHATEVER LENGTH: IT RETURNS 'Lib.index s substr'; the world is as it was. 'm': what internal/bytealg.MaxLen holds: whatever. (LAID: no walk: one application.) -/
theorem Tryd.stringslite_Index (s sub : ByteArray) (m : Int) (w : World) (hs : s.size < 4294967281) (hm : w.cell? ⟨0, 0, none⟩ = some (.int .i64 m)) :
    Calls Tryd.prog 70 #[.string s, .string sub] w fun e w' => e = .returned (.int .i64 (Lib.index s.data.toList sub.data.toList)) ∧ w' = w := Any.stringslite_Index Tryd.lays219 s sub m w hs hm
def Tryd.lays143_ren : Go.Shelf.Ren := ⟨fun | 143 => 66 | 219 => 70 | 217 => 76 | 225 => 77 | 224 => 78 | 267 => 79 | 266 => 85 | 314 => 86 | n => n, fun | 9 => 9 | 3 => 3 | 4 => 4 | 5 => 5 | 46 => 87 | 146 => 101 | 51 => 98 | n => n, fun | 1 => 0 | n => n⟩
theorem Tryd.lays143 : Go.Proofs.Lays.n143 Tryd.prog Tryd.lays143_ren := {
  mixed := by kernel_rfl
  f143 := Tryd.func66.trans (congrArg some (by kernel_rfl))
  f217 := Tryd.func76.trans (congrArg some (by kernel_rfl))
  f219 := Tryd.func70.trans (congrArg some (by kernel_rfl))
  f224 := Tryd.func78.trans (congrArg some (by kernel_rfl))
  f225 := Tryd.func77.trans (congrArg some (by kernel_rfl))
  f266 := Tryd.func85.trans (congrArg some (by kernel_rfl))
  f267 := Tryd.func79.trans (congrArg some (by kernel_rfl))
  f314 := Tryd.func86.trans (congrArg some (by kernel_rfl))
  t3 := Tryd.underlying3
  a3 := Tryd.isAgg3
  z3 := Tryd.sizeOf3
  v3 := Tryd.zeroValue3
  t4 := Tryd.underlying4
  a4 := Tryd.isAgg4
  z4 := Tryd.sizeOf4
  v4 := Tryd.zeroValue4
  t5 := Tryd.underlying5
  a5 := Tryd.isAgg5
  z5 := Tryd.sizeOf5
  v5 := Tryd.zeroValue5
  t9 := Tryd.underlying9
  a9 := Tryd.isAgg9
  z9 := Tryd.sizeOf9
  v9 := Tryd.zeroValue9
  t46 := Tryd.underlying87
  a46 := Tryd.isAgg87
  z46 := Tryd.sizeOf87
  v46 := Tryd.zeroValue87
  t51 := Tryd.underlying98
  a51 := Tryd.isAgg98
  z51 := Tryd.sizeOf98
  v51 := Tryd.zeroValue98
  t146 := Tryd.underlying101
  a146 := Tryd.isAgg101
  z146 := Tryd.sizeOf101
  v146 := Tryd.zeroValue101
  g1 := by kernel_rfl }
open Go.RowKit Go.Lib in
/-- strings.Index: "Index returns the index of the first instance of substr in s, or -1 if substr is not present in s.": AT A substr OF ONE BYTE c: IT RETURNS 'Lib.indexByte s c'; the world is as it was. (LAID: no walk: one application.) -/
theorem Tryd.strings_Index_one (s : ByteArray) (c : UInt8) (w : World) :
    Calls Tryd.prog 66 #[.string s, .string ⟨#[c]⟩] w fun e w' => e = .returned (.int .i64 (Lib.indexByte s.data.toList c)) ∧ w' = w := Any.strings_Index_one Tryd.lays143 s c w
open Go.RowKit Go.Lib in
/-- strings.Index: "Index returns the index of the first instance of substr in s, or -1 if substr is not present in s.": IT RETURNS 'Lib.index s substr'; the world is as it was. (LAID: no walk: one application.) -/
theorem Tryd.strings_Index (s sub : ByteArray) (m : Int) (w : World) (hs : s.size < 4294967281) (hm : w.cell? ⟨0, 0, none⟩ = some (.int .i64 m)) :
    Calls Tryd.prog 66 #[.string s, .string sub] w fun e w' => e = .returned (.int .i64 (Lib.index s.data.toList sub.data.toList)) ∧ w' = w := Any.strings_Index Tryd.lays143 s sub m w hs hm
def Tryd.lays144_ren : Go.Shelf.Ren := ⟨fun | 144 => 60 | 143 => 66 | 219 => 70 | 217 => 76 | 225 => 77 | 224 => 78 | 267 => 79 | 266 => 85 | 314 => 86 | n => n, fun | 9 => 9 | 4 => 4 | 3 => 3 | 5 => 5 | 46 => 87 | 146 => 101 | 51 => 98 | n => n, fun | 1 => 0 | n => n⟩
theorem Tryd.lays144 : Go.Proofs.Lays.n144 Tryd.prog Tryd.lays144_ren := {
  mixed := by kernel_rfl
  f143 := Tryd.func66.trans (congrArg some (by kernel_rfl))
  f144 := Tryd.func60.trans (congrArg some (by kernel_rfl))
  f217 := Tryd.func76.trans (congrArg some (by kernel_rfl))
  f219 := Tryd.func70.trans (congrArg some (by kernel_rfl))
  f224 := Tryd.func78.trans (congrArg some (by kernel_rfl))
  f225 := Tryd.func77.trans (congrArg some (by kernel_rfl))
  f266 := Tryd.func85.trans (congrArg some (by kernel_rfl))
  f267 := Tryd.func79.trans (congrArg some (by kernel_rfl))
  f314 := Tryd.func86.trans (congrArg some (by kernel_rfl))
  t3 := Tryd.underlying3
  a3 := Tryd.isAgg3
  z3 := Tryd.sizeOf3
  v3 := Tryd.zeroValue3
  t4 := Tryd.underlying4
  a4 := Tryd.isAgg4
  z4 := Tryd.sizeOf4
  v4 := Tryd.zeroValue4
  t5 := Tryd.underlying5
  a5 := Tryd.isAgg5
  z5 := Tryd.sizeOf5
  v5 := Tryd.zeroValue5
  t9 := Tryd.underlying9
  a9 := Tryd.isAgg9
  z9 := Tryd.sizeOf9
  v9 := Tryd.zeroValue9
  t46 := Tryd.underlying87
  a46 := Tryd.isAgg87
  z46 := Tryd.sizeOf87
  v46 := Tryd.zeroValue87
  t51 := Tryd.underlying98
  a51 := Tryd.isAgg98
  z51 := Tryd.sizeOf98
  v51 := Tryd.zeroValue98
  t146 := Tryd.underlying101
  a146 := Tryd.isAgg101
  z146 := Tryd.sizeOf101
  v146 := Tryd.zeroValue101
  g1 := by kernel_rfl }
open Go.RowKit Go.Lib in
/-- strings.Contains: "Contains reports whether substr is within s.": AT A substr OF ONE BYTE c: IT RETURNS 'decide (0 ≤ Lib.indexByte s c)'; the world is as it was. (LAID: no walk: one application.) -/
theorem Tryd.strings_Contains_one (s : ByteArray) (c : UInt8) (w : World) :
    Calls Tryd.prog 60 #[.string s, .string ⟨#[c]⟩] w fun e w' => e = .returned (.bool (decide (0 ≤ Lib.indexByte s.data.toList c))) ∧ w' = w := Any.strings_Contains_one Tryd.lays144 s c w
open Go.RowKit Go.Lib in
/-- strings.Contains: "Contains reports whether substr is within s.": IT RETURNS 'Lib.contains s substr'; the world is as it was. (LAID: no walk: one application.) -/
theorem Tryd.strings_Contains (s sub : ByteArray) (m : Int) (w : World) (hs : s.size < 4294967281) (hm : w.cell? ⟨0, 0, none⟩ = some (.int .i64 m)) :
    Calls Tryd.prog 60 #[.string s, .string sub] w fun e w' => e = .returned (.bool (Lib.contains s.data.toList sub.data.toList)) ∧ w' = w := Any.strings_Contains Tryd.lays144 s sub m w hs hm
def Tryd.laysM219_ren : Go.Shelf.Ren := ⟨fun | 219 => 70 | 217 => 76 | 225 => 77 | 224 => 78 | 267 => 79 | 266 => 85 | 314 => 86 | n => n, fun | 9 => 9 | 3 => 3 | 4 => 4 | 5 => 5 | 46 => 87 | 146 => 101 | 51 => 98 | n => n, fun | 1 => 0 | n => n⟩
theorem Tryd.laysM219 : Go.Proofs.LaysM.n219 Tryd.prog Tryd.laysM219_ren := {
  mixed := by kernel_rfl
  f217 := Tryd.func76.trans (congrArg some (by kernel_rfl))
  f219 := Tryd.func70.trans (congrArg some (by kernel_rfl))
  f224 := Tryd.func78.trans (congrArg some (by kernel_rfl))
  f225 := Tryd.func77.trans (congrArg some (by kernel_rfl))
  f266 := Tryd.func85.trans (congrArg some (by kernel_rfl))
  f267 := Tryd.func79.trans (congrArg some (by kernel_rfl))
  f314 := Tryd.func86.trans (congrArg some (by kernel_rfl))
  t3 := Tryd.underlying3
  a3 := Tryd.isAgg3
  z3 := Tryd.sizeOf3
  v3 := Tryd.zeroValue3
  t4 := Tryd.underlying4
  a4 := Tryd.isAgg4
  z4 := Tryd.sizeOf4
  v4 := Tryd.zeroValue4
  t5 := Tryd.underlying5
  a5 := Tryd.isAgg5
  z5 := Tryd.sizeOf5
  v5 := Tryd.zeroValue5
  t9 := Tryd.underlying9
  a9 := Tryd.isAgg9
  z9 := Tryd.sizeOf9
  v9 := Tryd.zeroValue9
  t46 := Tryd.underlying87
  a46 := Tryd.isAgg87
  z46 := Tryd.sizeOf87
  v46 := Tryd.zeroValue87
  t51 := Tryd.underlying98
  a51 := Tryd.isAgg98
  z51 := Tryd.sizeOf98
  v51 := Tryd.zeroValue98
  t146 := Tryd.underlying101
  a146 := Tryd.isAgg101
  z146 := Tryd.sizeOf101
  v146 := Tryd.zeroValue101
  g1 := by kernel_rfl
  i3 := by kernel_rfl
  i4 := by kernel_rfl
  i5 := by kernel_rfl
  i9 := by kernel_rfl
  i46 := by kernel_rfl
  i51 := by kernel_rfl
  i146 := by kernel_rfl
  m1 := by kernel_rfl
  s1_3 := fun w h => Go.Proofs.cell_of_shapedOpen_int (zero := #[.int .i64 0]) (t := 3) h (of_decide_eq_true (by kernel_rfl)) (by kernel_rfl) rfl (by kernel_rfl) (by kernel_rfl) Tryd.underlying3 }
open Go.RowKit Go.Lib in
theorem Tryd.stringslite_Index_shaped (s sub : ByteArray) (w : World) (h : w.ShapedOpen Tryd.prog) (hs : s.size < 4294967281) :
    Calls Tryd.prog 70 #[.string s, .string sub] w fun e w' => e = .returned (.int .i64 (Lib.index s.data.toList sub.data.toList)) ∧ w' = w := Any.stringslite_Index_shaped Tryd.laysM219 s sub w h hs
def Tryd.laysM143_ren : Go.Shelf.Ren := ⟨fun | 143 => 66 | 219 => 70 | 217 => 76 | 225 => 77 | 224 => 78 | 267 => 79 | 266 => 85 | 314 => 86 | n => n, fun | 9 => 9 | 3 => 3 | 4 => 4 | 5 => 5 | 46 => 87 | 146 => 101 | 51 => 98 | n => n, fun | 1 => 0 | n => n⟩
theorem Tryd.laysM143 : Go.Proofs.LaysM.n143 Tryd.prog Tryd.laysM143_ren := {
  mixed := by kernel_rfl
  f143 := Tryd.func66.trans (congrArg some (by kernel_rfl))
  f217 := Tryd.func76.trans (congrArg some (by kernel_rfl))
  f219 := Tryd.func70.trans (congrArg some (by kernel_rfl))
  f224 := Tryd.func78.trans (congrArg some (by kernel_rfl))
  f225 := Tryd.func77.trans (congrArg some (by kernel_rfl))
  f266 := Tryd.func85.trans (congrArg some (by kernel_rfl))
  f267 := Tryd.func79.trans (congrArg some (by kernel_rfl))
  f314 := Tryd.func86.trans (congrArg some (by kernel_rfl))
  t3 := Tryd.underlying3
  a3 := Tryd.isAgg3
  z3 := Tryd.sizeOf3
  v3 := Tryd.zeroValue3
  t4 := Tryd.underlying4
  a4 := Tryd.isAgg4
  z4 := Tryd.sizeOf4
  v4 := Tryd.zeroValue4
  t5 := Tryd.underlying5
  a5 := Tryd.isAgg5
  z5 := Tryd.sizeOf5
  v5 := Tryd.zeroValue5
  t9 := Tryd.underlying9
  a9 := Tryd.isAgg9
  z9 := Tryd.sizeOf9
  v9 := Tryd.zeroValue9
  t46 := Tryd.underlying87
  a46 := Tryd.isAgg87
  z46 := Tryd.sizeOf87
  v46 := Tryd.zeroValue87
  t51 := Tryd.underlying98
  a51 := Tryd.isAgg98
  z51 := Tryd.sizeOf98
  v51 := Tryd.zeroValue98
  t146 := Tryd.underlying101
  a146 := Tryd.isAgg101
  z146 := Tryd.sizeOf101
  v146 := Tryd.zeroValue101
  g1 := by kernel_rfl
  i3 := by kernel_rfl
  i4 := by kernel_rfl
  i5 := by kernel_rfl
  i9 := by kernel_rfl
  i46 := by kernel_rfl
  i51 := by kernel_rfl
  i146 := by kernel_rfl
  m1 := by kernel_rfl
  s1_3 := fun w h => Go.Proofs.cell_of_shapedOpen_int (zero := #[.int .i64 0]) (t := 3) h (of_decide_eq_true (by kernel_rfl)) (by kernel_rfl) rfl (by kernel_rfl) (by kernel_rfl) Tryd.underlying3 }
open Go.RowKit Go.Lib in
theorem Tryd.strings_Index_shaped (s sub : ByteArray) (w : World) (h : w.ShapedOpen Tryd.prog) (hs : s.size < 4294967281) :
    Calls Tryd.prog 66 #[.string s, .string sub] w fun e w' => e = .returned (.int .i64 (Lib.index s.data.toList sub.data.toList)) ∧ w' = w := Any.strings_Index_shaped Tryd.laysM143 s sub w h hs
def Tryd.laysM144_ren : Go.Shelf.Ren := ⟨fun | 144 => 60 | 143 => 66 | 219 => 70 | 217 => 76 | 225 => 77 | 224 => 78 | 267 => 79 | 266 => 85 | 314 => 86 | n => n, fun | 9 => 9 | 4 => 4 | 3 => 3 | 5 => 5 | 46 => 87 | 146 => 101 | 51 => 98 | n => n, fun | 1 => 0 | n => n⟩
theorem Tryd.laysM144 : Go.Proofs.LaysM.n144 Tryd.prog Tryd.laysM144_ren := {
  mixed := by kernel_rfl
  f143 := Tryd.func66.trans (congrArg some (by kernel_rfl))
  f144 := Tryd.func60.trans (congrArg some (by kernel_rfl))
  f217 := Tryd.func76.trans (congrArg some (by kernel_rfl))
  f219 := Tryd.func70.trans (congrArg some (by kernel_rfl))
  f224 := Tryd.func78.trans (congrArg some (by kernel_rfl))
  f225 := Tryd.func77.trans (congrArg some (by kernel_rfl))
  f266 := Tryd.func85.trans (congrArg some (by kernel_rfl))
  f267 := Tryd.func79.trans (congrArg some (by kernel_rfl))
  f314 := Tryd.func86.trans (congrArg some (by kernel_rfl))
  t3 := Tryd.underlying3
  a3 := Tryd.isAgg3
  z3 := Tryd.sizeOf3
  v3 := Tryd.zeroValue3
  t4 := Tryd.underlying4
  a4 := Tryd.isAgg4
  z4 := Tryd.sizeOf4
  v4 := Tryd.zeroValue4
  t5 := Tryd.underlying5
  a5 := Tryd.isAgg5
  z5 := Tryd.sizeOf5
  v5 := Tryd.zeroValue5
  t9 := Tryd.underlying9
  a9 := Tryd.isAgg9
  z9 := Tryd.sizeOf9
  v9 := Tryd.zeroValue9
  t46 := Tryd.underlying87
  a46 := Tryd.isAgg87
  z46 := Tryd.sizeOf87
  v46 := Tryd.zeroValue87
  t51 := Tryd.underlying98
  a51 := Tryd.isAgg98
  z51 := Tryd.sizeOf98
  v51 := Tryd.zeroValue98
  t146 := Tryd.underlying101
  a146 := Tryd.isAgg101
  z146 := Tryd.sizeOf101
  v146 := Tryd.zeroValue101
  g1 := by kernel_rfl
  i3 := by kernel_rfl
  i4 := by kernel_rfl
  i5 := by kernel_rfl
  i9 := by kernel_rfl
  i46 := by kernel_rfl
  i51 := by kernel_rfl
  i146 := by kernel_rfl
  m1 := by kernel_rfl
  s1_3 := fun w h => Go.Proofs.cell_of_shapedOpen_int (zero := #[.int .i64 0]) (t := 3) h (of_decide_eq_true (by kernel_rfl)) (by kernel_rfl) rfl (by kernel_rfl) (by kernel_rfl) Tryd.underlying3 }
open Go.RowKit Go.Lib in
theorem Tryd.strings_Contains_shaped (s sub : ByteArray) (w : World) (h : w.ShapedOpen Tryd.prog) (hs : s.size < 4294967281) :
    Calls Tryd.prog 60 #[.string s, .string sub] w fun e w' => e = .returned (.bool (Lib.contains s.data.toList sub.data.toList)) ∧ w' = w := Any.strings_Contains_shaped Tryd.laysM144 s sub w h hs
end Go.Proofs

namespace Go.Vm

/-- A contract between values of one cell, told of worlds in which the tables stand, is a handler. -/
theorem hP_of_contract_ext {P : Program} {gl : Nat → V} {f : Nat} {ps : List PT} {c : C} {F : Args ps → Option (Res [.one false c])} (hen : HEnter P f) (hps : scalarPs ps = true) (hc : isScalar c = true)
    (hF : ∀ x r (cf : Cf), cf.ok → GlobOK gl cf → F x = some r → Calls P f (valArgs ps x).toArray cf.w fun e w' => e = .returned (valC c r.1) ∧ Ext cf.w w') : HSound P gl f true (hP ps [.one false c] F) := by
  refine ⟨hen, ?_⟩
  intro R args vs cf K r hok hgl hlen hargs hv
  unfold hP at hv
  split at hv
  · cases hv
  · rename_i x hx
    cases hFx : F x with
    | none => rw [hFx] at hv; cases hv
    | some y =>
      rw [hFx] at hv
      simp only [Option.bind_some] at hv
      let c0 : Cf := ⟨cf.w, fun g => cf.Al g ∨ cf.live g, [], []⟩
      obtain ⟨ha1, ha2, ha3⟩ := decArgs_ok (c0 := c0) hok rfl (fun g hg => .inl hg) (fun _ g hg => .inr hg) ps args x hx
      have hvs : vs = valArgs ps x := valArgs_of (c0 := c0) ps x vs hps (by rw [hlen, ha1, ha2]) (fun i a' ha' => by
        have hi : i < args.length := by rw [ha1, ← ha2]; exact (List.getElem?_eq_some_iff.1 ha').1
        obtain ⟨v, hv, hr⟩ := hargs i _ (List.getElem?_eq_getElem hi)
        exact ⟨v, hv, ha3 i _ a' v (List.getElem?_eq_getElem hi) ha' hr⟩)
      rw [hvs]
      refine Calls.mono (hF x y cf hok hgl hFx) fun e w' he => ?_
      obtain ⟨rfl, hext⟩ := he
      obtain ⟨g1, g2⟩ := step_ext hok hext
      refine ⟨valC c y.1, outOf (encRes [.one false c] y cf.mem.length), cf.Al, cf.be, cf.mem ++ blkRes [.one false c] y, rfl, hv, ?_, ?_, ?_, fun _ => hext, FrB.of_ext hok hext⟩
      · show (⟨w', cf.Al, cf.be, cf.mem ++ []⟩ : Cf).ok
        rw [List.append_nil]; exact g1
      · show cf.To ⟨w', cf.Al, cf.be, cf.mem ++ []⟩
        rw [List.append_nil]; exact g2
      · show Rd _ _ (enc c y.1) (valC c y.1)
        exact val_rd hc y.1

/-- A table of numbers that a program's variable holds. -/
theorem tab_of {gl : Nat → V} {cf : Cf} (hgl : GlobOK gl cf) {g : Nat} {k : IntKind} {zs : List Int} (h : gl g = .da (.sl1 (.int k)) zs) :
    ∃ T fr, cf.w.heap[g]? = some (.cells (zs.map fun z => Value.int k z).toArray T fr) := by
  have h1 := hgl g
  rw [h] at h1
  obtain ⟨g', off, hv, hg, hr, cells, T, fr, hh, hs⟩ := h1
  injection hv with hv; injection hv with hv; injection hv with hv hv2
  subst hv; subst hv2
  have hcu : cellsU (.sl1 (.int k)) zs = zs.map fun z => U.i k z := rfl
  rw [hcu] at hr hs
  refine ⟨T, fr, ?_⟩
  rw [hh]
  congr 2
  apply Array.ext'
  apply List.ext_getElem?
  intro i
  rw [Array.getElem?_toList, List.getElem?_map]
  by_cases hi : i < zs.length
  · obtain ⟨v, hv, hr⟩ := RdC_iff.1 hr i (.i k zs[i]) (by simp [hi])
    have hv' : cells[i]? = some v := by
      have : cf.w.cell? ⟨g, 0 + i, none⟩ = some v := hv
      simpa [World.cell?, hh] using this
    have hr : v = .int k zs[i] := hr
    rw [hv', hr, List.getElem?_eq_getElem hi]; rfl
  · have h2 : cells.size = zs.length := by simpa using hs
    rw [Array.getElem?_eq_none (by omega), List.getElem?_eq_none (by omega)]; rfl

/-- A function that answers nothing. -/
theorem hP_none {P : Program} {gl : Nat → V} {f : Nat} {ps : List PT} {rs : List RT} {cm : Bool} (h : HEnter P f) : HSound P gl f cm (hP ps rs fun _ => none) := by
  refine ⟨h, fun R args vs c K r _ _ _ _ hv => ?_⟩
  unfold hP at hv
  split at hv
  · cases hv
  · cases hv

end Go.Vm

namespace Go.Vm

/-! ### Words of the plain side: loops over an index, texts -/

theorem w64 {n : Int} (h1 : -9223372036854775808 ≤ n) (h2 : n ≤ 9223372036854775807) : IntKind.wrap .i64 n = n := by
  rw [IntKind.wrap_i64]; omega

theorem wsucc {i : Nat} (h : i < 9223372036854775806) : IntKind.wrap .i64 ((i : Int) + 1) = ((i + 1 : Nat) : Int) := by rw [w64] <;> omega

theorem sEq_self (s : ByteArray) : sEq s s = true := by simp [sEq]

/-- A loop that ends at the first element that is not so. -/
theorem loop_all {α : Type} (L : Nat → Int → α) (len : Nat) (p : Nat → Bool) (bad fin : α)
    (hs : ∀ n i, i < len → L (n + 1) (i : Int) = if p i then L n ((i + 1 : Nat) : Int) else bad)
    (he : ∀ n, L (n + 1) (len : Int) = fin) :
    ∀ n i, i ≤ len → len < n + i → L n (i : Int) = if (List.range' i (len - i)).all p then fin else bad := by
  intro n
  induction n with
  | zero => intro i h1 h2; omega
  | succ n ih =>
    intro i h1 h2
    by_cases hi : i < len
    · rw [hs n i hi, ih (i + 1) (by omega) (by omega), show len - i = (len - (i + 1)) + 1 by omega, List.range'_succ, List.all_cons]
      cases p i with
      | true => simp only [if_true, Bool.true_and]
      | false => simp only [Bool.false_and]; rfl
    · obtain rfl : i = len := by omega
      rw [he]; simp

/-- The first index from 'i' on at which 'p' fails, at most 'n' steps. -/
def scan (p : Nat → Bool) : Nat → Nat → Nat
  | 0, i => i
  | n + 1, i => if p i then scan p n (i + 1) else i

theorem scan_ge (p : Nat → Bool) : ∀ n i, i ≤ scan p n i
  | 0, i => Nat.le_refl i
  | n + 1, i => by
    unfold scan; split
    · exact Nat.le_trans (Nat.le_succ i) (scan_ge p n (i + 1))
    · exact Nat.le_refl i

theorem scan_le (p : Nat → Bool) : ∀ n i, scan p n i ≤ i + n
  | 0, i => Nat.le_refl i
  | n + 1, i => by
    unfold scan; split
    · exact Nat.le_trans (scan_le p n (i + 1)) (by omega)
    · omega

/-- A loop that goes on as long as 'p' holds. -/
theorem loop_scan {α : Type} (L : Nat → Int → α) (len : Nat) (p : Nat → Bool) (fin : Nat → α)
    (hs : ∀ n i, i < len → p i = true → L (n + 1) (i : Int) = L n ((i + 1 : Nat) : Int))
    (hx : ∀ n i, i < len → p i = false → L (n + 1) (i : Int) = fin i)
    (he : ∀ n, L (n + 1) (len : Int) = fin len) :
    ∀ n i, i ≤ len → len < n + i → L n (i : Int) = fin (scan p (len - i) i) := by
  intro n
  induction n with
  | zero => intro i h1 h2; omega
  | succ n ih =>
    intro i h1 h2
    by_cases hi : i < len
    · rw [show len - i = (len - (i + 1)) + 1 by omega, scan]
      cases hp : p i
      · rw [hx n i hi hp]; simp
      · rw [hs n i hi hp, ih (i + 1) (by omega) (by omega)]; simp
    · obtain rfl : i = len := by omega
      rw [he]; simp [scan]

/-- A loop that carries a value. -/
theorem loop_fold {α σ : Type} (L : Nat → Int → σ → α) (len : Nat) (f : Nat → σ → σ) (fin : σ → α)
    (hs : ∀ n i s, i < len → L (n + 1) (i : Int) s = L n ((i + 1 : Nat) : Int) (f i s))
    (he : ∀ n s, L (n + 1) (len : Int) s = fin s) :
    ∀ n i s, i ≤ len → len < n + i → L n (i : Int) s = fin ((List.range' i (len - i)).foldl (fun s j => f j s) s) := by
  intro n
  induction n with
  | zero => intro i s h1 h2; omega
  | succ n ih =>
    intro i s h1 h2
    by_cases hi : i < len
    · rw [hs n i s hi, ih (i + 1) _ (by omega) (by omega), show len - i = (len - (i + 1)) + 1 by omega, List.range'_succ, List.foldl_cons]
    · obtain rfl : i = len := by omega
      rw [he]; simp

theorem range_all {α : Type} (d : α) (p : α → Bool) (l : List α) : (List.range' 0 l.length).all (fun j => p (l.getD j d)) = l.all p := by
  rw [Bool.eq_iff_iff]
  simp only [List.all_eq_true, List.mem_range'_1, Nat.zero_add]
  constructor
  · intro h x hx
    obtain ⟨i, hi, rfl⟩ := List.mem_iff_getElem.1 hx
    have := h i ⟨Nat.zero_le _, hi⟩
    simpa [hi] using this
  · rintro h j ⟨_, hj⟩
    exact h _ (by simp [hj])

theorem bt_getD (s : ByteArray) (i : Nat) : bt s i = ((s.data.toList.getD i 0).toNat : Int) := by
  unfold bt strU; simp

theorem size_list (s : ByteArray) : s.size = s.data.toList.length := by
  rw [Array.length_toList]; rfl

theorem scan_all (p : Nat → Bool) : ∀ n i, (decide (scan p n i < i + n)) = !(List.range' i n).all p
  | 0, i => by simp [scan]
  | n + 1, i => by
    rw [scan, List.range'_succ, List.all_cons]
    cases p i
    · simp
    · have h := scan_all p n (i + 1)
      simp only [if_true, Bool.true_and]
      rw [← h, show i + 1 + n = i + (n + 1) by omega]

end Go.Vm

set_option linter.unusedVariables false
namespace Go.Vm
open Go.Proofs

/-! f4: loop.example/g00896/laws.rBig -/
abbrev P4 : List PT := [.one (.sl1 (.int .u8))]
abbrev R4 : List RT := [.one false .bool]
noncomputable def E4 (_ : Nat) : Env := mkEnv tis gl 6 [] [] [] 0
noncomputable def F4 (k : Nat) (x : Args P4) : Option (Res R4) := runFn (E4 k) Tryd.f4 k (encArgs P4 x) [] (retK R4)
abbrev hF4 (F : Args P4 → Option (Res R4)) : Hnd := hP P4 R4 F
noncomputable def G4 (k : Nat) (code : List Int) : Option (Bool × Unit) := F4 k (code, ())
theorem G4_eq (k : Nat) (code : List Int) : G4 k code =
  some ((decide ((code.length : Int) > (65536 : Int))), ()) := by kernel_rfl
theorem S4 (k : Nat) : HSound Tryd.prog gl 4 true (hF4 (F4 k)) :=
  hP_sound (E := E4 k) (fn := Tryd.f4) ⟨Tryd.func4, by kernel_rfl, by kernel_rfl, mixed, mkEnv_ok tis_ok calls_nil, by kernel_rfl, by kernel_rfl, Nat.le_of_ble_eq_true (by kernel_rfl), glNB⟩ rfl fun _ _ h => ⟨k, h⟩

/-! f61: (*loop.example/g00896/spec.l1Cur).next -/
abbrev P61 : List MT := [.box [(.sl1 (.int .u8)), (.int .i64), (.int .u64)]]
abbrev R61 : List RT := [.one false (.int .i64)]
noncomputable def E61 (_ : Nat) : Env := mkEnv tis gl 62 [] [] [(2, [(0, 0, []), (1, 0, []), (2, 0, []), (3, 0, []), (4, 0, []), (5, 0, []), (6, 0, []), (7, 0, []), (8, 0, []), (9, 0, [])]), (3, [(0, 0, []), (1, 0, []), (2, 0, []), (3, 0, []), (4, 0, []), (5, 0, []), (6, 0, []), (7, 0, []), (8, 0, []), (9, 0, []), (10, 0, []), (11, 0, [])]), (6, [(0, 0, []), (1, 0, []), (2, 0, []), (3, 0, []), (4, 0, []), (5, 0, []), (6, 0, []), (7, 0, []), (8, 0, []), (9, 0, [])])] 1
noncomputable def F61 (k : Nat) (x : MArgs P61) : Option (Res R61 × Os (oksOf P61)) := runFn (E61 k) Tryd.f61 k (encMs P61 x 0) (blkMs P61 x) (retX R61 P61)
abbrev hF61 (F : MArgs P61 → Option (Res R61 × Os (oksOf P61))) : Hnd := hX P61 R61 F
noncomputable def G61 (k : Nat) (c : Cur) : Option ((Int × Unit) × (Cur × Unit)) := F61 k (c, ())
theorem G61_eq (k : Nat) (c : Cur) : G61 k c =
  if (decide (c.2.1 < (c.1.length : Int))) then
  if 0 ≤ c.2.1 then
  if c.2.1 < (c.1.length : Int) then
  if (decide ((IntKind.wrap .i64 (c.2.1 + (1 : Int))) ≤ (c.1.length : Int))) then
  some (((IntKind.wrap .i64 (c.1.getD (c.2.1).toNat (0 : Int))), ()), ((c.1, (IntKind.wrap .i64 (c.2.1 + (1 : Int))), (IntKind.wrap .u64 ((IntKind.wrap .u64 ((IntKind.wrap .u64 (c.2.2.1 * (6364136223846793005 : Int))) + (IntKind.wrap .u64 (IntKind.wrap .i64 (c.1.getD (c.2.1).toNat (0 : Int)))))) + (896896 : Int))), ()), ()))
  else
  if (40 : Int) < 0 then none else
  some (((IntKind.wrap .i64 (bits .and .u64 (Int.fdiv (IntKind.wrap .u64 ((IntKind.wrap .u64 ((IntKind.wrap .u64 (c.2.2.1 * (6364136223846793005 : Int))) + (IntKind.wrap .u64 (IntKind.wrap .i64 (c.1.getD (c.2.1).toNat (0 : Int)))))) + (896896 : Int))) ((2 : Int) ^ (min ((40 : Int)).toNat 64))) (255 : Int))), ()), ((c.1, (IntKind.wrap .i64 (c.2.1 + (1 : Int))), (IntKind.wrap .u64 ((IntKind.wrap .u64 ((IntKind.wrap .u64 (c.2.2.1 * (6364136223846793005 : Int))) + (IntKind.wrap .u64 (IntKind.wrap .i64 (c.1.getD (c.2.1).toNat (0 : Int)))))) + (896896 : Int))), ()), ()))
  else none
  else none
  else
  if (decide ((IntKind.wrap .i64 (c.2.1 + (1 : Int))) ≤ (c.1.length : Int))) then
  some (((0 : Int), ()), ((c.1, (IntKind.wrap .i64 (c.2.1 + (1 : Int))), (IntKind.wrap .u64 ((IntKind.wrap .u64 ((IntKind.wrap .u64 (c.2.2.1 * (6364136223846793005 : Int))) + (IntKind.wrap .u64 (0 : Int)))) + (896896 : Int))), ()), ()))
  else
  if (40 : Int) < 0 then none else
  some (((IntKind.wrap .i64 (bits .and .u64 (Int.fdiv (IntKind.wrap .u64 ((IntKind.wrap .u64 ((IntKind.wrap .u64 (c.2.2.1 * (6364136223846793005 : Int))) + (IntKind.wrap .u64 (0 : Int)))) + (896896 : Int))) ((2 : Int) ^ (min ((40 : Int)).toNat 64))) (255 : Int))), ()), ((c.1, (IntKind.wrap .i64 (c.2.1 + (1 : Int))), (IntKind.wrap .u64 ((IntKind.wrap .u64 ((IntKind.wrap .u64 (c.2.2.1 * (6364136223846793005 : Int))) + (IntKind.wrap .u64 (0 : Int)))) + (896896 : Int))), ()), ())) := by kernel_rfl
theorem S61 (k : Nat) : HSound Tryd.prog gl 61 false (hF61 (F61 k)) :=
  hX_sound (E := E61 k) (fn := Tryd.f61) ⟨Tryd.func61, by kernel_rfl, by kernel_rfl, mixed, mkEnv_ok tis_ok calls_nil, by kernel_rfl, by kernel_rfl, Nat.le_of_ble_eq_true (by kernel_rfl), glNB⟩ rfl fun _ _ h => ⟨k, h⟩

/-! f36: (*loop.example/g00896/spec.l1Cur).pick -/
abbrev P36 : List MT := [.box [(.sl1 (.int .u8)), (.int .i64), (.int .u64)], .rt (.one false (.int .i64))]
abbrev R36 : List RT := [.one false (.int .i64)]
noncomputable def E36 (k : Nat) : Env := mkEnv tis gl 20 [⟨61, false, true, hF61 (F61 k)⟩] [] [] 1
noncomputable def F36 (k : Nat) (x : MArgs P36) : Option (Res R36 × Os (oksOf P36)) := runFn (E36 k) Tryd.f36 k (encMs P36 x 0) (blkMs P36 x) (retX R36 P36)
abbrev hF36 (F : MArgs P36 → Option (Res R36 × Os (oksOf P36))) : Hnd := hX P36 R36 F
noncomputable def G36 (k : Nat) (c : Cur) (vn : Int) : Option ((Int × Unit) × (Cur × Unit)) := F36 k (c, vn, ())
theorem G36_eq (k : Nat) (c : Cur) (vn : Int) : G36 k c vn =
  if (decide (vn ≤ (1 : Int))) then
  some (((0 : Int), ()), (c, ()))
  else
  (G61 k (c.1, c.2.1, c.2.2.1, ())).bind fun (r1 : (Int × Unit) × (Cur × Unit)) =>
  if (decide (vn > (200 : Int))) then
  (G61 k (r1.2.1.1, r1.2.1.2.1, r1.2.1.2.2.1, ())).bind fun (r2 : (Int × Unit) × (Cur × Unit)) =>
  if vn = 0 then none else
  some (((Int.tmod (IntKind.wrap .i64 ((IntKind.wrap .i64 (r1.1.1 * (256 : Int))) + r2.1.1)) vn), ()), (r2.2.1, ()))
  else
  if vn = 0 then none else
  some (((Int.tmod r1.1.1 vn), ()), (r1.2.1, ())) := by kernel_rfl
theorem S36 (k : Nat) : HSound Tryd.prog gl 36 false (hF36 (F36 k)) :=
  hX_sound (E := E36 k) (fn := Tryd.f36) ⟨Tryd.func36, by kernel_rfl, by kernel_rfl, mixed, mkEnv_ok tis_ok (calls_cons (S61 k) calls_nil), by kernel_rfl, by kernel_rfl, Nat.le_of_ble_eq_true (by kernel_rfl), glNB⟩ rfl fun _ _ h => ⟨k, h⟩

/-! f21: (*loop.example/g00896/spec.l1Cur).of -/
abbrev P21 : List MT := [.box [(.sl1 (.int .u8)), (.int .i64), (.int .u64)], .rt (.one false (.sl1 .str))]
abbrev R21 : List RT := [.one false .str]
noncomputable def E21 (k : Nat) : Env := mkEnv tis gl 12 [⟨36, false, true, hF36 (F36 k)⟩] [] [] 1
noncomputable def F21 (k : Nat) (x : MArgs P21) : Option (Res R21 × Os (oksOf P21)) := runFn (E21 k) Tryd.f21 k (encMs P21 x 0) (blkMs P21 x) (retX R21 P21)
abbrev hF21 (F : MArgs P21 → Option (Res R21 × Os (oksOf P21))) : Hnd := hX P21 R21 F
noncomputable def G21 (k : Nat) (c : Cur) (list : List ByteArray) : Option ((ByteArray × Unit) × (Cur × Unit)) := F21 k (c, list, ())
theorem G21_eq (k : Nat) (c : Cur) (list : List ByteArray) : G21 k c list =
  (G36 k (c.1, c.2.1, c.2.2.1, ()) (list.length : Int)).bind fun (r1 : (Int × Unit) × (Cur × Unit)) =>
  if 0 ≤ r1.1.1 then
  if r1.1.1 < (list.length : Int) then
  some (((list.getD (r1.1.1).toNat ByteArray.empty), ()), (r1.2.1, ()))
  else none
  else none := by kernel_rfl
theorem S21 (k : Nat) : HSound Tryd.prog gl 21 false (hF21 (F21 k)) :=
  hX_sound (E := E21 k) (fn := Tryd.f21) ⟨Tryd.func21, by kernel_rfl, by kernel_rfl, mixed, mkEnv_ok tis_ok (calls_cons (S36 k) calls_nil), by kernel_rfl, by kernel_rfl, Nat.le_of_ble_eq_true (by kernel_rfl), glNB⟩ rfl fun _ _ h => ⟨k, h⟩

/-! f37: (*loop.example/g00896/spec.l1Cur).one -/
abbrev P37 : List MT := [.box [(.sl1 (.int .u8)), (.int .i64), (.int .u64)], .rt (.one false (.int .i64))]
abbrev R37 : List RT := [.one false .bool]
noncomputable def E37 (k : Nat) : Env := mkEnv tis gl 9 [⟨36, false, true, hF36 (F36 k)⟩] [] [] 1
noncomputable def F37 (k : Nat) (x : MArgs P37) : Option (Res R37 × Os (oksOf P37)) := runFn (E37 k) Tryd.f37 k (encMs P37 x 0) (blkMs P37 x) (retX R37 P37)
abbrev hF37 (F : MArgs P37 → Option (Res R37 × Os (oksOf P37))) : Hnd := hX P37 R37 F
noncomputable def G37 (k : Nat) (c : Cur) (vn : Int) : Option ((Bool × Unit) × (Cur × Unit)) := F37 k (c, vn, ())
theorem G37_eq (k : Nat) (c : Cur) (vn : Int) : G37 k c vn =
  (G36 k (c.1, c.2.1, c.2.2.1, ()) vn).bind fun (r1 : (Int × Unit) × (Cur × Unit)) =>
  some ((((r1.1.1 == (0 : Int))), ()), (r1.2.1, ())) := by kernel_rfl
theorem S37 (k : Nat) : HSound Tryd.prog gl 37 false (hF37 (F37 k)) :=
  hX_sound (E := E37 k) (fn := Tryd.f37) ⟨Tryd.func37, by kernel_rfl, by kernel_rfl, mixed, mkEnv_ok tis_ok (calls_cons (S36 k) calls_nil), by kernel_rfl, by kernel_rfl, Nat.le_of_ble_eq_true (by kernel_rfl), glNB⟩ rfl fun _ _ h => ⟨k, h⟩

/-! f38: (*loop.example/g00896/spec.l1Cur).locale -/
abbrev P38 : List MT := [.box [(.sl1 (.int .u8)), (.int .i64), (.int .u64)]]
abbrev R38 : List RT := [.agg [(false, .str), (true, (.sl [.str, .str, .str])), (true, (.sl [(.int .i64), (.int .i64), .str])), (false, .str), (false, .str)]]
noncomputable def E38 (k : Nat) : Env := mkEnv tis gl 80 [⟨21, false, true, hF21 (F21 k)⟩, ⟨36, false, true, hF36 (F36 k)⟩, ⟨37, false, true, hF37 (F37 k)⟩] [(4, [0, 2, 3, 4, 5]), (10, [0, 2, 3, 6])] [(7, [(0, 0, []), (1, 0, []), (2, 0, []), (3, 0, []), (4, 0, []), (5, 0, []), (6, 0, [6]), (7, 0, []), (8, 0, []), (9, 0, [])]), (13, [(0, 0, []), (2, 0, []), (3, 0, []), (4, 0, []), (6, 0, []), (1, 6, []), (5, 0, [7]), (7, 0, [7]), (8, 0, []), (9, 0, []), (10, 0, [10]), (11, 0, []), (12, 0, []), (13, 0, [])])] 1
noncomputable def F38 (k : Nat) (x : MArgs P38) : Option (Res R38 × Os (oksOf P38)) := runFn (E38 k) Tryd.f38 k (encMs P38 x 0) (blkMs P38 x) (retX R38 P38)
abbrev hF38 (F : MArgs P38 → Option (Res R38 × Os (oksOf P38))) : Hnd := hX P38 R38 F
noncomputable def G38 (k : Nat) (c : Cur) : Option ((Locale × Unit) × (Cur × Unit)) := F38 k (c, ())
noncomputable def L38_0 (k : Nat) (n : Nat) (i : Int) (c : List Int) (c_1 : Int) (c_2 : Int) (v2 : ByteArray) (v2_1 : ByteArray) (v2_2 : ByteArray) (l : ByteArray) (l_1 : ByteArray) (l_2 : ByteArray) (all : List (Term)) : Option ((Locale × Unit) × (Cur × Unit)) :=
  loopAt (E38 k) k [1, 1, 1, 0, 1, 0] [] (body Tryd.f38) (atEnd (E38 k) Tryd.f38.results.toList (retX R38 P38)) n ⟨[(0, .v (.one (V.ptr 0 0))), (2, .v (.one (V.ptr 1 0))), (3, .v (.one (V.ptr 2 0))), (4, .v (.one (V.ref 3))), (5, .v (.one (V.d (.int .i64) i)))], [.box [V.d (.sl1 (.int .u8)) c, V.d (.int .i64) c_1, V.d (.int .u64) c_2], .box [V.d .str v2, V.nils, V.nils, V.d .str v2_1, V.d .str v2_2], .box [V.d .str l, V.nils, V.nils, V.d .str l_1, V.d .str l_2], .arr (.sl [.str, .str, .str]) all]⟩
noncomputable def L38_1 (k : Nat) (n : Nat) (i : Int) (c : List Int) (c_1 : Int) (c_2 : Int) (v2 : ByteArray) (v2_1 : ByteArray) (v2_2 : ByteArray) (l : ByteArray) (l_1 : ByteArray) (l_2 : ByteArray) (all : List (Term)) (l_3 : List (Term)) : Option ((Locale × Unit) × (Cur × Unit)) :=
  loopAt (E38 k) k [1, 1, 1, 0, 1, 0] [] (body Tryd.f38) (atEnd (E38 k) Tryd.f38.results.toList (retX R38 P38)) n ⟨[(0, .v (.one (V.ptr 0 0))), (2, .v (.one (V.ptr 1 0))), (3, .v (.one (V.ptr 2 0))), (4, .v (.one (V.ref 3))), (5, .v (.one (V.d (.int .i64) i)))], [.box [V.d (.sl1 (.int .u8)) c, V.d (.int .i64) c_1, V.d (.int .u64) c_2], .box [V.d .str v2, V.nils, V.nils, V.d .str v2_1, V.d .str v2_2], .box [V.d .str l, V.ref 4, V.nils, V.d .str l_1, V.d .str l_2], .arr (.sl [.str, .str, .str]) all, .arr (.sl [.str, .str, .str]) l_3]⟩
noncomputable def L38_2 (k : Nat) (n : Nat) (vn : Int) (c : List Int) (c_1 : Int) (c_2 : Int) (v2 : ByteArray) (v2_1 : ByteArray) (v2_2 : ByteArray) (l : ByteArray) (l_1 : ByteArray) (l_2 : ByteArray) : Option ((Locale × Unit) × (Cur × Unit)) :=
  loopAt (E38 k) k [1, 1, 1, 1, 0, 1, 0, 1, 1, 1, 1, 1, 0] [] (body Tryd.f38) (atEnd (E38 k) Tryd.f38.results.toList (retX R38 P38)) n ⟨[(0, .v (.one (V.ptr 0 0))), (2, .v (.one (V.ptr 1 0))), (3, .v (.one (V.ptr 2 0))), (6, .v (.one (V.d (.int .i64) vn)))], [.box [V.d (.sl1 (.int .u8)) c, V.d (.int .i64) c_1, V.d (.int .u64) c_2], .box [V.d .str v2, V.nils, V.nils, V.d .str v2_1, V.d .str v2_2], .box [V.d .str l, V.nils, V.nils, V.d .str l_1, V.d .str l_2]]⟩
noncomputable def L38_3 (k : Nat) (n : Nat) (vn : Int) (c : List Int) (c_1 : Int) (c_2 : Int) (v2 : ByteArray) (v2_1 : ByteArray) (v2_2 : ByteArray) (l : ByteArray) (l_1 : ByteArray) (l_2 : ByteArray) (l_3 : List (Term)) : Option ((Locale × Unit) × (Cur × Unit)) :=
  loopAt (E38 k) k [1, 1, 1, 1, 0, 1, 0, 1, 1, 1, 1, 1, 0] [] (body Tryd.f38) (atEnd (E38 k) Tryd.f38.results.toList (retX R38 P38)) n ⟨[(0, .v (.one (V.ptr 0 0))), (2, .v (.one (V.ptr 1 0))), (3, .v (.one (V.ptr 2 0))), (6, .v (.one (V.d (.int .i64) vn)))], [.box [V.d (.sl1 (.int .u8)) c, V.d (.int .i64) c_1, V.d (.int .u64) c_2], .box [V.d .str v2, V.nils, V.nils, V.d .str v2_1, V.d .str v2_2], .box [V.d .str l, V.ref 3, V.nils, V.d .str l_1, V.d .str l_2], .arr (.sl [.str, .str, .str]) l_3]⟩
noncomputable def L38_4 (k : Nat) (n : Nat) (vn : Int) (c : List Int) (c_1 : Int) (c_2 : Int) (v2 : ByteArray) (v2_1 : ByteArray) (v2_2 : ByteArray) (l : ByteArray) (l_1 : ByteArray) (l_2 : ByteArray) (l_3 : List (Rule)) : Option ((Locale × Unit) × (Cur × Unit)) :=
  loopAt (E38 k) k [1, 1, 1, 1, 0, 1, 0, 1, 1, 1, 1, 1, 0] [] (body Tryd.f38) (atEnd (E38 k) Tryd.f38.results.toList (retX R38 P38)) n ⟨[(0, .v (.one (V.ptr 0 0))), (2, .v (.one (V.ptr 1 0))), (3, .v (.one (V.ptr 2 0))), (6, .v (.one (V.d (.int .i64) vn)))], [.box [V.d (.sl1 (.int .u8)) c, V.d (.int .i64) c_1, V.d (.int .u64) c_2], .box [V.d .str v2, V.nils, V.nils, V.d .str v2_1, V.d .str v2_2], .box [V.d .str l, V.nils, V.ref 3, V.d .str l_1, V.d .str l_2], .arr (.sl [(.int .i64), (.int .i64), .str]) l_3]⟩
noncomputable def L38_5 (k : Nat) (n : Nat) (vn : Int) (c : List Int) (c_1 : Int) (c_2 : Int) (v2 : ByteArray) (v2_1 : ByteArray) (v2_2 : ByteArray) (l : ByteArray) (l_1 : ByteArray) (l_2 : ByteArray) (l_3 : List (Term)) (l_4 : List (Rule)) : Option ((Locale × Unit) × (Cur × Unit)) :=
  loopAt (E38 k) k [1, 1, 1, 1, 0, 1, 0, 1, 1, 1, 1, 1, 0] [] (body Tryd.f38) (atEnd (E38 k) Tryd.f38.results.toList (retX R38 P38)) n ⟨[(0, .v (.one (V.ptr 0 0))), (2, .v (.one (V.ptr 1 0))), (3, .v (.one (V.ptr 2 0))), (6, .v (.one (V.d (.int .i64) vn)))], [.box [V.d (.sl1 (.int .u8)) c, V.d (.int .i64) c_1, V.d (.int .u64) c_2], .box [V.d .str v2, V.nils, V.nils, V.d .str v2_1, V.d .str v2_2], .box [V.d .str l, V.ref 3, V.ref 4, V.d .str l_1, V.d .str l_2], .arr (.sl [.str, .str, .str]) l_3, .arr (.sl [(.int .i64), (.int .i64), .str]) l_4]⟩
theorem G38_eq (k : Nat) (c : Cur) : G38 k c =
  (G21 k (c.1, c.2.1, c.2.2.1, ()) ([(⟨#[101, 110]⟩ : ByteArray), (⟨#[100, 101]⟩ : ByteArray), (⟨#[120, 120]⟩ : ByteArray)])).bind fun (r1 : (ByteArray × Unit) × (Cur × Unit)) =>
  (G21 k (r1.2.1.1, r1.2.1.2.1, r1.2.1.2.2.1, ()) ([(⟨#[44, 32, 97, 110, 100, 32]⟩ : ByteArray), (⟨#[32, 117, 110, 100, 32]⟩ : ByteArray), (⟨#[32, 38, 32]⟩ : ByteArray)])).bind fun (r2 : (ByteArray × Unit) × (Cur × Unit)) =>
  (G21 k (r2.2.1.1, r2.2.1.2.1, r2.2.1.2.2.1, ()) ([(⟨#[32, 97, 110, 100, 32]⟩ : ByteArray), (⟨#[32, 117, 110, 100, 32]⟩ : ByteArray), (⟨#[47]⟩ : ByteArray)])).bind fun (r3 : (ByteArray × Unit) × (Cur × Unit)) =>
  L38_0 k k ((0 : Int)) r3.2.1.1 r3.2.1.2.1 r3.2.1.2.2.1 ByteArray.empty ByteArray.empty ByteArray.empty r1.1.1 r2.1.1 r3.1.1 ([((⟨#[99, 104, 97, 112, 116, 101, 114]⟩ : ByteArray), (⟨#[99, 104, 97, 112, 116, 101, 114]⟩ : ByteArray), (⟨#[99, 104, 97, 112, 116, 101, 114, 115]⟩ : ByteArray), ()), ((⟨#[101, 100, 105, 116, 111, 114]⟩ : ByteArray), (⟨#[101, 100, 46]⟩ : ByteArray), (⟨#[101, 100, 115, 46]⟩ : ByteArray), ()), ((⟨#[112, 97, 103, 101]⟩ : ByteArray), (⟨#[112, 46]⟩ : ByteArray), (⟨#[112, 112, 46]⟩ : ByteArray), ()), ((⟨#[118, 111, 108, 117, 109, 101]⟩ : ByteArray), (⟨#[118, 111, 108, 46]⟩ : ByteArray), (⟨#[118, 111, 108, 115, 46]⟩ : ByteArray), ())]) := by kernel_rfl
theorem L38_0_eq (k : Nat) (n : Nat) (i : Int) (c : List Int) (c_1 : Int) (c_2 : Int) (v2 : ByteArray) (v2_1 : ByteArray) (v2_2 : ByteArray) (l : ByteArray) (l_1 : ByteArray) (l_2 : ByteArray) (all : List (Term)) : L38_0 k (n + 1) i c c_1 c_2 v2 v2_1 v2_2 l l_1 l_2 all =
  if (decide (i < (all.length : Int))) then
  (G37 k (c, c_1, c_2, ()) (3 : Int)).bind fun (r1 : (Bool × Unit) × (Cur × Unit)) =>
  if (!r1.1.1) then
  if 0 ≤ i then
  if i < (all.length : Int) then
  if ([((all.getD (i).toNat dTerm).1, (all.getD (i).toNat dTerm).2.1, (all.getD (i).toNat dTerm).2.2.1, ())] : List (Term)).length * 48 ≤ 2 ^ 47 then
  L38_1 k n ((IntKind.wrap .i64 (i + (1 : Int)))) r1.2.1.1 r1.2.1.2.1 r1.2.1.2.2.1 v2 v2_1 v2_2 l l_1 l_2 all ([((all.getD (i).toNat dTerm).1, (all.getD (i).toNat dTerm).2.1, (all.getD (i).toNat dTerm).2.2.1, ())])
  else none
  else none
  else none
  else
  L38_0 k n ((IntKind.wrap .i64 (i + (1 : Int)))) r1.2.1.1 r1.2.1.2.1 r1.2.1.2.2.1 v2 v2_1 v2_2 l l_1 l_2 all
  else
  (G36 k (c, c_1, c_2, ()) (3 : Int)).bind fun (r2 : (Int × Unit) × (Cur × Unit)) =>
  if ((r2.1.1 == (0 : Int))) then
  some (((l, [], [((100 : Int), (11 : Int), (⟨#[116, 104]⟩ : ByteArray), ()), ((100 : Int), (12 : Int), (⟨#[116, 104]⟩ : ByteArray), ()), ((10 : Int), (1 : Int), (⟨#[115, 116]⟩ : ByteArray), ()), ((10 : Int), (2 : Int), (⟨#[110, 100]⟩ : ByteArray), ()), ((1 : Int), (0 : Int), (⟨#[116, 104]⟩ : ByteArray), ())], l_1, l_2, ()), ()), (r2.2.1, ()))
  else
  if ((r2.1.1 == (1 : Int))) then
  some (((l, [], [((1 : Int), (0 : Int), (⟨#[46]⟩ : ByteArray), ())], l_1, l_2, ()), ()), (r2.2.1, ()))
  else
  (G36 k (r2.2.1.1, r2.2.1.2.1, r2.2.1.2.2.1, ()) (4 : Int)).bind fun (r3 : (Int × Unit) × (Cur × Unit)) =>
  L38_2 k k r3.1.1 r3.2.1.1 r3.2.1.2.1 r3.2.1.2.2.1 v2 v2_1 v2_2 l l_1 l_2 := by kernel_rfl
theorem L38_0_zero (k : Nat) (i : Int) (c : List Int) (c_1 : Int) (c_2 : Int) (v2 : ByteArray) (v2_1 : ByteArray) (v2_2 : ByteArray) (l : ByteArray) (l_1 : ByteArray) (l_2 : ByteArray) (all : List (Term)) : L38_0 k 0 i c c_1 c_2 v2 v2_1 v2_2 l l_1 l_2 all = none := by kernel_rfl
theorem L38_1_eq (k : Nat) (n : Nat) (i : Int) (c : List Int) (c_1 : Int) (c_2 : Int) (v2 : ByteArray) (v2_1 : ByteArray) (v2_2 : ByteArray) (l : ByteArray) (l_1 : ByteArray) (l_2 : ByteArray) (all : List (Term)) (l_3 : List (Term)) : L38_1 k (n + 1) i c c_1 c_2 v2 v2_1 v2_2 l l_1 l_2 all l_3 =
  if (decide (i < (all.length : Int))) then
  (G37 k (c, c_1, c_2, ()) (3 : Int)).bind fun (r1 : (Bool × Unit) × (Cur × Unit)) =>
  if (!r1.1.1) then
  if 0 ≤ i then
  if i < (all.length : Int) then
  if (l_3.length + ([((all.getD (i).toNat dTerm).1, (all.getD (i).toNat dTerm).2.1, (all.getD (i).toNat dTerm).2.2.1, ())] : List (Term)).length) * 48 ≤ 2 ^ 47 then
  L38_1 k n ((IntKind.wrap .i64 (i + (1 : Int)))) r1.2.1.1 r1.2.1.2.1 r1.2.1.2.2.1 v2 v2_1 v2_2 l l_1 l_2 all ((l_3 ++ [((all.getD (i).toNat dTerm).1, (all.getD (i).toNat dTerm).2.1, (all.getD (i).toNat dTerm).2.2.1, ())]))
  else none
  else none
  else none
  else
  L38_1 k n ((IntKind.wrap .i64 (i + (1 : Int)))) r1.2.1.1 r1.2.1.2.1 r1.2.1.2.2.1 v2 v2_1 v2_2 l l_1 l_2 all l_3
  else
  (G36 k (c, c_1, c_2, ()) (3 : Int)).bind fun (r2 : (Int × Unit) × (Cur × Unit)) =>
  if ((r2.1.1 == (0 : Int))) then
  some (((l, l_3, [((100 : Int), (11 : Int), (⟨#[116, 104]⟩ : ByteArray), ()), ((100 : Int), (12 : Int), (⟨#[116, 104]⟩ : ByteArray), ()), ((10 : Int), (1 : Int), (⟨#[115, 116]⟩ : ByteArray), ()), ((10 : Int), (2 : Int), (⟨#[110, 100]⟩ : ByteArray), ()), ((1 : Int), (0 : Int), (⟨#[116, 104]⟩ : ByteArray), ())], l_1, l_2, ()), ()), (r2.2.1, ()))
  else
  if ((r2.1.1 == (1 : Int))) then
  some (((l, l_3, [((1 : Int), (0 : Int), (⟨#[46]⟩ : ByteArray), ())], l_1, l_2, ()), ()), (r2.2.1, ()))
  else
  (G36 k (r2.2.1.1, r2.2.1.2.1, r2.2.1.2.2.1, ()) (4 : Int)).bind fun (r3 : (Int × Unit) × (Cur × Unit)) =>
  L38_3 k k r3.1.1 r3.2.1.1 r3.2.1.2.1 r3.2.1.2.2.1 v2 v2_1 v2_2 l l_1 l_2 l_3 := by kernel_rfl
theorem L38_1_zero (k : Nat) (i : Int) (c : List Int) (c_1 : Int) (c_2 : Int) (v2 : ByteArray) (v2_1 : ByteArray) (v2_2 : ByteArray) (l : ByteArray) (l_1 : ByteArray) (l_2 : ByteArray) (all : List (Term)) (l_3 : List (Term)) : L38_1 k 0 i c c_1 c_2 v2 v2_1 v2_2 l l_1 l_2 all l_3 = none := by kernel_rfl
theorem L38_2_eq (k : Nat) (n : Nat) (vn : Int) (c : List Int) (c_1 : Int) (c_2 : Int) (v2 : ByteArray) (v2_1 : ByteArray) (v2_2 : ByteArray) (l : ByteArray) (l_1 : ByteArray) (l_2 : ByteArray) : L38_2 k (n + 1) vn c c_1 c_2 v2 v2_1 v2_2 l l_1 l_2 =
  if (decide (vn > (0 : Int))) then
  (G36 k (c, c_1, c_2, ()) (12 : Int)).bind fun (r1 : (Int × Unit) × (Cur × Unit)) =>
  (G36 k (r1.2.1.1, r1.2.1.2.1, r1.2.1.2.2.1, ()) (IntKind.wrap .i64 ((1 : Int) + r1.1.1))).bind fun (r2 : (Int × Unit) × (Cur × Unit)) =>
  (G21 k (r2.2.1.1, r2.2.1.2.1, r2.2.1.2.2.1, ()) ([(⟨#[97]⟩ : ByteArray), (⟨#[53]⟩ : ByteArray), (⟨#[]⟩ : ByteArray), (⟨#[116, 104]⟩ : ByteArray)])).bind fun (r3 : (ByteArray × Unit) × (Cur × Unit)) =>
  if ([((IntKind.wrap .i64 ((1 : Int) + r1.1.1)), r2.1.1, r3.1.1, ())] : List (Rule)).length * 32 ≤ 2 ^ 47 then
  L38_4 k n ((IntKind.wrap .i64 (vn - (1 : Int)))) r3.2.1.1 r3.2.1.2.1 r3.2.1.2.2.1 v2 v2_1 v2_2 l l_1 l_2 ([((IntKind.wrap .i64 ((1 : Int) + r1.1.1)), r2.1.1, r3.1.1, ())])
  else none
  else
  some (((l, [], [], l_1, l_2, ()), ()), ((c, c_1, c_2, ()), ())) := by kernel_rfl
theorem L38_2_zero (k : Nat) (vn : Int) (c : List Int) (c_1 : Int) (c_2 : Int) (v2 : ByteArray) (v2_1 : ByteArray) (v2_2 : ByteArray) (l : ByteArray) (l_1 : ByteArray) (l_2 : ByteArray) : L38_2 k 0 vn c c_1 c_2 v2 v2_1 v2_2 l l_1 l_2 = none := by kernel_rfl
theorem L38_3_eq (k : Nat) (n : Nat) (vn : Int) (c : List Int) (c_1 : Int) (c_2 : Int) (v2 : ByteArray) (v2_1 : ByteArray) (v2_2 : ByteArray) (l : ByteArray) (l_1 : ByteArray) (l_2 : ByteArray) (l_3 : List (Term)) : L38_3 k (n + 1) vn c c_1 c_2 v2 v2_1 v2_2 l l_1 l_2 l_3 =
  if (decide (vn > (0 : Int))) then
  (G36 k (c, c_1, c_2, ()) (12 : Int)).bind fun (r1 : (Int × Unit) × (Cur × Unit)) =>
  (G36 k (r1.2.1.1, r1.2.1.2.1, r1.2.1.2.2.1, ()) (IntKind.wrap .i64 ((1 : Int) + r1.1.1))).bind fun (r2 : (Int × Unit) × (Cur × Unit)) =>
  (G21 k (r2.2.1.1, r2.2.1.2.1, r2.2.1.2.2.1, ()) ([(⟨#[97]⟩ : ByteArray), (⟨#[53]⟩ : ByteArray), (⟨#[]⟩ : ByteArray), (⟨#[116, 104]⟩ : ByteArray)])).bind fun (r3 : (ByteArray × Unit) × (Cur × Unit)) =>
  if ([((IntKind.wrap .i64 ((1 : Int) + r1.1.1)), r2.1.1, r3.1.1, ())] : List (Rule)).length * 32 ≤ 2 ^ 47 then
  L38_5 k n ((IntKind.wrap .i64 (vn - (1 : Int)))) r3.2.1.1 r3.2.1.2.1 r3.2.1.2.2.1 v2 v2_1 v2_2 l l_1 l_2 l_3 ([((IntKind.wrap .i64 ((1 : Int) + r1.1.1)), r2.1.1, r3.1.1, ())])
  else none
  else
  some (((l, l_3, [], l_1, l_2, ()), ()), ((c, c_1, c_2, ()), ())) := by kernel_rfl
theorem L38_3_zero (k : Nat) (vn : Int) (c : List Int) (c_1 : Int) (c_2 : Int) (v2 : ByteArray) (v2_1 : ByteArray) (v2_2 : ByteArray) (l : ByteArray) (l_1 : ByteArray) (l_2 : ByteArray) (l_3 : List (Term)) : L38_3 k 0 vn c c_1 c_2 v2 v2_1 v2_2 l l_1 l_2 l_3 = none := by kernel_rfl
theorem L38_4_eq (k : Nat) (n : Nat) (vn : Int) (c : List Int) (c_1 : Int) (c_2 : Int) (v2 : ByteArray) (v2_1 : ByteArray) (v2_2 : ByteArray) (l : ByteArray) (l_1 : ByteArray) (l_2 : ByteArray) (l_3 : List (Rule)) : L38_4 k (n + 1) vn c c_1 c_2 v2 v2_1 v2_2 l l_1 l_2 l_3 =
  if (decide (vn > (0 : Int))) then
  (G36 k (c, c_1, c_2, ()) (12 : Int)).bind fun (r1 : (Int × Unit) × (Cur × Unit)) =>
  (G36 k (r1.2.1.1, r1.2.1.2.1, r1.2.1.2.2.1, ()) (IntKind.wrap .i64 ((1 : Int) + r1.1.1))).bind fun (r2 : (Int × Unit) × (Cur × Unit)) =>
  (G21 k (r2.2.1.1, r2.2.1.2.1, r2.2.1.2.2.1, ()) ([(⟨#[97]⟩ : ByteArray), (⟨#[53]⟩ : ByteArray), (⟨#[]⟩ : ByteArray), (⟨#[116, 104]⟩ : ByteArray)])).bind fun (r3 : (ByteArray × Unit) × (Cur × Unit)) =>
  if (l_3.length + ([((IntKind.wrap .i64 ((1 : Int) + r1.1.1)), r2.1.1, r3.1.1, ())] : List (Rule)).length) * 32 ≤ 2 ^ 47 then
  L38_4 k n ((IntKind.wrap .i64 (vn - (1 : Int)))) r3.2.1.1 r3.2.1.2.1 r3.2.1.2.2.1 v2 v2_1 v2_2 l l_1 l_2 ((l_3 ++ [((IntKind.wrap .i64 ((1 : Int) + r1.1.1)), r2.1.1, r3.1.1, ())]))
  else none
  else
  some (((l, [], l_3, l_1, l_2, ()), ()), ((c, c_1, c_2, ()), ())) := by kernel_rfl
theorem L38_4_zero (k : Nat) (vn : Int) (c : List Int) (c_1 : Int) (c_2 : Int) (v2 : ByteArray) (v2_1 : ByteArray) (v2_2 : ByteArray) (l : ByteArray) (l_1 : ByteArray) (l_2 : ByteArray) (l_3 : List (Rule)) : L38_4 k 0 vn c c_1 c_2 v2 v2_1 v2_2 l l_1 l_2 l_3 = none := by kernel_rfl
theorem L38_5_eq (k : Nat) (n : Nat) (vn : Int) (c : List Int) (c_1 : Int) (c_2 : Int) (v2 : ByteArray) (v2_1 : ByteArray) (v2_2 : ByteArray) (l : ByteArray) (l_1 : ByteArray) (l_2 : ByteArray) (l_3 : List (Term)) (l_4 : List (Rule)) : L38_5 k (n + 1) vn c c_1 c_2 v2 v2_1 v2_2 l l_1 l_2 l_3 l_4 =
  if (decide (vn > (0 : Int))) then
  (G36 k (c, c_1, c_2, ()) (12 : Int)).bind fun (r1 : (Int × Unit) × (Cur × Unit)) =>
  (G36 k (r1.2.1.1, r1.2.1.2.1, r1.2.1.2.2.1, ()) (IntKind.wrap .i64 ((1 : Int) + r1.1.1))).bind fun (r2 : (Int × Unit) × (Cur × Unit)) =>
  (G21 k (r2.2.1.1, r2.2.1.2.1, r2.2.1.2.2.1, ()) ([(⟨#[97]⟩ : ByteArray), (⟨#[53]⟩ : ByteArray), (⟨#[]⟩ : ByteArray), (⟨#[116, 104]⟩ : ByteArray)])).bind fun (r3 : (ByteArray × Unit) × (Cur × Unit)) =>
  if (l_4.length + ([((IntKind.wrap .i64 ((1 : Int) + r1.1.1)), r2.1.1, r3.1.1, ())] : List (Rule)).length) * 32 ≤ 2 ^ 47 then
  L38_5 k n ((IntKind.wrap .i64 (vn - (1 : Int)))) r3.2.1.1 r3.2.1.2.1 r3.2.1.2.2.1 v2 v2_1 v2_2 l l_1 l_2 l_3 ((l_4 ++ [((IntKind.wrap .i64 ((1 : Int) + r1.1.1)), r2.1.1, r3.1.1, ())]))
  else none
  else
  some (((l, l_3, l_4, l_1, l_2, ()), ()), ((c, c_1, c_2, ()), ())) := by kernel_rfl
theorem L38_5_zero (k : Nat) (vn : Int) (c : List Int) (c_1 : Int) (c_2 : Int) (v2 : ByteArray) (v2_1 : ByteArray) (v2_2 : ByteArray) (l : ByteArray) (l_1 : ByteArray) (l_2 : ByteArray) (l_3 : List (Term)) (l_4 : List (Rule)) : L38_5 k 0 vn c c_1 c_2 v2 v2_1 v2_2 l l_1 l_2 l_3 l_4 = none := by kernel_rfl
theorem S38 (k : Nat) : HSound Tryd.prog gl 38 false (hF38 (F38 k)) :=
  hX_sound (E := E38 k) (fn := Tryd.f38) ⟨Tryd.func38, by kernel_rfl, by kernel_rfl, mixed, mkEnv_ok tis_ok (calls_cons (S21 k) (calls_cons (S36 k) (calls_cons (S37 k) calls_nil))), by kernel_rfl, by kernel_rfl, Nat.le_of_ble_eq_true (by kernel_rfl), glNB⟩ rfl fun _ _ h => ⟨k, h⟩

/-! f47: (*loop.example/g00896/spec.l1Cur).among -/
abbrev P47 : List MT := [.box [(.sl1 (.int .u8)), (.int .i64), (.int .u64)], .rt (.one false (.sl1 (.int .i64)))]
abbrev R47 : List RT := [.one false (.int .i64)]
noncomputable def E47 (k : Nat) : Env := mkEnv tis gl 12 [⟨36, false, true, hF36 (F36 k)⟩] [] [] 1
noncomputable def F47 (k : Nat) (x : MArgs P47) : Option (Res R47 × Os (oksOf P47)) := runFn (E47 k) Tryd.f47 k (encMs P47 x 0) (blkMs P47 x) (retX R47 P47)
abbrev hF47 (F : MArgs P47 → Option (Res R47 × Os (oksOf P47))) : Hnd := hX P47 R47 F
noncomputable def G47 (k : Nat) (c : Cur) (list : List Int) : Option ((Int × Unit) × (Cur × Unit)) := F47 k (c, list, ())
theorem G47_eq (k : Nat) (c : Cur) (list : List Int) : G47 k c list =
  (G36 k (c.1, c.2.1, c.2.2.1, ()) (list.length : Int)).bind fun (r1 : (Int × Unit) × (Cur × Unit)) =>
  if 0 ≤ r1.1.1 then
  if r1.1.1 < (list.length : Int) then
  some (((list.getD (r1.1.1).toNat (0 : Int)), ()), (r1.2.1, ()))
  else none
  else none := by kernel_rfl
theorem S47 (k : Nat) : HSound Tryd.prog gl 47 false (hF47 (F47 k)) :=
  hX_sound (E := E47 k) (fn := Tryd.f47) ⟨Tryd.func47, by kernel_rfl, by kernel_rfl, mixed, mkEnv_ok tis_ok (calls_cons (S36 k) calls_nil), by kernel_rfl, by kernel_rfl, Nat.le_of_ble_eq_true (by kernel_rfl), glNB⟩ rfl fun _ _ h => ⟨k, h⟩

/-! f20: (*loop.example/g00896/spec.l1Cur).anyLocale -/
abbrev P20 : List MT := [.box [(.sl1 (.int .u8)), (.int .i64), (.int .u64)]]
abbrev R20 : List RT := [.agg [(false, .str), (true, (.sl [.str, .str, .str])), (true, (.sl [(.int .i64), (.int .i64), .str])), (false, .str), (false, .str)]]
noncomputable def E20 (k : Nat) : Env := mkEnv tis gl 49 [⟨21, false, true, hF21 (F21 k)⟩, ⟨36, false, true, hF36 (F36 k)⟩, ⟨38, false, true, hF38 (F38 k)⟩, ⟨47, false, true, hF47 (F47 k)⟩] [] [(6, [(0, 0, []), (2, 0, []), (5, 0, []), (1, 6, []), (3, 0, [3, 6]), (4, 0, [6]), (6, 0, [6]), (7, 0, []), (8, 0, []), (9, 0, [9]), (10, 0, []), (11, 0, []), (12, 0, [])]), (8, [(0, 0, []), (2, 0, []), (5, 0, []), (8, 0, []), (1, 6, []), (3, 0, [3, 6, 9]), (4, 0, [6, 9]), (6, 0, [6, 9]), (7, 0, [9]), (9, 0, [9]), (10, 0, []), (11, 0, []), (12, 0, [12]), (13, 0, []), (14, 0, []), (15, 0, [])])] 1
noncomputable def F20 (k : Nat) (x : MArgs P20) : Option (Res R20 × Os (oksOf P20)) := runFn (E20 k) Tryd.f20 k (encMs P20 x 0) (blkMs P20 x) (retX R20 P20)
abbrev hF20 (F : MArgs P20 → Option (Res R20 × Os (oksOf P20))) : Hnd := hX P20 R20 F
noncomputable def G20 (k : Nat) (c : Cur) : Option ((Locale × Unit) × (Cur × Unit)) := F20 k (c, ())
theorem G20_eq (k : Nat) (c : Cur) : G20 k c =
  (G38 k (c.1, c.2.1, c.2.2.1, ())).bind fun (r1 : (Locale × Unit) × (Cur × Unit)) =>
  (G36 k (r1.2.1.1, r1.2.1.2.1, r1.2.1.2.2.1, ()) (40 : Int)).bind fun (r2 : (Int × Unit) × (Cur × Unit)) =>
  if ((r2.1.1 == (0 : Int))) then
  (G21 k (r2.2.1.1, r2.2.1.2.1, r2.2.1.2.2.1, ()) ([(⟨#[]⟩ : ByteArray), (⟨#[69, 78]⟩ : ByteArray), (⟨#[97, 98, 99, 100, 101, 102, 103, 104, 105, 106, 107]⟩ : ByteArray)])).bind fun (r3 : (ByteArray × Unit) × (Cur × Unit)) =>
  some (((r3.1.1, r1.1.1.2.1, r1.1.1.2.2.1, r1.1.1.2.2.2.1, r1.1.1.2.2.2.2.1, ()), ()), (r3.2.1, ()))
  else
  if ((r2.1.1 == (1 : Int))) then
  (G21 k (r2.2.1.1, r2.2.1.2.1, r2.2.1.2.2.1, ()) ([(⟨#[97]⟩ : ByteArray), (⟨#[112, 97, 103, 101]⟩ : ByteArray), (⟨#[122, 122]⟩ : ByteArray)])).bind fun (r4 : (ByteArray × Unit) × (Cur × Unit)) =>
  (G21 k (r4.2.1.1, r4.2.1.2.1, r4.2.1.2.2.1, ()) ([(⟨#[]⟩ : ByteArray), (⟨#[121]⟩ : ByteArray)])).bind fun (r5 : (ByteArray × Unit) × (Cur × Unit)) =>
  if (r1.1.1.2.1.length + ([(r4.1.1, (⟨#[120]⟩ : ByteArray), r5.1.1, ())] : List (Term)).length) * 48 ≤ 2 ^ 47 then
  some (((r1.1.1.1, (r1.1.1.2.1 ++ [(r4.1.1, (⟨#[120]⟩ : ByteArray), r5.1.1, ())]), r1.1.1.2.2.1, r1.1.1.2.2.2.1, r1.1.1.2.2.2.2.1, ()), ()), (r5.2.1, ()))
  else none
  else
  if ((r2.1.1 == (2 : Int))) then
  (G47 k (r2.2.1.1, r2.2.1.2.1, r2.2.1.2.2.1, ()) ([(0 : Int), (1001 : Int), (10 : Int)])).bind fun (r6 : (Int × Unit) × (Cur × Unit)) =>
  (G47 k (r6.2.1.1, r6.2.1.2.1, r6.2.1.2.2.1, ()) ([(0 : Int), (10 : Int)])).bind fun (r7 : (Int × Unit) × (Cur × Unit)) =>
  (G21 k (r7.2.1.1, r7.2.1.2.1, r7.2.1.2.2.1, ()) ([(⟨#[]⟩ : ByteArray), (⟨#[97, 32, 98]⟩ : ByteArray), (⟨#[97, 98, 99, 100, 101]⟩ : ByteArray)])).bind fun (r8 : (ByteArray × Unit) × (Cur × Unit)) =>
  if (r1.1.1.2.2.1.length + ([(r6.1.1, r7.1.1, r8.1.1, ())] : List (Rule)).length) * 32 ≤ 2 ^ 47 then
  some (((r1.1.1.1, r1.1.1.2.1, (r1.1.1.2.2.1 ++ [(r6.1.1, r7.1.1, r8.1.1, ())]), r1.1.1.2.2.2.1, r1.1.1.2.2.2.2.1, ()), ()), (r8.2.1, ()))
  else none
  else
  if ((r2.1.1 == (3 : Int))) then
  some (((r1.1.1.1, r1.1.1.2.1, r1.1.1.2.2.1, (⟨#[]⟩ : ByteArray), r1.1.1.2.2.2.2.1, ()), ()), (r2.2.1, ()))
  else
  some ((r1.1.1, ()), (r2.2.1, ())) := by kernel_rfl
theorem S20 (k : Nat) : HSound Tryd.prog gl 20 false (hF20 (F20 k)) :=
  hX_sound (E := E20 k) (fn := Tryd.f20) ⟨Tryd.func20, by kernel_rfl, by kernel_rfl, mixed, mkEnv_ok tis_ok (calls_cons (S21 k) (calls_cons (S36 k) (calls_cons (S38 k) (calls_cons (S47 k) calls_nil)))), by kernel_rfl, by kernel_rfl, Nat.le_of_ble_eq_true (by kernel_rfl), glNB⟩ rfl fun _ _ h => ⟨k, h⟩

/-! f5: loop.example/g00896/spec.DrawAddTerm -/
abbrev P5 : List PT := [.one (.sl1 (.int .u8))]
abbrev R5 : List RT := [.agg [(false, .str), (true, (.sl [.str, .str, .str])), (true, (.sl [(.int .i64), (.int .i64), .str])), (false, .str), (false, .str)], .agg [(false, .str), (false, .str), (false, .str)]]
noncomputable def E5 (k : Nat) : Env := mkEnv tis gl 22 [⟨20, false, true, hF20 (F20 k)⟩, ⟨21, false, true, hF21 (F21 k)⟩] [] [(3, [(1, 0, []), (4, 0, []), (7, 0, []), (0, 8, []), (2, 0, [2, 5, 8]), (3, 0, [5, 8]), (5, 0, [5, 8]), (6, 0, [8]), (8, 0, [8]), (9, 0, []), (10, 0, []), (11, 0, []), (12, 0, [])])] 0
noncomputable def F5 (k : Nat) (x : Args P5) : Option (Res R5) := runFn (E5 k) Tryd.f5 k (encArgs P5 x) [] (retK R5)
abbrev hF5 (F : Args P5 → Option (Res R5)) : Hnd := hP P5 R5 F
noncomputable def G5 (k : Nat) (code : List Int) : Option (Locale × Term × Unit) := F5 k (code, ())
theorem G5_eq (k : Nat) (code : List Int) : G5 k code =
  (G20 k (code, (0 : Int), (0 : Int), ())).bind fun (r1 : (Locale × Unit) × (Cur × Unit)) =>
  (G21 k (r1.2.1.1, r1.2.1.2.1, r1.2.1.2.2.1, ()) ([(⟨#[112, 97, 103, 101]⟩ : ByteArray), (⟨#[108, 105, 110, 101]⟩ : ByteArray), (⟨#[110, 111, 116, 101]⟩ : ByteArray), (⟨#[97]⟩ : ByteArray), (⟨#[80, 97, 103, 101]⟩ : ByteArray)])).bind fun (r2 : (ByteArray × Unit) × (Cur × Unit)) =>
  (G21 k (r2.2.1.1, r2.2.1.2.1, r2.2.1.2.2.1, ()) ([(⟨#[120]⟩ : ByteArray), (⟨#[112, 46]⟩ : ByteArray), (⟨#[]⟩ : ByteArray)])).bind fun (r3 : (ByteArray × Unit) × (Cur × Unit)) =>
  (G21 k (r3.2.1.1, r3.2.1.2.1, r3.2.1.2.2.1, ()) ([(⟨#[120, 115]⟩ : ByteArray), (⟨#[112, 112, 46]⟩ : ByteArray), (⟨#[121]⟩ : ByteArray)])).bind fun (r4 : (ByteArray × Unit) × (Cur × Unit)) =>
  some (r1.1.1, (r2.1.1, r3.1.1, r4.1.1, ()), ()) := by kernel_rfl
theorem S5 (k : Nat) : HSound Tryd.prog gl 5 true (hF5 (F5 k)) :=
  hP_sound (E := E5 k) (fn := Tryd.f5) ⟨Tryd.func5, by kernel_rfl, by kernel_rfl, mixed, mkEnv_ok tis_ok (calls_cons (S20 k) (calls_cons (S21 k) calls_nil)), by kernel_rfl, by kernel_rfl, Nat.le_of_ble_eq_true (by kernel_rfl), glNB⟩ rfl fun _ _ h => ⟨k, h⟩

/-! f55: loop.example/g00896/impl.inside -/
abbrev P55 : List PT := [.one (.int .i64), .one (.int .i64), .one (.int .i64)]
abbrev R55 : List RT := [.one false .bool]
noncomputable def E55 (_ : Nat) : Env := mkEnv tis gl 15 [] [] [] 0
noncomputable def F55 (k : Nat) (x : Args P55) : Option (Res R55) := runFn (E55 k) Tryd.f55 k (encArgs P55 x) [] (retK R55)
abbrev hF55 (F : Args P55 → Option (Res R55)) : Hnd := hP P55 R55 F
noncomputable def G55 (k : Nat) (vn : Int) (low : Int) (high : Int) : Option (Bool × Unit) := F55 k (vn, low, high, ())
theorem G55_eq (k : Nat) (vn : Int) (low : Int) (high : Int) : G55 k vn low high =
  if (decide (vn ≥ low)) then
  some ((decide (vn ≤ high)), ())
  else
  some (false, ()) := by kernel_rfl
theorem S55 (k : Nat) : HSound Tryd.prog gl 55 true (hF55 (F55 k)) :=
  hP_sound (E := E55 k) (fn := Tryd.f55) ⟨Tryd.func55, by kernel_rfl, by kernel_rfl, mixed, mkEnv_ok tis_ok calls_nil, by kernel_rfl, by kernel_rfl, Nat.le_of_ble_eq_true (by kernel_rfl), glNB⟩ rfl fun _ _ h => ⟨k, h⟩

/-! f75: internal/stringslite.HasSuffix -/
abbrev P75 : List PT := [.one .str, .one .str]
abbrev R75 : List RT := [.one false .bool]
noncomputable def E75 (_ : Nat) : Env := mkEnv tis gl 21 [] [] [] 0
noncomputable def F75 (k : Nat) (x : Args P75) : Option (Res R75) := runFn (E75 k) Tryd.f75 k (encArgs P75 x) [] (retK R75)
abbrev hF75 (F : Args P75 → Option (Res R75)) : Hnd := hP P75 R75 F
noncomputable def G75 (k : Nat) (s : ByteArray) (vsuffix : ByteArray) : Option (Bool × Unit) := F75 k (s, vsuffix, ())
theorem G75_eq (k : Nat) (s : ByteArray) (vsuffix : ByteArray) : G75 k s vsuffix =
  if (decide ((s.size : Int) ≥ (vsuffix.size : Int))) then
  if 0 ≤ (IntKind.wrap .i64 ((s.size : Int) - (vsuffix.size : Int))) then
  if (IntKind.wrap .i64 ((s.size : Int) - (vsuffix.size : Int))) ≤ (s.size : Int) then
  if (s.size : Int) ≤ (s.size : Int) then
  some ((sEq (s.extract ((IntKind.wrap .i64 ((s.size : Int) - (vsuffix.size : Int)))).toNat ((s.size : Int)).toNat) vsuffix), ())
  else none
  else none
  else none
  else
  some (false, ()) := by kernel_rfl
theorem S75 (k : Nat) : HSound Tryd.prog gl 75 true (hF75 (F75 k)) :=
  hP_sound (E := E75 k) (fn := Tryd.f75) ⟨Tryd.func75, by kernel_rfl, by kernel_rfl, mixed, mkEnv_ok tis_ok calls_nil, by kernel_rfl, by kernel_rfl, Nat.le_of_ble_eq_true (by kernel_rfl), glNB⟩ rfl fun _ _ h => ⟨k, h⟩

/-! f69: internal/stringslite.TrimSuffix -/
abbrev P69 : List PT := [.one .str, .one .str]
abbrev R69 : List RT := [.one false .str]
noncomputable def E69 (k : Nat) : Env := mkEnv tis gl 16 [⟨75, true, false, hF75 (F75 k)⟩] [] [] 0
noncomputable def F69 (k : Nat) (x : Args P69) : Option (Res R69) := runFn (E69 k) Tryd.f69 k (encArgs P69 x) [] (retK R69)
abbrev hF69 (F : Args P69 → Option (Res R69)) : Hnd := hP P69 R69 F
noncomputable def G69 (k : Nat) (s : ByteArray) (vsuffix : ByteArray) : Option (ByteArray × Unit) := F69 k (s, vsuffix, ())
theorem G69_eq (k : Nat) (s : ByteArray) (vsuffix : ByteArray) : G69 k s vsuffix =
  (G75 k s vsuffix).bind fun (r1 : Bool × Unit) =>
  if r1.1 then
  if 0 ≤ (0 : Int) then
  if (0 : Int) ≤ (IntKind.wrap .i64 ((s.size : Int) - (vsuffix.size : Int))) then
  if (IntKind.wrap .i64 ((s.size : Int) - (vsuffix.size : Int))) ≤ (s.size : Int) then
  some ((s.extract ((0 : Int)).toNat ((IntKind.wrap .i64 ((s.size : Int) - (vsuffix.size : Int)))).toNat), ())
  else none
  else none
  else none
  else
  some (s, ()) := by kernel_rfl
theorem S69 (k : Nat) : HSound Tryd.prog gl 69 true (hF69 (F69 k)) :=
  hP_sound (E := E69 k) (fn := Tryd.f69) ⟨Tryd.func69, by kernel_rfl, by kernel_rfl, mixed, mkEnv_ok tis_ok (calls_cons (S75 k) calls_nil), by kernel_rfl, by kernel_rfl, Nat.le_of_ble_eq_true (by kernel_rfl), glNB⟩ rfl fun _ _ h => ⟨k, h⟩

/-! f64: strings.TrimSuffix -/
abbrev P64 : List PT := [.one .str, .one .str]
abbrev R64 : List RT := [.one false .str]
noncomputable def E64 (k : Nat) : Env := mkEnv tis gl 8 [⟨69, true, false, hF69 (F69 k)⟩] [] [] 0
noncomputable def F64 (k : Nat) (x : Args P64) : Option (Res R64) := runFn (E64 k) Tryd.f64 k (encArgs P64 x) [] (retK R64)
abbrev hF64 (F : Args P64 → Option (Res R64)) : Hnd := hP P64 R64 F
noncomputable def G64 (k : Nat) (s : ByteArray) (vsuffix : ByteArray) : Option (ByteArray × Unit) := F64 k (s, vsuffix, ())
theorem G64_eq (k : Nat) (s : ByteArray) (vsuffix : ByteArray) : G64 k s vsuffix =
  (G69 k s vsuffix).bind fun (r1 : ByteArray × Unit) =>
  some (r1.1, ()) := by kernel_rfl
theorem S64 (k : Nat) : HSound Tryd.prog gl 64 true (hF64 (F64 k)) :=
  hP_sound (E := E64 k) (fn := Tryd.f64) ⟨Tryd.func64, by kernel_rfl, by kernel_rfl, mixed, mkEnv_ok tis_ok (calls_cons (S69 k) calls_nil), by kernel_rfl, by kernel_rfl, Nat.le_of_ble_eq_true (by kernel_rfl), glNB⟩ rfl fun _ _ h => ⟨k, h⟩

/-! f65: loop.example/g00896/impl.isLower -/
abbrev P65 : List PT := [.one (.int .u8)]
abbrev R65 : List RT := [.one false .bool]
noncomputable def E65 (_ : Nat) : Env := mkEnv tis gl 9 [] [] [] 0
noncomputable def F65 (k : Nat) (x : Args P65) : Option (Res R65) := runFn (E65 k) Tryd.f65 k (encArgs P65 x) [] (retK R65)
abbrev hF65 (F : Args P65 → Option (Res R65)) : Hnd := hP P65 R65 F
noncomputable def G65 (k : Nat) (b : Int) : Option (Bool × Unit) := F65 k (b, ())
theorem G65_eq (k : Nat) (b : Int) : G65 k b =
  if (decide (b ≥ (97 : Int))) then
  some ((decide (b ≤ (122 : Int))), ())
  else
  some (false, ()) := by kernel_rfl
theorem S65 (k : Nat) : HSound Tryd.prog gl 65 true (hF65 (F65 k)) :=
  hP_sound (E := E65 k) (fn := Tryd.f65) ⟨Tryd.func65, by kernel_rfl, by kernel_rfl, mixed, mkEnv_ok tis_ok calls_nil, by kernel_rfl, by kernel_rfl, Nat.le_of_ble_eq_true (by kernel_rfl), glNB⟩ rfl fun _ _ h => ⟨k, h⟩

/-! f57: loop.example/g00896/impl.isSmall -/
abbrev P57 : List PT := [.one .str, .one (.int .i64), .one (.int .i64), .one .str]
abbrev R57 : List RT := [.one false .bool]
noncomputable def E57 (k : Nat) : Env := mkEnv tis gl 29 [⟨55, true, false, hF55 (F55 k)⟩, ⟨64, true, false, hF64 (F64 k)⟩, ⟨65, true, false, hF65 (F65 k)⟩] [(3, [0, 1, 2, 9])] [] 0
noncomputable def F57 (k : Nat) (x : Args P57) : Option (Res R57) := runFn (E57 k) Tryd.f57 k (encArgs P57 x) [] (retK R57)
abbrev hF57 (F : Args P57 → Option (Res R57)) : Hnd := hP P57 R57 F
noncomputable def G57 (k : Nat) (s : ByteArray) (low : Int) (high : Int) (behind : ByteArray) : Option (Bool × Unit) := F57 k (s, low, high, behind, ())
noncomputable def L57_0 (k : Nat) (n : Nat) (s : ByteArray) (low : Int) (high : Int) (i : Int) : Option (Bool × Unit) :=
  loopAt (E57 k) k [1, 1, 0, 1, 0] [] (body Tryd.f57) (atEnd (E57 k) Tryd.f57.results.toList (retK R57)) n ⟨[(0, .v (.one (V.d .str s))), (1, .v (.one (V.d (.int .i64) low))), (2, .v (.one (V.d (.int .i64) high))), (9, .v (.one (V.d (.int .i64) i)))], []⟩
theorem G57_eq (k : Nat) (s : ByteArray) (low : Int) (high : Int) (behind : ByteArray) : G57 k s low high behind =
  (G64 k s behind).bind fun (r1 : ByteArray × Unit) =>
  L57_0 k k r1.1 low high ((0 : Int)) := by kernel_rfl
theorem L57_0_eq (k : Nat) (n : Nat) (s : ByteArray) (low : Int) (high : Int) (i : Int) : L57_0 k (n + 1) s low high i =
  if (decide (i < (s.size : Int))) then
  if 0 ≤ i then
  if i < (s.size : Int) then
  (G65 k (bt s i)).bind fun (r1 : Bool × Unit) =>
  if (!r1.1) then
  some (false, ())
  else
  L57_0 k n s low high ((IntKind.wrap .i64 (i + (1 : Int))))
  else none
  else none
  else
  (G55 k (s.size : Int) low high).bind fun (r2 : Bool × Unit) =>
  some (r2.1, ()) := by kernel_rfl
theorem L57_0_zero (k : Nat) (s : ByteArray) (low : Int) (high : Int) (i : Int) : L57_0 k 0 s low high i = none := by kernel_rfl
theorem S57 (k : Nat) : HSound Tryd.prog gl 57 true (hF57 (F57 k)) :=
  hP_sound (E := E57 k) (fn := Tryd.f57) ⟨Tryd.func57, by kernel_rfl, by kernel_rfl, mixed, mkEnv_ok tis_ok (calls_cons (S55 k) (calls_cons (S64 k) (calls_cons (S65 k) calls_nil))), by kernel_rfl, by kernel_rfl, Nat.le_of_ble_eq_true (by kernel_rfl), glNB⟩ rfl fun _ _ h => ⟨k, h⟩

/-! f31: loop.example/g00896/impl.isTermKey -/
abbrev P31 : List PT := [.one .str]
abbrev R31 : List RT := [.one false .bool]
noncomputable def E31 (k : Nat) : Env := mkEnv tis gl 5 [⟨57, true, false, hF57 (F57 k)⟩] [] [] 0
noncomputable def F31 (k : Nat) (x : Args P31) : Option (Res R31) := runFn (E31 k) Tryd.f31 k (encArgs P31 x) [] (retK R31)
abbrev hF31 (F : Args P31 → Option (Res R31)) : Hnd := hP P31 R31 F
noncomputable def G31 (k : Nat) (s : ByteArray) : Option (Bool × Unit) := F31 k (s, ())
theorem G31_eq (k : Nat) (s : ByteArray) : G31 k s =
  (G57 k s (1 : Int) (10 : Int) (⟨#[]⟩ : ByteArray)).bind fun (r1 : Bool × Unit) =>
  some (r1.1, ()) := by kernel_rfl
theorem S31 (k : Nat) : HSound Tryd.prog gl 31 true (hF31 (F31 k)) :=
  hP_sound (E := E31 k) (fn := Tryd.f31) ⟨Tryd.func31, by kernel_rfl, by kernel_rfl, mixed, mkEnv_ok tis_ok (calls_cons (S57 k) calls_nil), by kernel_rfl, by kernel_rfl, Nat.le_of_ble_eq_true (by kernel_rfl), glNB⟩ rfl fun _ _ h => ⟨k, h⟩

/-! f58: loop.example/g00896/impl.arePrintable -/
abbrev P58 : List PT := [.one .str]
abbrev R58 : List RT := [.one false .bool]
noncomputable def E58 (_ : Nat) : Env := mkEnv tis gl 20 [] [(2, [0, 3])] [] 0
noncomputable def F58 (k : Nat) (x : Args P58) : Option (Res R58) := runFn (E58 k) Tryd.f58 k (encArgs P58 x) [] (retK R58)
abbrev hF58 (F : Args P58 → Option (Res R58)) : Hnd := hP P58 R58 F
noncomputable def G58 (k : Nat) (s : ByteArray) : Option (Bool × Unit) := F58 k (s, ())
noncomputable def L58_0 (k : Nat) (n : Nat) (s : ByteArray) (i : Int) : Option (Bool × Unit) :=
  loopAt (E58 k) k [1, 0, 1, 0] [] (body Tryd.f58) (atEnd (E58 k) Tryd.f58.results.toList (retK R58)) n ⟨[(0, .v (.one (V.d .str s))), (3, .v (.one (V.d (.int .i64) i)))], []⟩
theorem G58_eq (k : Nat) (s : ByteArray) : G58 k s =
  L58_0 k k s ((0 : Int)) := by kernel_rfl
theorem L58_0_eq (k : Nat) (n : Nat) (s : ByteArray) (i : Int) : L58_0 k (n + 1) s i =
  if (decide (i < (s.size : Int))) then
  if 0 ≤ i then
  if i < (s.size : Int) then
  if (decide ((bt s i) < (32 : Int))) then
  some (false, ())
  else
  if 0 ≤ i then
  if i < (s.size : Int) then
  if (decide ((bt s i) > (126 : Int))) then
  some (false, ())
  else
  L58_0 k n s ((IntKind.wrap .i64 (i + (1 : Int))))
  else none
  else none
  else none
  else none
  else
  some (true, ()) := by kernel_rfl
theorem L58_0_zero (k : Nat) (s : ByteArray) (i : Int) : L58_0 k 0 s i = none := by kernel_rfl
theorem S58 (k : Nat) : HSound Tryd.prog gl 58 true (hF58 (F58 k)) :=
  hP_sound (E := E58 k) (fn := Tryd.f58) ⟨Tryd.func58, by kernel_rfl, by kernel_rfl, mixed, mkEnv_ok tis_ok calls_nil, by kernel_rfl, by kernel_rfl, Nat.le_of_ble_eq_true (by kernel_rfl), glNB⟩ rfl fun _ _ h => ⟨k, h⟩

/-! f32: loop.example/g00896/impl.isTermText -/
abbrev P32 : List PT := [.one .str, .one (.int .i64)]
abbrev R32 : List RT := [.one false .bool]
noncomputable def E32 (k : Nat) : Env := mkEnv tis gl 13 [⟨55, true, false, hF55 (F55 k)⟩, ⟨58, true, false, hF58 (F58 k)⟩] [] [] 0
noncomputable def F32 (k : Nat) (x : Args P32) : Option (Res R32) := runFn (E32 k) Tryd.f32 k (encArgs P32 x) [] (retK R32)
abbrev hF32 (F : Args P32 → Option (Res R32)) : Hnd := hP P32 R32 F
noncomputable def G32 (k : Nat) (s : ByteArray) (most : Int) : Option (Bool × Unit) := F32 k (s, most, ())
theorem G32_eq (k : Nat) (s : ByteArray) (most : Int) : G32 k s most =
  (G55 k (s.size : Int) (1 : Int) most).bind fun (r1 : Bool × Unit) =>
  if r1.1 then
  (G58 k s).bind fun (r2 : Bool × Unit) =>
  some (r2.1, ())
  else
  some (false, ()) := by kernel_rfl
theorem S32 (k : Nat) : HSound Tryd.prog gl 32 true (hF32 (F32 k)) :=
  hP_sound (E := E32 k) (fn := Tryd.f32) ⟨Tryd.func32, by kernel_rfl, by kernel_rfl, mixed, mkEnv_ok tis_ok (calls_cons (S55 k) (calls_cons (S58 k) calls_nil)), by kernel_rfl, by kernel_rfl, Nat.le_of_ble_eq_true (by kernel_rfl), glNB⟩ rfl fun _ _ h => ⟨k, h⟩

/-! f60: strings.Contains, by the shelf's contract -/
abbrev P60 : List PT := [.one .str, .one .str]
abbrev R60 : List RT := [.one false .bool]
def F60 (_ : Nat) (x : Args P60) : Option (Res R60) := match (x.2.1 : ByteArray).data.toList with
  | [c] => some (decide (0 ≤ Lib.indexByte (x.1 : ByteArray).data.toList c), ())
  | _ => none
def G60 (k : Nat) (s vsubstr : ByteArray) : Option (Bool × Unit) := F60 k (s, vsubstr, ())
abbrev hF60 (F : Args P60 → Option (Res R60)) : Hnd := hP P60 R60 F
theorem S60 (k : Nat) : HSound Tryd.prog gl 60 true (hF60 (F60 k)) := by
  refine hP_of_contract (hEnter_of Tryd.func60 (by kernel_rfl) (by kernel_rfl)) rfl rfl fun x r w h => ?_
  obtain ⟨a, b, u⟩ := x
  unfold F60 at h
  split at h
  · rename_i c hc
    cases h
    have hb : (b : ByteArray) = ⟨#[c]⟩ := by
      have h2 : (b : ByteArray).data = #[c] := by
        apply Array.ext'
        exact hc
      cases b
      cases h2
      rfl
    have h3 : valArgs P60 (a, b, u) = [.string a, .string (⟨#[c]⟩ : ByteArray)] := by
      rw [← hb]; rfl
    rw [h3]
    exact Tryd.strings_Contains_one a c w
  · cases h

/-! f35: loop.example/g00896/impl.isOrdinalRule -/
abbrev P35 : List PT := [.agg [(.int .i64), (.int .i64), .str]]
abbrev R35 : List RT := [.one false .bool]
noncomputable def E35 (k : Nat) : Env := mkEnv tis gl 31 [⟨55, true, false, hF55 (F55 k)⟩, ⟨58, true, false, hF58 (F58 k)⟩, ⟨60, true, false, hF60 (F60 k)⟩] [] [] 0
noncomputable def F35 (k : Nat) (x : Args P35) : Option (Res R35) := runFn (E35 k) Tryd.f35 k (encArgs P35 x) [] (retK R35)
abbrev hF35 (F : Args P35 → Option (Res R35)) : Hnd := hP P35 R35 F
noncomputable def G35 (k : Nat) (r : Rule) : Option (Bool × Unit) := F35 k (r, ())
theorem G35_eq (k : Nat) (r : Rule) : G35 k r =
  (G55 k r.1 (1 : Int) (1000 : Int)).bind fun (r1 : Bool × Unit) =>
  if r1.1 then
  (G55 k r.2.1 (0 : Int) (IntKind.wrap .i64 (r.1 - (1 : Int)))).bind fun (r2 : Bool × Unit) =>
  if r2.1 then
  if (decide ((r.2.2.1.size : Int) ≤ (4 : Int))) then
  (G58 k r.2.2.1).bind fun (r3 : Bool × Unit) =>
  if r3.1 then
  (G60 k r.2.2.1 (⟨#[32]⟩ : ByteArray)).bind fun (r4 : Bool × Unit) =>
  some ((!r4.1), ())
  else
  some (false, ())
  else
  some (false, ())
  else
  some (false, ())
  else
  some (false, ()) := by kernel_rfl
theorem S35 (k : Nat) : HSound Tryd.prog gl 35 true (hF35 (F35 k)) :=
  hP_sound (E := E35 k) (fn := Tryd.f35) ⟨Tryd.func35, by kernel_rfl, by kernel_rfl, mixed, mkEnv_ok tis_ok (calls_cons (S55 k) (calls_cons (S58 k) (calls_cons (S60 k) calls_nil))), by kernel_rfl, by kernel_rfl, Nat.le_of_ble_eq_true (by kernel_rfl), glNB⟩ rfl fun _ _ h => ⟨k, h⟩

/-! f34: loop.example/g00896/impl.IsValidLocale$1 -/
abbrev P34 : List PT := [.agg [(.int .i64), (.int .i64), .str]]
abbrev R34 : List RT := [.one false .bool]
noncomputable def E34 (k : Nat) : Env := mkEnv tis gl 6 [⟨35, true, false, hF35 (F35 k)⟩] [] [] 0
noncomputable def F34 (k : Nat) (x : Args P34) : Option (Res R34) := runFn (E34 k) Tryd.f34 k (encArgs P34 x) [] (retK R34)
abbrev hF34 (F : Args P34 → Option (Res R34)) : Hnd := hP P34 R34 F
noncomputable def G34 (k : Nat) (r : Rule) : Option (Bool × Unit) := F34 k (r, ())
theorem G34_eq (k : Nat) (r : Rule) : G34 k r =
  (G35 k r).bind fun (r1 : Bool × Unit) =>
  some ((!r1.1), ()) := by kernel_rfl
theorem S34 (k : Nat) : HSound Tryd.prog gl 34 true (hF34 (F34 k)) :=
  hP_sound (E := E34 k) (fn := Tryd.f34) ⟨Tryd.func34, by kernel_rfl, by kernel_rfl, mixed, mkEnv_ok tis_ok (calls_cons (S35 k) calls_nil), by kernel_rfl, by kernel_rfl, Nat.le_of_ble_eq_true (by kernel_rfl), glNB⟩ rfl fun _ _ h => ⟨k, h⟩

/-! f59: slices.IndexFunc[[]loop.example/g00896/impl.OrdinalRule,loop.example/g00896/impl.OrdinalRule] -/
abbrev P59 : List PT := [.one (.sl [(.int .i64), (.int .i64), .str]), .fn 34]
abbrev R59 : List RT := [.one false (.int .i64)]
noncomputable def E59 (k : Nat) : Env := mkEnv tis gl 19 [⟨34, true, false, hF34 (F34 k)⟩] [(2, [0, 1, 7, 8])] [] 0
noncomputable def F59 (k : Nat) (x : Args P59) : Option (Res R59) := runFn (E59 k) Tryd.f59 k (encArgs P59 x) [] (retK R59)
abbrev hF59 (F : Args P59 → Option (Res R59)) : Hnd := hP P59 R59 F
noncomputable def G59 (k : Nat) (s : List (Rule)) : Option (Int × Unit) := F59 k (s, (), ())
noncomputable def L59_0 (k : Nat) (n : Nat) (s : List (Rule)) (v7 : Int) (v8 : Int) : Option (Int × Unit) :=
  loopAt (E59 k) k [1, 0, 1, 0] [] (body Tryd.f59) (atEnd (E59 k) Tryd.f59.results.toList (retK R59)) n ⟨[(0, .v (.one (V.d (.sl [(.int .i64), (.int .i64), .str]) s))), (1, .v (.one (V.clo 34 []))), (7, .v (.one (V.d (.int .i64) v7))), (8, .v (.one (V.d (.int .i64) v8)))], []⟩
theorem G59_eq (k : Nat) (s : List (Rule)) : G59 k s =
  L59_0 k k s ((s.length : Int)) ((0 : Int)) := by kernel_rfl
theorem L59_0_eq (k : Nat) (n : Nat) (s : List (Rule)) (v7 : Int) (v8 : Int) : L59_0 k (n + 1) s v7 v8 =
  if (decide (v8 < v7)) then
  if 0 ≤ v8 then
  if v8 < (s.length : Int) then
  (G34 k (s.getD (v8).toNat dRule)).bind fun (r1 : Bool × Unit) =>
  if r1.1 then
  some (v8, ())
  else
  L59_0 k n s v7 ((IntKind.wrap .i64 (v8 + (1 : Int))))
  else none
  else none
  else
  some ((-1 : Int), ()) := by kernel_rfl
theorem L59_0_zero (k : Nat) (s : List (Rule)) (v7 : Int) (v8 : Int) : L59_0 k 0 s v7 v8 = none := by kernel_rfl
theorem S59 (k : Nat) : HSound Tryd.prog gl 59 true (hF59 (F59 k)) :=
  hP_sound (E := E59 k) (fn := Tryd.f59) ⟨Tryd.func59, by kernel_rfl, by kernel_rfl, mixed, mkEnv_ok tis_ok (calls_cons (S34 k) calls_nil), by kernel_rfl, by kernel_rfl, Nat.le_of_ble_eq_true (by kernel_rfl), glNB⟩ rfl fun _ _ h => ⟨k, h⟩

/-! f33: slices.ContainsFunc[[]loop.example/g00896/impl.OrdinalRule,loop.example/g00896/impl.OrdinalRule] -/
abbrev P33 : List PT := [.one (.sl [(.int .i64), (.int .i64), .str]), .fn 34]
abbrev R33 : List RT := [.one false .bool]
noncomputable def E33 (k : Nat) : Env := mkEnv tis gl 9 [⟨59, true, false, hF59 (F59 k)⟩] [] [] 0
noncomputable def F33 (k : Nat) (x : Args P33) : Option (Res R33) := runFn (E33 k) Tryd.f33 k (encArgs P33 x) [] (retK R33)
abbrev hF33 (F : Args P33 → Option (Res R33)) : Hnd := hP P33 R33 F
noncomputable def G33 (k : Nat) (s : List (Rule)) : Option (Bool × Unit) := F33 k (s, (), ())
theorem G33_eq (k : Nat) (s : List (Rule)) : G33 k s =
  (G59 k s).bind fun (r1 : Int × Unit) =>
  some ((decide (r1.1 ≥ (0 : Int))), ()) := by kernel_rfl
theorem S33 (k : Nat) : HSound Tryd.prog gl 33 true (hF33 (F33 k)) :=
  hP_sound (E := E33 k) (fn := Tryd.f33) ⟨Tryd.func33, by kernel_rfl, by kernel_rfl, mixed, mkEnv_ok tis_ok (calls_cons (S59 k) calls_nil), by kernel_rfl, by kernel_rfl, Nat.le_of_ble_eq_true (by kernel_rfl), glNB⟩ rfl fun _ _ h => ⟨k, h⟩

/-! f10: loop.example/g00896/impl.IsValidLocale -/
abbrev P10 : List PT := [.agg [.str, (.sl [.str, .str, .str]), (.sl [(.int .i64), (.int .i64), .str]), .str, .str]]
abbrev R10 : List RT := [.one false .bool]
noncomputable def E10 (k : Nat) : Env := mkEnv tis gl 78 [⟨31, true, false, hF31 (F31 k)⟩, ⟨32, true, false, hF32 (F32 k)⟩, ⟨33, true, false, hF33 (F33 k)⟩] [(4, [1, 34, 35, 36])] [(6, [(0, 0, []), (1, 0, []), (2, 0, []), (3, 0, []), (4, 0, []), (5, 0, []), (6, 0, []), (7, 0, []), (8, 0, []), (9, 0, []), (10, 0, []), (11, 0, []), (12, 0, []), (13, 0, []), (14, 0, []), (15, 0, []), (16, 0, []), (17, 0, []), (18, 0, []), (19, 0, []), (20, 0, []), (21, 0, []), (22, 0, []), (23, 0, []), (24, 0, []), (25, 0, []), (26, 0, []), (27, 0, []), (28, 0, []), (29, 0, []), (30, 0, []), (31, 0, [])])] 0
noncomputable def F10 (k : Nat) (x : Args P10) : Option (Res R10) := runFn (E10 k) Tryd.f10 k (encArgs P10 x) [] (retK R10)
abbrev hF10 (F : Args P10 → Option (Res R10)) : Hnd := hP P10 R10 F
noncomputable def G10 (k : Nat) (l : Locale) : Option (Bool × Unit) := F10 k (l, ())
noncomputable def L10_0 (k : Nat) (n : Nat) (v34 : List (Term)) (v35 : Int) (v36 : Int) (l : ByteArray) (l_1 : List (Term)) (l_2 : List (Rule)) (l_3 : ByteArray) (l_4 : ByteArray) : Option (Bool × Unit) :=
  loopAt (E10 k) k [1, 1, 0, 1, 0] [] (body Tryd.f10) (atEnd (E10 k) Tryd.f10.results.toList (retK R10)) n ⟨[(1, .v (.one (V.ptr 0 0))), (34, .v (.one (V.d (.sl [.str, .str, .str]) v34))), (35, .v (.one (V.d (.int .i64) v35))), (36, .v (.one (V.d (.int .i64) v36)))], [.box [V.d .str l, V.d (.sl [.str, .str, .str]) l_1, V.d (.sl [(.int .i64), (.int .i64), .str]) l_2, V.d .str l_3, V.d .str l_4]]⟩
theorem G10_eq (k : Nat) (l : Locale) : G10 k l =
  (G31 k l.1).bind fun (r1 : Bool × Unit) =>
  if (!r1.1) then
  some (false, ())
  else
  if (decide ((l.2.1.length : Int) > (12 : Int))) then
  some (false, ())
  else
  if (decide ((l.2.2.1.length : Int) > (6 : Int))) then
  some (false, ())
  else
  (G32 k l.2.2.2.1 (10 : Int)).bind fun (r2 : Bool × Unit) =>
  if (!r2.1) then
  some (false, ())
  else
  (G32 k l.2.2.2.2.1 (10 : Int)).bind fun (r3 : Bool × Unit) =>
  if (!r3.1) then
  some (false, ())
  else
  L10_0 k k l.2.1 ((l.2.1.length : Int)) ((0 : Int)) l.1 l.2.1 l.2.2.1 l.2.2.2.1 l.2.2.2.2.1 := by kernel_rfl
theorem L10_0_eq (k : Nat) (n : Nat) (v34 : List (Term)) (v35 : Int) (v36 : Int) (l : ByteArray) (l_1 : List (Term)) (l_2 : List (Rule)) (l_3 : ByteArray) (l_4 : ByteArray) : L10_0 k (n + 1) v34 v35 v36 l l_1 l_2 l_3 l_4 =
  if (decide (v36 < v35)) then
  if 0 ≤ v36 then
  if v36 < (v34.length : Int) then
  (G31 k ((v34.getD (v36).toNat dTerm).1)).bind fun (r1 : Bool × Unit) =>
  if (!r1.1) then
  some (false, ())
  else
  (G32 k ((v34.getD (v36).toNat dTerm).2.1) (20 : Int)).bind fun (r2 : Bool × Unit) =>
  if (!r2.1) then
  some (false, ())
  else
  (G32 k ((v34.getD (v36).toNat dTerm).2.2.1) (20 : Int)).bind fun (r3 : Bool × Unit) =>
  if (!r3.1) then
  some (false, ())
  else
  if (decide (v36 > (0 : Int))) then
  if 0 ≤ (IntKind.wrap .i64 (v36 - (1 : Int))) then
  if (IntKind.wrap .i64 (v36 - (1 : Int))) < (l_1.length : Int) then
  if ((!sLt (l_1.getD ((IntKind.wrap .i64 (v36 - (1 : Int)))).toNat dTerm).1 (v34.getD (v36).toNat dTerm).1)) then
  some (false, ())
  else
  L10_0 k n v34 v35 ((IntKind.wrap .i64 (v36 + (1 : Int)))) l l_1 l_2 l_3 l_4
  else none
  else none
  else
  L10_0 k n v34 v35 ((IntKind.wrap .i64 (v36 + (1 : Int)))) l l_1 l_2 l_3 l_4
  else none
  else none
  else
  (G33 k l_2).bind fun (r4 : Bool × Unit) =>
  some ((!r4.1), ()) := by kernel_rfl
theorem L10_0_zero (k : Nat) (v34 : List (Term)) (v35 : Int) (v36 : Int) (l : ByteArray) (l_1 : List (Term)) (l_2 : List (Rule)) (l_3 : ByteArray) (l_4 : ByteArray) : L10_0 k 0 v34 v35 v36 l l_1 l_2 l_3 l_4 = none := by kernel_rfl
theorem S10 (k : Nat) : HSound Tryd.prog gl 10 true (hF10 (F10 k)) :=
  hP_sound (E := E10 k) (fn := Tryd.f10) ⟨Tryd.func10, by kernel_rfl, by kernel_rfl, mixed, mkEnv_ok tis_ok (calls_cons (S31 k) (calls_cons (S32 k) (calls_cons (S33 k) calls_nil))), by kernel_rfl, by kernel_rfl, Nat.le_of_ble_eq_true (by kernel_rfl), glNB⟩ rfl fun _ _ h => ⟨k, h⟩

/-! f22: loop.example/g00896/impl.newLocale -/
abbrev P22 : List PT := [.agg [.str, (.sl [.str, .str, .str]), (.sl [(.int .i64), (.int .i64), .str]), .str, .str]]
abbrev R22 : List RT := [.agg [(false, .str), (true, (.sl [.str, .str, .str])), (true, (.sl [(.int .i64), (.int .i64), .str])), (false, .str), (false, .str)]]
noncomputable def E22 (_ : Nat) : Env := mkEnv tis gl 14 [] [] [] 0
noncomputable def F22 (k : Nat) (x : Args P22) : Option (Res R22) := runFn (E22 k) Tryd.f22 k (encArgs P22 x) [] (retK R22)
abbrev hF22 (F : Args P22 → Option (Res R22)) : Hnd := hP P22 R22 F
noncomputable def G22 (k : Nat) (l : Locale) : Option (Locale × Unit) := F22 k (l, ())
theorem G22_eq (k : Nat) (l : Locale) : G22 k l =
  if (([] : List (Term)).length + l.2.1.length) * 48 ≤ 2 ^ 47 then
  if (([] : List (Rule)).length + l.2.2.1.length) * 32 ≤ 2 ^ 47 then
  some ((l.1, ([] ++ l.2.1), ([] ++ l.2.2.1), l.2.2.2.1, l.2.2.2.2.1, ()), ())
  else none
  else none := by kernel_rfl
theorem S22 (k : Nat) : HSound Tryd.prog gl 22 true (hF22 (F22 k)) :=
  hP_sound (E := E22 k) (fn := Tryd.f22) ⟨Tryd.func22, by kernel_rfl, by kernel_rfl, mixed, mkEnv_ok tis_ok calls_nil, by kernel_rfl, by kernel_rfl, Nat.le_of_ble_eq_true (by kernel_rfl), glNB⟩ rfl fun _ _ h => ⟨k, h⟩

/-! f6: loop.example/g00896/impl.AddTerm -/
abbrev P6 : List PT := [.agg [.str, (.sl [.str, .str, .str]), (.sl [(.int .i64), (.int .i64), .str]), .str, .str], .agg [.str, .str, .str]]
abbrev R6 : List RT := [.agg [(false, .str), (true, (.sl [.str, .str, .str])), (true, (.sl [(.int .i64), (.int .i64), .str])), (false, .str), (false, .str)], .one false .bool]
noncomputable def E6 (k : Nat) : Env := mkEnv tis gl 65 [⟨10, true, false, hF10 (F10 k)⟩, ⟨22, true, false, hF22 (F22 k)⟩, ⟨23, false, false, hIns (.sl [.str, .str, .str]) 48⟩] [(4, [3, 4, 6, 7])] [(4, [(0, 0, []), (1, 0, []), (2, 0, []), (3, 0, []), (4, 0, []), (5, 0, []), (6, 0, []), (7, 0, []), (8, 0, []), (9, 0, []), (10, 0, []), (11, 0, []), (12, 0, []), (13, 0, []), (14, 0, []), (15, 0, [])]), (6, [(0, 0, []), (1, 0, []), (2, 0, []), (3, 0, []), (4, 0, []), (5, 0, []), (6, 0, []), (7, 0, []), (8, 0, []), (9, 0, []), (10, 0, []), (11, 0, []), (12, 0, []), (13, 0, []), (14, 0, []), (15, 0, [])])] 0
noncomputable def F6 (k : Nat) (x : Args P6) : Option (Res R6) := runFn (E6 k) Tryd.f6 k (encArgs P6 x) [] (retK R6)
abbrev hF6 (F : Args P6 → Option (Res R6)) : Hnd := hP P6 R6 F
noncomputable def G6 (k : Nat) (l : Locale) (t : Term) : Option (Locale × Bool × Unit) := F6 k (l, t, ())
noncomputable def L6_0 (k : Nat) (n : Nat) (vat : Int) (t : ByteArray) (t_1 : ByteArray) (t_2 : ByteArray) (v4 : ByteArray) (v4_1 : ByteArray) (v4_2 : ByteArray) (out : ByteArray) (out_1 : ByteArray) (out_2 : ByteArray) (out_3 : List (Term)) (out_4 : List (Rule)) : Option (Locale × Bool × Unit) :=
  loopAt (E6 k) k [1, 1, 1, 0, 0] [] (body Tryd.f6) (atEnd (E6 k) Tryd.f6.results.toList (retK R6)) n ⟨[(3, .v (.one (V.ptr 0 0))), (4, .v (.one (V.ptr 1 0))), (6, .v (.one (V.ptr 2 0))), (7, .v (.one (V.d (.int .i64) vat)))], [.box [V.d .str t, V.d .str t_1, V.d .str t_2], .box [V.d .str v4, V.nils, V.nils, V.d .str v4_1, V.d .str v4_2], .box [V.d .str out, V.ref 3, V.ref 4, V.d .str out_1, V.d .str out_2], .arr (.sl [.str, .str, .str]) out_3, .arr (.sl [(.int .i64), (.int .i64), .str]) out_4]⟩
theorem G6_eq (k : Nat) (l : Locale) (t : Term) : G6 k l t =
  (G10 k l).bind fun (r1 : Bool × Unit) =>
  if (!r1.1) then
  some ((ByteArray.empty, [], [], ByteArray.empty, ByteArray.empty, ()), false, ())
  else
  (G22 k l).bind fun (r2 : Locale × Unit) =>
  L6_0 k k ((0 : Int)) t.1 t.2.1 t.2.2.1 ByteArray.empty ByteArray.empty ByteArray.empty r2.1.1 r2.1.2.2.2.1 r2.1.2.2.2.2.1 r2.1.2.1 r2.1.2.2.1 := by kernel_rfl
theorem L6_0_eq (k : Nat) (n : Nat) (vat : Int) (t : ByteArray) (t_1 : ByteArray) (t_2 : ByteArray) (v4 : ByteArray) (v4_1 : ByteArray) (v4_2 : ByteArray) (out : ByteArray) (out_1 : ByteArray) (out_2 : ByteArray) (out_3 : List (Term)) (out_4 : List (Rule)) : L6_0 k (n + 1) vat t t_1 t_2 v4 v4_1 v4_2 out out_1 out_2 out_3 out_4 =
  if (decide (vat < (out_3.length : Int))) then
  if 0 ≤ vat then
  if vat < (out_3.length : Int) then
  if (sLt (out_3.getD (vat).toNat dTerm).1 t) then
  L6_0 k n ((IntKind.wrap .i64 (vat + (1 : Int)))) t t_1 t_2 v4 v4_1 v4_2 out out_1 out_2 out_3 out_4
  else
  if (decide (vat < (out_3.length : Int))) then
  if 0 ≤ vat then
  if vat < (out_3.length : Int) then
  if (sEq (out_3.getD (vat).toNat dTerm).1 t) then
  if 0 ≤ vat then
  if vat < (out_3.length : Int) then
  (G10 k (out, (out_3.set (vat).toNat (t, t_1, t_2, ())), out_4, out_1, out_2, ())).bind fun (r1 : Bool × Unit) =>
  if (!r1.1) then
  some ((ByteArray.empty, [], [], ByteArray.empty, ByteArray.empty, ()), false, ())
  else
  some ((out, (out_3.set (vat).toNat (t, t_1, t_2, ())), out_4, out_1, out_2, ()), true, ())
  else none
  else none
  else
  if 0 ≤ vat then
  if vat ≤ (out_3.length : Int) then
  if (out_3.length + ([(t, t_1, t_2, ())] : List (Term)).length) * 48 ≤ 2 ^ 47 then
  (G10 k (out, (List.take (vat).toNat out_3 ++ [(t, t_1, t_2, ())] ++ List.drop (vat).toNat out_3), out_4, out_1, out_2, ())).bind fun (r2 : Bool × Unit) =>
  if (!r2.1) then
  some ((ByteArray.empty, [], [], ByteArray.empty, ByteArray.empty, ()), false, ())
  else
  some ((out, (List.take (vat).toNat out_3 ++ [(t, t_1, t_2, ())] ++ List.drop (vat).toNat out_3), out_4, out_1, out_2, ()), true, ())
  else none
  else none
  else none
  else none
  else none
  else
  if 0 ≤ vat then
  if vat ≤ (out_3.length : Int) then
  if (out_3.length + ([(t, t_1, t_2, ())] : List (Term)).length) * 48 ≤ 2 ^ 47 then
  (G10 k (out, (List.take (vat).toNat out_3 ++ [(t, t_1, t_2, ())] ++ List.drop (vat).toNat out_3), out_4, out_1, out_2, ())).bind fun (r3 : Bool × Unit) =>
  if (!r3.1) then
  some ((ByteArray.empty, [], [], ByteArray.empty, ByteArray.empty, ()), false, ())
  else
  some ((out, (List.take (vat).toNat out_3 ++ [(t, t_1, t_2, ())] ++ List.drop (vat).toNat out_3), out_4, out_1, out_2, ()), true, ())
  else none
  else none
  else none
  else none
  else none
  else
  if (decide (vat < (out_3.length : Int))) then
  if 0 ≤ vat then
  if vat < (out_3.length : Int) then
  if (sEq (out_3.getD (vat).toNat dTerm).1 t) then
  if 0 ≤ vat then
  if vat < (out_3.length : Int) then
  (G10 k (out, (out_3.set (vat).toNat (t, t_1, t_2, ())), out_4, out_1, out_2, ())).bind fun (r4 : Bool × Unit) =>
  if (!r4.1) then
  some ((ByteArray.empty, [], [], ByteArray.empty, ByteArray.empty, ()), false, ())
  else
  some ((out, (out_3.set (vat).toNat (t, t_1, t_2, ())), out_4, out_1, out_2, ()), true, ())
  else none
  else none
  else
  if 0 ≤ vat then
  if vat ≤ (out_3.length : Int) then
  if (out_3.length + ([(t, t_1, t_2, ())] : List (Term)).length) * 48 ≤ 2 ^ 47 then
  (G10 k (out, (List.take (vat).toNat out_3 ++ [(t, t_1, t_2, ())] ++ List.drop (vat).toNat out_3), out_4, out_1, out_2, ())).bind fun (r5 : Bool × Unit) =>
  if (!r5.1) then
  some ((ByteArray.empty, [], [], ByteArray.empty, ByteArray.empty, ()), false, ())
  else
  some ((out, (List.take (vat).toNat out_3 ++ [(t, t_1, t_2, ())] ++ List.drop (vat).toNat out_3), out_4, out_1, out_2, ()), true, ())
  else none
  else none
  else none
  else none
  else none
  else
  if 0 ≤ vat then
  if vat ≤ (out_3.length : Int) then
  if (out_3.length + ([(t, t_1, t_2, ())] : List (Term)).length) * 48 ≤ 2 ^ 47 then
  (G10 k (out, (List.take (vat).toNat out_3 ++ [(t, t_1, t_2, ())] ++ List.drop (vat).toNat out_3), out_4, out_1, out_2, ())).bind fun (r6 : Bool × Unit) =>
  if (!r6.1) then
  some ((ByteArray.empty, [], [], ByteArray.empty, ByteArray.empty, ()), false, ())
  else
  some ((out, (List.take (vat).toNat out_3 ++ [(t, t_1, t_2, ())] ++ List.drop (vat).toNat out_3), out_4, out_1, out_2, ()), true, ())
  else none
  else none
  else none := by kernel_rfl
theorem L6_0_zero (k : Nat) (vat : Int) (t : ByteArray) (t_1 : ByteArray) (t_2 : ByteArray) (v4 : ByteArray) (v4_1 : ByteArray) (v4_2 : ByteArray) (out : ByteArray) (out_1 : ByteArray) (out_2 : ByteArray) (out_3 : List (Term)) (out_4 : List (Rule)) : L6_0 k 0 vat t t_1 t_2 v4 v4_1 v4_2 out out_1 out_2 out_3 out_4 = none := by kernel_rfl
theorem S6 (k : Nat) : HSound Tryd.prog gl 6 true (hF6 (F6 k)) :=
  hP_sound (E := E6 k) (fn := Tryd.f6) ⟨Tryd.func6, by kernel_rfl, by kernel_rfl, mixed, mkEnv_ok tis_ok (calls_cons (S10 k) (calls_cons (S22 k) (calls_cons (S23 k) calls_nil))), by kernel_rfl, by kernel_rfl, Nat.le_of_ble_eq_true (by kernel_rfl), glNB⟩ rfl fun _ _ h => ⟨k, h⟩

/-! f40: loop.example/g00896/spec.l1In -/
abbrev P40 : List PT := [.one (.int .i64), .one (.int .i64), .one (.int .i64)]
abbrev R40 : List RT := [.one false .bool]
noncomputable def E40 (_ : Nat) : Env := mkEnv tis gl 15 [] [] [] 0
noncomputable def F40 (k : Nat) (x : Args P40) : Option (Res R40) := runFn (E40 k) Tryd.f40 k (encArgs P40 x) [] (retK R40)
abbrev hF40 (F : Args P40 → Option (Res R40)) : Hnd := hP P40 R40 F
noncomputable def G40 (k : Nat) (vx : Int) (a : Int) (b : Int) : Option (Bool × Unit) := F40 k (vx, a, b, ())
theorem G40_eq (k : Nat) (vx : Int) (a : Int) (b : Int) : G40 k vx a b =
  if (decide (vx ≥ a)) then
  some ((decide (vx ≤ b)), ())
  else
  some (false, ()) := by kernel_rfl
theorem S40 (k : Nat) : HSound Tryd.prog gl 40 true (hF40 (F40 k)) :=
  hP_sound (E := E40 k) (fn := Tryd.f40) ⟨Tryd.func40, by kernel_rfl, by kernel_rfl, mixed, mkEnv_ok tis_ok calls_nil, by kernel_rfl, by kernel_rfl, Nat.le_of_ble_eq_true (by kernel_rfl), glNB⟩ rfl fun _ _ h => ⟨k, h⟩

/-! f50: loop.example/g00896/spec.l23Key -/
abbrev P50 : List PT := [.one .str]
abbrev R50 : List RT := [.one false .bool]
noncomputable def E50 (k : Nat) : Env := mkEnv tis gl 23 [⟨40, true, false, hF40 (F40 k)⟩] [(2, [0, 3])] [] 0
noncomputable def F50 (k : Nat) (x : Args P50) : Option (Res R50) := runFn (E50 k) Tryd.f50 k (encArgs P50 x) [] (retK R50)
abbrev hF50 (F : Args P50 → Option (Res R50)) : Hnd := hP P50 R50 F
noncomputable def G50 (k : Nat) (s : ByteArray) : Option (Bool × Unit) := F50 k (s, ())
noncomputable def L50_0 (k : Nat) (n : Nat) (s : ByteArray) (i : Int) : Option (Bool × Unit) :=
  loopAt (E50 k) k [1, 0, 1, 0] [] (body Tryd.f50) (atEnd (E50 k) Tryd.f50.results.toList (retK R50)) n ⟨[(0, .v (.one (V.d .str s))), (3, .v (.one (V.d (.int .i64) i)))], []⟩
theorem G50_eq (k : Nat) (s : ByteArray) : G50 k s =
  L50_0 k k s ((0 : Int)) := by kernel_rfl
theorem L50_0_eq (k : Nat) (n : Nat) (s : ByteArray) (i : Int) : L50_0 k (n + 1) s i =
  if (decide (i < (s.size : Int))) then
  if 0 ≤ i then
  if i < (s.size : Int) then
  if (decide ((bt s i) < (97 : Int))) then
  some (false, ())
  else
  if 0 ≤ i then
  if i < (s.size : Int) then
  if (decide ((bt s i) > (122 : Int))) then
  some (false, ())
  else
  L50_0 k n s ((IntKind.wrap .i64 (i + (1 : Int))))
  else none
  else none
  else none
  else none
  else
  (G40 k (s.size : Int) (1 : Int) (10 : Int)).bind fun (r1 : Bool × Unit) =>
  some (r1.1, ()) := by kernel_rfl
theorem L50_0_zero (k : Nat) (s : ByteArray) (i : Int) : L50_0 k 0 s i = none := by kernel_rfl
theorem S50 (k : Nat) : HSound Tryd.prog gl 50 true (hF50 (F50 k)) :=
  hP_sound (E := E50 k) (fn := Tryd.f50) ⟨Tryd.func50, by kernel_rfl, by kernel_rfl, mixed, mkEnv_ok tis_ok (calls_cons (S40 k) calls_nil), by kernel_rfl, by kernel_rfl, Nat.le_of_ble_eq_true (by kernel_rfl), glNB⟩ rfl fun _ _ h => ⟨k, h⟩

/-! f51: loop.example/g00896/spec.l23Bytes -/
abbrev P51 : List PT := [.one .str, .one (.int .i64), .one (.int .i64), .one (.int .u8)]
abbrev R51 : List RT := [.one false .bool]
noncomputable def E51 (k : Nat) : Env := mkEnv tis gl 32 [⟨40, true, false, hF40 (F40 k)⟩] [(2, [0, 1, 2, 3, 9])] [] 0
noncomputable def F51 (k : Nat) (x : Args P51) : Option (Res R51) := runFn (E51 k) Tryd.f51 k (encArgs P51 x) [] (retK R51)
abbrev hF51 (F : Args P51 → Option (Res R51)) : Hnd := hP P51 R51 F
noncomputable def G51 (k : Nat) (s : ByteArray) (low : Int) (high : Int) (first : Int) : Option (Bool × Unit) := F51 k (s, low, high, first, ())
noncomputable def L51_0 (k : Nat) (n : Nat) (s : ByteArray) (low : Int) (high : Int) (first : Int) (i : Int) : Option (Bool × Unit) :=
  loopAt (E51 k) k [1, 0, 1, 0] [] (body Tryd.f51) (atEnd (E51 k) Tryd.f51.results.toList (retK R51)) n ⟨[(0, .v (.one (V.d .str s))), (1, .v (.one (V.d (.int .i64) low))), (2, .v (.one (V.d (.int .i64) high))), (3, .v (.one (V.d (.int .u8) first))), (9, .v (.one (V.d (.int .i64) i)))], []⟩
theorem G51_eq (k : Nat) (s : ByteArray) (low : Int) (high : Int) (first : Int) : G51 k s low high first =
  L51_0 k k s low high first ((0 : Int)) := by kernel_rfl
theorem L51_0_eq (k : Nat) (n : Nat) (s : ByteArray) (low : Int) (high : Int) (first : Int) (i : Int) : L51_0 k (n + 1) s low high first i =
  if (decide (i < (s.size : Int))) then
  if 0 ≤ i then
  if i < (s.size : Int) then
  if (decide ((bt s i) < first)) then
  some (false, ())
  else
  if 0 ≤ i then
  if i < (s.size : Int) then
  if (decide ((bt s i) > (126 : Int))) then
  some (false, ())
  else
  L51_0 k n s low high first ((IntKind.wrap .i64 (i + (1 : Int))))
  else none
  else none
  else none
  else none
  else
  (G40 k (s.size : Int) low high).bind fun (r1 : Bool × Unit) =>
  some (r1.1, ()) := by kernel_rfl
theorem L51_0_zero (k : Nat) (s : ByteArray) (low : Int) (high : Int) (first : Int) (i : Int) : L51_0 k 0 s low high first i = none := by kernel_rfl
theorem S51 (k : Nat) : HSound Tryd.prog gl 51 true (hF51 (F51 k)) :=
  hP_sound (E := E51 k) (fn := Tryd.f51) ⟨Tryd.func51, by kernel_rfl, by kernel_rfl, mixed, mkEnv_ok tis_ok (calls_cons (S40 k) calls_nil), by kernel_rfl, by kernel_rfl, Nat.le_of_ble_eq_true (by kernel_rfl), glNB⟩ rfl fun _ _ h => ⟨k, h⟩

/-! f52: loop.example/g00896/spec.l23Term -/
abbrev P52 : List PT := [.agg [.str, .str, .str]]
abbrev R52 : List RT := [.one false .bool]
noncomputable def E52 (k : Nat) : Env := mkEnv tis gl 16 [⟨50, true, false, hF50 (F50 k)⟩, ⟨51, true, false, hF51 (F51 k)⟩] [] [] 0
noncomputable def F52 (k : Nat) (x : Args P52) : Option (Res R52) := runFn (E52 k) Tryd.f52 k (encArgs P52 x) [] (retK R52)
abbrev hF52 (F : Args P52 → Option (Res R52)) : Hnd := hP P52 R52 F
noncomputable def G52 (k : Nat) (t : Term) : Option (Bool × Unit) := F52 k (t, ())
theorem G52_eq (k : Nat) (t : Term) : G52 k t =
  (G50 k t.1).bind fun (r1 : Bool × Unit) =>
  if r1.1 then
  (G51 k t.2.1 (1 : Int) (20 : Int) (32 : Int)).bind fun (r2 : Bool × Unit) =>
  if r2.1 then
  (G51 k t.2.2.1 (1 : Int) (20 : Int) (32 : Int)).bind fun (r3 : Bool × Unit) =>
  some (r3.1, ())
  else
  some (false, ())
  else
  some (false, ()) := by kernel_rfl
theorem S52 (k : Nat) : HSound Tryd.prog gl 52 true (hF52 (F52 k)) :=
  hP_sound (E := E52 k) (fn := Tryd.f52) ⟨Tryd.func52, by kernel_rfl, by kernel_rfl, mixed, mkEnv_ok tis_ok (calls_cons (S50 k) (calls_cons (S51 k) calls_nil)), by kernel_rfl, by kernel_rfl, Nat.le_of_ble_eq_true (by kernel_rfl), glNB⟩ rfl fun _ _ h => ⟨k, h⟩

/-! f24: loop.example/g00896/spec.l23Good -/
abbrev P24 : List PT := [.agg [.str, (.sl [.str, .str, .str]), (.sl [(.int .i64), (.int .i64), .str]), .str, .str]]
abbrev R24 : List RT := [.one false .bool]
noncomputable def E24 (k : Nat) : Env := mkEnv tis gl 99 [⟨40, true, false, hF40 (F40 k)⟩, ⟨50, true, false, hF50 (F50 k)⟩, ⟨51, true, false, hF51 (F51 k)⟩, ⟨52, true, false, hF52 (F52 k)⟩] [(4, [1, 3]), (9, [1, 4])] [(6, [(0, 0, []), (1, 0, []), (2, 0, []), (3, 0, []), (4, 0, []), (5, 0, []), (6, 0, []), (7, 0, []), (8, 0, []), (9, 0, []), (10, 0, []), (11, 0, []), (12, 0, []), (13, 0, []), (14, 0, []), (15, 0, []), (16, 0, []), (17, 0, []), (18, 0, []), (19, 0, []), (20, 0, []), (21, 0, []), (22, 0, []), (23, 0, []), (24, 0, []), (25, 0, []), (26, 0, [])])] 0
noncomputable def F24 (k : Nat) (x : Args P24) : Option (Res R24) := runFn (E24 k) Tryd.f24 k (encArgs P24 x) [] (retK R24)
abbrev hF24 (F : Args P24 → Option (Res R24)) : Hnd := hP P24 R24 F
noncomputable def G24 (k : Nat) (l : Locale) : Option (Bool × Unit) := F24 k (l, ())
noncomputable def L24_0 (k : Nat) (n : Nat) (i : Int) (l : ByteArray) (l_1 : List (Term)) (l_2 : List (Rule)) (l_3 : ByteArray) (l_4 : ByteArray) : Option (Bool × Unit) :=
  loopAt (E24 k) k [1, 1, 0, 1, 0] [] (body Tryd.f24) (atEnd (E24 k) Tryd.f24.results.toList (retK R24)) n ⟨[(1, .v (.one (V.ptr 0 0))), (3, .v (.one (V.d (.int .i64) i)))], [.box [V.d .str l, V.d (.sl [.str, .str, .str]) l_1, V.d (.sl [(.int .i64), (.int .i64), .str]) l_2, V.d .str l_3, V.d .str l_4]]⟩
noncomputable def L24_1 (k : Nat) (n : Nat) (i : Int) (l : ByteArray) (l_1 : List (Term)) (l_2 : List (Rule)) (l_3 : ByteArray) (l_4 : ByteArray) : Option (Bool × Unit) :=
  loopAt (E24 k) k [1, 1, 1, 0, 1, 0] [] (body Tryd.f24) (atEnd (E24 k) Tryd.f24.results.toList (retK R24)) n ⟨[(1, .v (.one (V.ptr 0 0))), (4, .v (.one (V.d (.int .i64) i)))], [.box [V.d .str l, V.d (.sl [.str, .str, .str]) l_1, V.d (.sl [(.int .i64), (.int .i64), .str]) l_2, V.d .str l_3, V.d .str l_4]]⟩
theorem G24_eq (k : Nat) (l : Locale) : G24 k l =
  (G50 k l.1).bind fun (r1 : Bool × Unit) =>
  if (!r1.1) then
  some (false, ())
  else
  if (decide ((l.2.1.length : Int) > (12 : Int))) then
  some (false, ())
  else
  if (decide ((l.2.2.1.length : Int) > (6 : Int))) then
  some (false, ())
  else
  (G51 k l.2.2.2.1 (1 : Int) (10 : Int) (32 : Int)).bind fun (r2 : Bool × Unit) =>
  if (!r2.1) then
  some (false, ())
  else
  (G51 k l.2.2.2.2.1 (1 : Int) (10 : Int) (32 : Int)).bind fun (r3 : Bool × Unit) =>
  if (!r3.1) then
  some (false, ())
  else
  L24_0 k k ((0 : Int)) l.1 l.2.1 l.2.2.1 l.2.2.2.1 l.2.2.2.2.1 := by kernel_rfl
theorem L24_0_eq (k : Nat) (n : Nat) (i : Int) (l : ByteArray) (l_1 : List (Term)) (l_2 : List (Rule)) (l_3 : ByteArray) (l_4 : ByteArray) : L24_0 k (n + 1) i l l_1 l_2 l_3 l_4 =
  if (decide (i < (l_1.length : Int))) then
  if 0 ≤ i then
  if i < (l_1.length : Int) then
  (G52 k (l_1.getD (i).toNat dTerm)).bind fun (r1 : Bool × Unit) =>
  if (!r1.1) then
  some (false, ())
  else
  if (decide (i > (0 : Int))) then
  if 0 ≤ (IntKind.wrap .i64 (i - (1 : Int))) then
  if (IntKind.wrap .i64 (i - (1 : Int))) < (l_1.length : Int) then
  if 0 ≤ i then
  if i < (l_1.length : Int) then
  if ((!sLt (l_1.getD ((IntKind.wrap .i64 (i - (1 : Int)))).toNat dTerm).1 (l_1.getD (i).toNat dTerm).1)) then
  some (false, ())
  else
  L24_0 k n ((IntKind.wrap .i64 (i + (1 : Int)))) l l_1 l_2 l_3 l_4
  else none
  else none
  else none
  else none
  else
  L24_0 k n ((IntKind.wrap .i64 (i + (1 : Int)))) l l_1 l_2 l_3 l_4
  else none
  else none
  else
  L24_1 k k ((0 : Int)) l l_1 l_2 l_3 l_4 := by kernel_rfl
theorem L24_0_zero (k : Nat) (i : Int) (l : ByteArray) (l_1 : List (Term)) (l_2 : List (Rule)) (l_3 : ByteArray) (l_4 : ByteArray) : L24_0 k 0 i l l_1 l_2 l_3 l_4 = none := by kernel_rfl
theorem L24_1_eq (k : Nat) (n : Nat) (i : Int) (l : ByteArray) (l_1 : List (Term)) (l_2 : List (Rule)) (l_3 : ByteArray) (l_4 : ByteArray) : L24_1 k (n + 1) i l l_1 l_2 l_3 l_4 =
  if (decide (i < (l_2.length : Int))) then
  if 0 ≤ i then
  if i < (l_2.length : Int) then
  (G40 k ((l_2.getD (i).toNat dRule).1) (1 : Int) (1000 : Int)).bind fun (r1 : Bool × Unit) =>
  if (!r1.1) then
  some (false, ())
  else
  (G40 k ((l_2.getD (i).toNat dRule).2.1) (0 : Int) (IntKind.wrap .i64 ((l_2.getD (i).toNat dRule).1 - (1 : Int)))).bind fun (r2 : Bool × Unit) =>
  if (!r2.1) then
  some (false, ())
  else
  (G51 k ((l_2.getD (i).toNat dRule).2.2.1) (0 : Int) (4 : Int) (33 : Int)).bind fun (r3 : Bool × Unit) =>
  if (!r3.1) then
  some (false, ())
  else
  L24_1 k n ((IntKind.wrap .i64 (i + (1 : Int)))) l l_1 l_2 l_3 l_4
  else none
  else none
  else
  some (true, ()) := by kernel_rfl
theorem L24_1_zero (k : Nat) (i : Int) (l : ByteArray) (l_1 : List (Term)) (l_2 : List (Rule)) (l_3 : ByteArray) (l_4 : ByteArray) : L24_1 k 0 i l l_1 l_2 l_3 l_4 = none := by kernel_rfl
theorem S24 (k : Nat) : HSound Tryd.prog gl 24 true (hF24 (F24 k)) :=
  hP_sound (E := E24 k) (fn := Tryd.f24) ⟨Tryd.func24, by kernel_rfl, by kernel_rfl, mixed, mkEnv_ok tis_ok (calls_cons (S40 k) (calls_cons (S50 k) (calls_cons (S51 k) (calls_cons (S52 k) calls_nil)))), by kernel_rfl, by kernel_rfl, Nat.le_of_ble_eq_true (by kernel_rfl), glNB⟩ rfl fun _ _ h => ⟨k, h⟩

/-! f25: loop.example/g00896/spec.l23Own -/
abbrev P25 : List PT := [.agg [.str, (.sl [.str, .str, .str]), (.sl [(.int .i64), (.int .i64), .str]), .str, .str]]
abbrev R25 : List RT := [.agg [(false, .str), (true, (.sl [.str, .str, .str])), (true, (.sl [(.int .i64), (.int .i64), .str])), (false, .str), (false, .str)]]
noncomputable def E25 (_ : Nat) : Env := mkEnv tis gl 18 [] [] [(1, [(0, 0, []), (3, 0, []), (7, 0, []), (10, 0, []), (12, 0, []), (1, 1, []), (4, 1, []), (8, 1, []), (11, 1, []), (13, 1, []), (2, 0, [2, 6]), (5, 0, [6]), (6, 0, [6]), (9, 0, []), (14, 0, []), (15, 0, [])])] 0
noncomputable def F25 (k : Nat) (x : Args P25) : Option (Res R25) := runFn (E25 k) Tryd.f25 k (encArgs P25 x) [] (retK R25)
abbrev hF25 (F : Args P25 → Option (Res R25)) : Hnd := hP P25 R25 F
noncomputable def G25 (k : Nat) (l : Locale) : Option (Locale × Unit) := F25 k (l, ())
theorem G25_eq (k : Nat) (l : Locale) : G25 k l =
  if (([] : List (Term)).length + l.2.1.length) * 48 ≤ 2 ^ 47 then
  if (([] : List (Rule)).length + l.2.2.1.length) * 32 ≤ 2 ^ 47 then
  some ((l.1, ([] ++ l.2.1), ([] ++ l.2.2.1), l.2.2.2.1, l.2.2.2.2.1, ()), ())
  else none
  else none := by kernel_rfl
theorem S25 (k : Nat) : HSound Tryd.prog gl 25 true (hF25 (F25 k)) :=
  hP_sound (E := E25 k) (fn := Tryd.f25) ⟨Tryd.func25, by kernel_rfl, by kernel_rfl, mixed, mkEnv_ok tis_ok calls_nil, by kernel_rfl, by kernel_rfl, Nat.le_of_ble_eq_true (by kernel_rfl), glNB⟩ rfl fun _ _ h => ⟨k, h⟩

/-! f7: loop.example/g00896/spec.AddTerm -/
abbrev P7 : List PT := [.agg [.str, (.sl [.str, .str, .str]), (.sl [(.int .i64), (.int .i64), .str]), .str, .str], .agg [.str, .str, .str]]
abbrev R7 : List RT := [.agg [(false, .str), (true, (.sl [.str, .str, .str])), (true, (.sl [(.int .i64), (.int .i64), .str])), (false, .str), (false, .str)], .one false .bool]
noncomputable def E7 (k : Nat) : Env := mkEnv tis gl 72 [⟨24, true, false, hF24 (F24 k)⟩, ⟨25, true, false, hF25 (F25 k)⟩] [(5, [2, 3, 4, 6, 7])] [(5, [(0, 0, []), (1, 0, []), (2, 0, []), (3, 0, []), (4, 0, []), (5, 0, []), (6, 0, []), (7, 0, []), (8, 0, []), (9, 0, []), (10, 0, []), (11, 0, []), (12, 0, []), (13, 0, []), (14, 0, []), (15, 0, [])]), (8, [(0, 0, []), (1, 0, []), (2, 0, []), (3, 0, []), (4, 0, []), (5, 0, []), (6, 0, []), (7, 0, []), (8, 0, []), (9, 0, []), (10, 0, []), (11, 0, []), (12, 0, []), (13, 0, []), (14, 0, []), (15, 0, [])]), (10, [(1, 0, []), (3, 0, []), (9, 0, []), (11, 0, []), (2, 1, []), (4, 0, []), (6, 1, []), (10, 1, []), (12, 0, []), (0, 0, [0, 7]), (5, 0, [7]), (7, 0, [7]), (8, 0, []), (13, 0, []), (14, 0, []), (15, 0, [])])] 0
noncomputable def F7 (k : Nat) (x : Args P7) : Option (Res R7) := runFn (E7 k) Tryd.f7 k (encArgs P7 x) [] (retK R7)
abbrev hF7 (F : Args P7 → Option (Res R7)) : Hnd := hP P7 R7 F
noncomputable def G7 (k : Nat) (l : Locale) (t : Term) : Option (Locale × Bool × Unit) := F7 k (l, t, ())
noncomputable def L7_0 (k : Nat) (n : Nat) (i : Int) (l : ByteArray) (l_1 : List (Term)) (l_2 : List (Rule)) (l_3 : ByteArray) (l_4 : ByteArray) (t : ByteArray) (t_1 : ByteArray) (t_2 : ByteArray) (v4 : ByteArray) (v4_1 : ByteArray) (v4_2 : ByteArray) (out : ByteArray) (out_1 : ByteArray) (out_2 : ByteArray) (out_3 : List (Term)) (out_4 : List (Rule)) : Option (Locale × Bool × Unit) :=
  loopAt (E7 k) k [1, 1, 1, 1, 0, 0] [] (body Tryd.f7) (atEnd (E7 k) Tryd.f7.results.toList (retK R7)) n ⟨[(2, .v (.one (V.ptr 0 0))), (3, .v (.one (V.ptr 1 0))), (4, .v (.one (V.ptr 2 0))), (6, .v (.one (V.ptr 3 0))), (7, .v (.one (V.d (.int .i64) i)))], [.box [V.d .str l, V.d (.sl [.str, .str, .str]) l_1, V.d (.sl [(.int .i64), (.int .i64), .str]) l_2, V.d .str l_3, V.d .str l_4], .box [V.d .str t, V.d .str t_1, V.d .str t_2], .box [V.d .str v4, V.nils, V.nils, V.d .str v4_1, V.d .str v4_2], .box [V.d .str out, V.ref 4, V.ref 5, V.d .str out_1, V.d .str out_2], .arr (.sl [.str, .str, .str]) out_3, .arr (.sl [(.int .i64), (.int .i64), .str]) out_4]⟩
theorem G7_eq (k : Nat) (l : Locale) (t : Term) : G7 k l t =
  (G24 k l).bind fun (r1 : Bool × Unit) =>
  if (!r1.1) then
  some ((ByteArray.empty, [], [], ByteArray.empty, ByteArray.empty, ()), false, ())
  else
  (G25 k l).bind fun (r2 : Locale × Unit) =>
  L7_0 k k ((0 : Int)) l.1 l.2.1 l.2.2.1 l.2.2.2.1 l.2.2.2.2.1 t.1 t.2.1 t.2.2.1 ByteArray.empty ByteArray.empty ByteArray.empty r2.1.1 r2.1.2.2.2.1 r2.1.2.2.2.2.1 r2.1.2.1 r2.1.2.2.1 := by kernel_rfl
theorem L7_0_eq (k : Nat) (n : Nat) (i : Int) (l : ByteArray) (l_1 : List (Term)) (l_2 : List (Rule)) (l_3 : ByteArray) (l_4 : ByteArray) (t : ByteArray) (t_1 : ByteArray) (t_2 : ByteArray) (v4 : ByteArray) (v4_1 : ByteArray) (v4_2 : ByteArray) (out : ByteArray) (out_1 : ByteArray) (out_2 : ByteArray) (out_3 : List (Term)) (out_4 : List (Rule)) : L7_0 k (n + 1) i l l_1 l_2 l_3 l_4 t t_1 t_2 v4 v4_1 v4_2 out out_1 out_2 out_3 out_4 =
  if (decide (i < (l_1.length : Int))) then
  if 0 ≤ i then
  if i < (l_1.length : Int) then
  if (sLt (l_1.getD (i).toNat dTerm).1 t) then
  L7_0 k n ((IntKind.wrap .i64 (i + (1 : Int)))) l l_1 l_2 l_3 l_4 t t_1 t_2 v4 v4_1 v4_2 out out_1 out_2 out_3 out_4
  else
  if (decide (i < (l_1.length : Int))) then
  if 0 ≤ i then
  if i < (l_1.length : Int) then
  if (sEq (l_1.getD (i).toNat dTerm).1 t) then
  if 0 ≤ (0 : Int) then
  if (0 : Int) ≤ i then
  if i ≤ (l_1.length : Int) then
  if 0 ≤ (IntKind.wrap .i64 (i + (1 : Int))) then
  if (IntKind.wrap .i64 (i + (1 : Int))) ≤ (l_1.length : Int) then
  if (l_1.length : Int) ≤ (l_1.length : Int) then
  if (([] : List (Term)).length + ((l_1.take (i).toNat).drop ((0 : Int)).toNat).length) * 48 ≤ 2 ^ 47 then
  if (([] ++ ((l_1.take (i).toNat).drop ((0 : Int)).toNat)).length + ([(t, t_1, t_2, ())] : List (Term)).length) * 48 ≤ 2 ^ 47 then
  if ((([] ++ ((l_1.take (i).toNat).drop ((0 : Int)).toNat)) ++ [(t, t_1, t_2, ())]).length + ((l_1.take ((l_1.length : Int)).toNat).drop ((IntKind.wrap .i64 (i + (1 : Int)))).toNat).length) * 48 ≤ 2 ^ 47 then
  (G24 k (out, ((([] ++ ((l_1.take (i).toNat).drop ((0 : Int)).toNat)) ++ [(t, t_1, t_2, ())]) ++ ((l_1.take ((l_1.length : Int)).toNat).drop ((IntKind.wrap .i64 (i + (1 : Int)))).toNat)), out_4, out_1, out_2, ())).bind fun (r1 : Bool × Unit) =>
  if (!r1.1) then
  some ((ByteArray.empty, [], [], ByteArray.empty, ByteArray.empty, ()), false, ())
  else
  some ((out, ((([] ++ ((l_1.take (i).toNat).drop ((0 : Int)).toNat)) ++ [(t, t_1, t_2, ())]) ++ ((l_1.take ((l_1.length : Int)).toNat).drop ((IntKind.wrap .i64 (i + (1 : Int)))).toNat)), out_4, out_1, out_2, ()), true, ())
  else none
  else none
  else none
  else none
  else none
  else none
  else none
  else none
  else none
  else
  if 0 ≤ (0 : Int) then
  if (0 : Int) ≤ i then
  if i ≤ (l_1.length : Int) then
  if 0 ≤ i then
  if i ≤ (l_1.length : Int) then
  if (l_1.length : Int) ≤ (l_1.length : Int) then
  if (([] : List (Term)).length + ((l_1.take (i).toNat).drop ((0 : Int)).toNat).length) * 48 ≤ 2 ^ 47 then
  if (([] ++ ((l_1.take (i).toNat).drop ((0 : Int)).toNat)).length + ([(t, t_1, t_2, ())] : List (Term)).length) * 48 ≤ 2 ^ 47 then
  if ((([] ++ ((l_1.take (i).toNat).drop ((0 : Int)).toNat)) ++ [(t, t_1, t_2, ())]).length + ((l_1.take ((l_1.length : Int)).toNat).drop (i).toNat).length) * 48 ≤ 2 ^ 47 then
  (G24 k (out, ((([] ++ ((l_1.take (i).toNat).drop ((0 : Int)).toNat)) ++ [(t, t_1, t_2, ())]) ++ ((l_1.take ((l_1.length : Int)).toNat).drop (i).toNat)), out_4, out_1, out_2, ())).bind fun (r2 : Bool × Unit) =>
  if (!r2.1) then
  some ((ByteArray.empty, [], [], ByteArray.empty, ByteArray.empty, ()), false, ())
  else
  some ((out, ((([] ++ ((l_1.take (i).toNat).drop ((0 : Int)).toNat)) ++ [(t, t_1, t_2, ())]) ++ ((l_1.take ((l_1.length : Int)).toNat).drop (i).toNat)), out_4, out_1, out_2, ()), true, ())
  else none
  else none
  else none
  else none
  else none
  else none
  else none
  else none
  else none
  else none
  else none
  else
  if 0 ≤ (0 : Int) then
  if (0 : Int) ≤ i then
  if i ≤ (l_1.length : Int) then
  if 0 ≤ i then
  if i ≤ (l_1.length : Int) then
  if (l_1.length : Int) ≤ (l_1.length : Int) then
  if (([] : List (Term)).length + ((l_1.take (i).toNat).drop ((0 : Int)).toNat).length) * 48 ≤ 2 ^ 47 then
  if (([] ++ ((l_1.take (i).toNat).drop ((0 : Int)).toNat)).length + ([(t, t_1, t_2, ())] : List (Term)).length) * 48 ≤ 2 ^ 47 then
  if ((([] ++ ((l_1.take (i).toNat).drop ((0 : Int)).toNat)) ++ [(t, t_1, t_2, ())]).length + ((l_1.take ((l_1.length : Int)).toNat).drop (i).toNat).length) * 48 ≤ 2 ^ 47 then
  (G24 k (out, ((([] ++ ((l_1.take (i).toNat).drop ((0 : Int)).toNat)) ++ [(t, t_1, t_2, ())]) ++ ((l_1.take ((l_1.length : Int)).toNat).drop (i).toNat)), out_4, out_1, out_2, ())).bind fun (r3 : Bool × Unit) =>
  if (!r3.1) then
  some ((ByteArray.empty, [], [], ByteArray.empty, ByteArray.empty, ()), false, ())
  else
  some ((out, ((([] ++ ((l_1.take (i).toNat).drop ((0 : Int)).toNat)) ++ [(t, t_1, t_2, ())]) ++ ((l_1.take ((l_1.length : Int)).toNat).drop (i).toNat)), out_4, out_1, out_2, ()), true, ())
  else none
  else none
  else none
  else none
  else none
  else none
  else none
  else none
  else none
  else none
  else none
  else
  if (decide (i < (l_1.length : Int))) then
  if 0 ≤ i then
  if i < (l_1.length : Int) then
  if (sEq (l_1.getD (i).toNat dTerm).1 t) then
  if 0 ≤ (0 : Int) then
  if (0 : Int) ≤ i then
  if i ≤ (l_1.length : Int) then
  if 0 ≤ (IntKind.wrap .i64 (i + (1 : Int))) then
  if (IntKind.wrap .i64 (i + (1 : Int))) ≤ (l_1.length : Int) then
  if (l_1.length : Int) ≤ (l_1.length : Int) then
  if (([] : List (Term)).length + ((l_1.take (i).toNat).drop ((0 : Int)).toNat).length) * 48 ≤ 2 ^ 47 then
  if (([] ++ ((l_1.take (i).toNat).drop ((0 : Int)).toNat)).length + ([(t, t_1, t_2, ())] : List (Term)).length) * 48 ≤ 2 ^ 47 then
  if ((([] ++ ((l_1.take (i).toNat).drop ((0 : Int)).toNat)) ++ [(t, t_1, t_2, ())]).length + ((l_1.take ((l_1.length : Int)).toNat).drop ((IntKind.wrap .i64 (i + (1 : Int)))).toNat).length) * 48 ≤ 2 ^ 47 then
  (G24 k (out, ((([] ++ ((l_1.take (i).toNat).drop ((0 : Int)).toNat)) ++ [(t, t_1, t_2, ())]) ++ ((l_1.take ((l_1.length : Int)).toNat).drop ((IntKind.wrap .i64 (i + (1 : Int)))).toNat)), out_4, out_1, out_2, ())).bind fun (r4 : Bool × Unit) =>
  if (!r4.1) then
  some ((ByteArray.empty, [], [], ByteArray.empty, ByteArray.empty, ()), false, ())
  else
  some ((out, ((([] ++ ((l_1.take (i).toNat).drop ((0 : Int)).toNat)) ++ [(t, t_1, t_2, ())]) ++ ((l_1.take ((l_1.length : Int)).toNat).drop ((IntKind.wrap .i64 (i + (1 : Int)))).toNat)), out_4, out_1, out_2, ()), true, ())
  else none
  else none
  else none
  else none
  else none
  else none
  else none
  else none
  else none
  else
  if 0 ≤ (0 : Int) then
  if (0 : Int) ≤ i then
  if i ≤ (l_1.length : Int) then
  if 0 ≤ i then
  if i ≤ (l_1.length : Int) then
  if (l_1.length : Int) ≤ (l_1.length : Int) then
  if (([] : List (Term)).length + ((l_1.take (i).toNat).drop ((0 : Int)).toNat).length) * 48 ≤ 2 ^ 47 then
  if (([] ++ ((l_1.take (i).toNat).drop ((0 : Int)).toNat)).length + ([(t, t_1, t_2, ())] : List (Term)).length) * 48 ≤ 2 ^ 47 then
  if ((([] ++ ((l_1.take (i).toNat).drop ((0 : Int)).toNat)) ++ [(t, t_1, t_2, ())]).length + ((l_1.take ((l_1.length : Int)).toNat).drop (i).toNat).length) * 48 ≤ 2 ^ 47 then
  (G24 k (out, ((([] ++ ((l_1.take (i).toNat).drop ((0 : Int)).toNat)) ++ [(t, t_1, t_2, ())]) ++ ((l_1.take ((l_1.length : Int)).toNat).drop (i).toNat)), out_4, out_1, out_2, ())).bind fun (r5 : Bool × Unit) =>
  if (!r5.1) then
  some ((ByteArray.empty, [], [], ByteArray.empty, ByteArray.empty, ()), false, ())
  else
  some ((out, ((([] ++ ((l_1.take (i).toNat).drop ((0 : Int)).toNat)) ++ [(t, t_1, t_2, ())]) ++ ((l_1.take ((l_1.length : Int)).toNat).drop (i).toNat)), out_4, out_1, out_2, ()), true, ())
  else none
  else none
  else none
  else none
  else none
  else none
  else none
  else none
  else none
  else none
  else none
  else
  if 0 ≤ (0 : Int) then
  if (0 : Int) ≤ i then
  if i ≤ (l_1.length : Int) then
  if 0 ≤ i then
  if i ≤ (l_1.length : Int) then
  if (l_1.length : Int) ≤ (l_1.length : Int) then
  if (([] : List (Term)).length + ((l_1.take (i).toNat).drop ((0 : Int)).toNat).length) * 48 ≤ 2 ^ 47 then
  if (([] ++ ((l_1.take (i).toNat).drop ((0 : Int)).toNat)).length + ([(t, t_1, t_2, ())] : List (Term)).length) * 48 ≤ 2 ^ 47 then
  if ((([] ++ ((l_1.take (i).toNat).drop ((0 : Int)).toNat)) ++ [(t, t_1, t_2, ())]).length + ((l_1.take ((l_1.length : Int)).toNat).drop (i).toNat).length) * 48 ≤ 2 ^ 47 then
  (G24 k (out, ((([] ++ ((l_1.take (i).toNat).drop ((0 : Int)).toNat)) ++ [(t, t_1, t_2, ())]) ++ ((l_1.take ((l_1.length : Int)).toNat).drop (i).toNat)), out_4, out_1, out_2, ())).bind fun (r6 : Bool × Unit) =>
  if (!r6.1) then
  some ((ByteArray.empty, [], [], ByteArray.empty, ByteArray.empty, ()), false, ())
  else
  some ((out, ((([] ++ ((l_1.take (i).toNat).drop ((0 : Int)).toNat)) ++ [(t, t_1, t_2, ())]) ++ ((l_1.take ((l_1.length : Int)).toNat).drop (i).toNat)), out_4, out_1, out_2, ()), true, ())
  else none
  else none
  else none
  else none
  else none
  else none
  else none
  else none
  else none := by kernel_rfl
theorem L7_0_zero (k : Nat) (i : Int) (l : ByteArray) (l_1 : List (Term)) (l_2 : List (Rule)) (l_3 : ByteArray) (l_4 : ByteArray) (t : ByteArray) (t_1 : ByteArray) (t_2 : ByteArray) (v4 : ByteArray) (v4_1 : ByteArray) (v4_2 : ByteArray) (out : ByteArray) (out_1 : ByteArray) (out_2 : ByteArray) (out_3 : List (Term)) (out_4 : List (Rule)) : L7_0 k 0 i l l_1 l_2 l_3 l_4 t t_1 t_2 v4 v4_1 v4_2 out out_1 out_2 out_3 out_4 = none := by kernel_rfl
theorem S7 (k : Nat) : HSound Tryd.prog gl 7 true (hF7 (F7 k)) :=
  hP_sound (E := E7 k) (fn := Tryd.f7) ⟨Tryd.func7, by kernel_rfl, by kernel_rfl, mixed, mkEnv_ok tis_ok (calls_cons (S24 k) (calls_cons (S25 k) calls_nil)), by kernel_rfl, by kernel_rfl, Nat.le_of_ble_eq_true (by kernel_rfl), glNB⟩ rfl fun _ _ h => ⟨k, h⟩

/-! f54: loop.example/g00896/impl.termIndex$1 -/
abbrev P54 : List MT := [.rt (.agg [(false, .str), (false, .str), (false, .str)]), .box [.str]]
abbrev R54 : List RT := [.one false .bool]
noncomputable def E54 (_ : Nat) : Env := mkEnv tis gl 8 [] [] [] 1
noncomputable def F54 (k : Nat) (x : MArgs P54) : Option (Res R54 × Os (oksOf P54)) := runFn (E54 k) Tryd.f54 k (encMs P54 x 0) (blkMs P54 x) (retX R54 P54)
abbrev hF54 (F : MArgs P54 → Option (Res R54 × Os (oksOf P54))) : Hnd := hX P54 R54 F
noncomputable def G54 (k : Nat) (t : Term) (v1 : ByteArray × Unit) : Option ((Bool × Unit) × ((ByteArray × Unit) × Unit)) := F54 k (t, v1, ())
theorem G54_eq (k : Nat) (t : Term) (v1 : ByteArray × Unit) : G54 k t v1 =
  some (((sEq t.1 v1.1), ()), ((v1.1, ()), ())) := by kernel_rfl
theorem S54 (k : Nat) : HSound Tryd.prog gl 54 false (hF54 (F54 k)) :=
  hX_sound (E := E54 k) (fn := Tryd.f54) ⟨Tryd.func54, by kernel_rfl, by kernel_rfl, mixed, mkEnv_ok tis_ok calls_nil, by kernel_rfl, by kernel_rfl, Nat.le_of_ble_eq_true (by kernel_rfl), glNB⟩ rfl fun _ _ h => ⟨k, h⟩

/-! f53: slices.IndexFunc[[]loop.example/g00896/impl.Term,loop.example/g00896/impl.Term] -/
abbrev P53 : List MT := [.rt (.one false (.sl [.str, .str, .str])), .clo 54 [[.str]]]
abbrev R53 : List RT := [.one false (.int .i64)]
noncomputable def E53 (k : Nat) : Env := mkEnv tis gl 19 [⟨54, false, true, hF54 (F54 k)⟩] [(2, [0, 1, 7, 8])] [] 1
noncomputable def F53 (k : Nat) (x : MArgs P53) : Option (Res R53 × Os (oksOf P53)) := runFn (E53 k) Tryd.f53 k (encMs P53 x 0) (blkMs P53 x) (retX R53 P53)
abbrev hF53 (F : MArgs P53 → Option (Res R53 × Os (oksOf P53))) : Hnd := hX P53 R53 F
noncomputable def G53 (k : Nat) (s : List (Term)) (f : ByteArray × Unit) : Option ((Int × Unit) × ((ByteArray × Unit) × Unit)) := F53 k (s, (f, ()), ())
noncomputable def L53_0 (k : Nat) (n : Nat) (s : List (Term)) (v7 : Int) (v8 : Int) (m0 : ByteArray) : Option ((Int × Unit) × ((ByteArray × Unit) × Unit)) :=
  loopAt (E53 k) k [1, 0, 1, 0] [] (body Tryd.f53) (atEnd (E53 k) Tryd.f53.results.toList (retX R53 P53)) n ⟨[(0, .v (.one (V.d (.sl [.str, .str, .str]) s))), (1, .v (.one (V.clo 54 [.ptr 0 0]))), (7, .v (.one (V.d (.int .i64) v7))), (8, .v (.one (V.d (.int .i64) v8)))], [.box [V.d .str m0]]⟩
theorem G53_eq (k : Nat) (s : List (Term)) (f : ByteArray × Unit) : G53 k s f =
  L53_0 k k s ((s.length : Int)) ((0 : Int)) f.1 := by kernel_rfl
theorem L53_0_eq (k : Nat) (n : Nat) (s : List (Term)) (v7 : Int) (v8 : Int) (m0 : ByteArray) : L53_0 k (n + 1) s v7 v8 m0 =
  if (decide (v8 < v7)) then
  if 0 ≤ v8 then
  if v8 < (s.length : Int) then
  (G54 k (s.getD (v8).toNat dTerm) (m0, ())).bind fun (r1 : (Bool × Unit) × ((ByteArray × Unit) × Unit)) =>
  if r1.1.1 then
  some ((v8, ()), ((r1.2.1.1, ()), ()))
  else
  L53_0 k n s v7 ((IntKind.wrap .i64 (v8 + (1 : Int)))) r1.2.1.1
  else none
  else none
  else
  some (((-1 : Int), ()), ((m0, ()), ())) := by kernel_rfl
theorem L53_0_zero (k : Nat) (s : List (Term)) (v7 : Int) (v8 : Int) (m0 : ByteArray) : L53_0 k 0 s v7 v8 m0 = none := by kernel_rfl
theorem S53 (k : Nat) : HSound Tryd.prog gl 53 false (hF53 (F53 k)) :=
  hX_sound (E := E53 k) (fn := Tryd.f53) ⟨Tryd.func53, by kernel_rfl, by kernel_rfl, mixed, mkEnv_ok tis_ok (calls_cons (S54 k) calls_nil), by kernel_rfl, by kernel_rfl, Nat.le_of_ble_eq_true (by kernel_rfl), glNB⟩ rfl fun _ _ h => ⟨k, h⟩

/-! f26: loop.example/g00896/impl.termIndex -/
abbrev P26 : List PT := [.agg [.str, (.sl [.str, .str, .str]), (.sl [(.int .i64), (.int .i64), .str]), .str, .str], .one .str]
abbrev R26 : List RT := [.one false (.int .i64)]
noncomputable def E26 (k : Nat) : Env := mkEnv tis gl 9 [⟨53, false, true, hF53 (F53 k)⟩] [] [] 0
noncomputable def F26 (k : Nat) (x : Args P26) : Option (Res R26) := runFn (E26 k) Tryd.f26 k (encArgs P26 x) [] (retK R26)
abbrev hF26 (F : Args P26 → Option (Res R26)) : Hnd := hP P26 R26 F
noncomputable def G26 (k : Nat) (l : Locale) (key : ByteArray) : Option (Int × Unit) := F26 k (l, key, ())
theorem G26_eq (k : Nat) (l : Locale) (key : ByteArray) : G26 k l key =
  (G53 k l.2.1 (key, ())).bind fun (r1 : (Int × Unit) × ((ByteArray × Unit) × Unit)) =>
  some (r1.1.1, ()) := by kernel_rfl
theorem S26 (k : Nat) : HSound Tryd.prog gl 26 true (hF26 (F26 k)) :=
  hP_sound (E := E26 k) (fn := Tryd.f26) ⟨Tryd.func26, by kernel_rfl, by kernel_rfl, mixed, mkEnv_ok tis_ok (calls_cons (S53 k) calls_nil), by kernel_rfl, by kernel_rfl, Nat.le_of_ble_eq_true (by kernel_rfl), glNB⟩ rfl fun _ _ h => ⟨k, h⟩

/-! f27: loop.example/g00896/impl.isNumber -/
abbrev P27 : List PT := [.one (.int .i64)]
abbrev R27 : List RT := [.one false .bool]
noncomputable def E27 (k : Nat) : Env := mkEnv tis gl 5 [⟨55, true, false, hF55 (F55 k)⟩] [] [] 0
noncomputable def F27 (k : Nat) (x : Args P27) : Option (Res R27) := runFn (E27 k) Tryd.f27 k (encArgs P27 x) [] (retK R27)
abbrev hF27 (F : Args P27 → Option (Res R27)) : Hnd := hP P27 R27 F
noncomputable def G27 (k : Nat) (vn : Int) : Option (Bool × Unit) := F27 k (vn, ())
theorem G27_eq (k : Nat) (vn : Int) : G27 k vn =
  (G55 k vn (0 : Int) (999999 : Int)).bind fun (r1 : Bool × Unit) =>
  some (r1.1, ()) := by kernel_rfl
theorem S27 (k : Nat) : HSound Tryd.prog gl 27 true (hF27 (F27 k)) :=
  hP_sound (E := E27 k) (fn := Tryd.f27) ⟨Tryd.func27, by kernel_rfl, by kernel_rfl, mixed, mkEnv_ok tis_ok (calls_cons (S55 k) calls_nil), by kernel_rfl, by kernel_rfl, Nat.le_of_ble_eq_true (by kernel_rfl), glNB⟩ rfl fun _ _ h => ⟨k, h⟩

/-! f28: loop.example/g00896/impl.termFor -/
abbrev P28 : List PT := [.agg [.str, (.sl [.str, .str, .str]), (.sl [(.int .i64), (.int .i64), .str]), .str, .str], .one (.int .i64), .one (.int .i64)]
abbrev R28 : List RT := [.one false .str]
noncomputable def E28 (_ : Nat) : Env := mkEnv tis gl 21 [] [] [] 0
noncomputable def F28 (k : Nat) (x : Args P28) : Option (Res R28) := runFn (E28 k) Tryd.f28 k (encArgs P28 x) [] (retK R28)
abbrev hF28 (F : Args P28 → Option (Res R28)) : Hnd := hP P28 R28 F
noncomputable def G28 (k : Nat) (l : Locale) (i : Int) (vn : Int) : Option (ByteArray × Unit) := F28 k (l, i, vn, ())
theorem G28_eq (k : Nat) (l : Locale) (i : Int) (vn : Int) : G28 k l i vn =
  if ((vn == (1 : Int))) then
  if 0 ≤ i then
  if i < (l.2.1.length : Int) then
  some ((l.2.1.getD (i).toNat dTerm).2.1, ())
  else none
  else none
  else
  if 0 ≤ i then
  if i < (l.2.1.length : Int) then
  some ((l.2.1.getD (i).toNat dTerm).2.2.1, ())
  else none
  else none := by kernel_rfl
theorem S28 (k : Nat) : HSound Tryd.prog gl 28 true (hF28 (F28 k)) :=
  hP_sound (E := E28 k) (fn := Tryd.f28) ⟨Tryd.func28, by kernel_rfl, by kernel_rfl, mixed, mkEnv_ok tis_ok calls_nil, by kernel_rfl, by kernel_rfl, Nat.le_of_ble_eq_true (by kernel_rfl), glNB⟩ rfl fun _ _ h => ⟨k, h⟩

/-! f8: loop.example/g00896/impl.TermFor -/
abbrev P8 : List PT := [.agg [.str, (.sl [.str, .str, .str]), (.sl [(.int .i64), (.int .i64), .str]), .str, .str], .one .str, .one (.int .i64)]
abbrev R8 : List RT := [.one false .str, .one false .bool]
noncomputable def E8 (k : Nat) : Env := mkEnv tis gl 28 [⟨10, true, false, hF10 (F10 k)⟩, ⟨26, true, false, hF26 (F26 k)⟩, ⟨27, true, false, hF27 (F27 k)⟩, ⟨28, true, false, hF28 (F28 k)⟩] [] [] 0
noncomputable def F8 (k : Nat) (x : Args P8) : Option (Res R8) := runFn (E8 k) Tryd.f8 k (encArgs P8 x) [] (retK R8)
abbrev hF8 (F : Args P8 → Option (Res R8)) : Hnd := hP P8 R8 F
noncomputable def G8 (k : Nat) (l : Locale) (key : ByteArray) (vn : Int) : Option (ByteArray × Bool × Unit) := F8 k (l, key, vn, ())
theorem G8_eq (k : Nat) (l : Locale) (key : ByteArray) (vn : Int) : G8 k l key vn =
  (G26 k l key).bind fun (r1 : Int × Unit) =>
  (G10 k l).bind fun (r2 : Bool × Unit) =>
  if (!r2.1) then
  some ((⟨#[]⟩ : ByteArray), false, ())
  else
  (G27 k vn).bind fun (r3 : Bool × Unit) =>
  if (!r3.1) then
  some ((⟨#[]⟩ : ByteArray), false, ())
  else
  if (decide (r1.1 < (0 : Int))) then
  some ((⟨#[]⟩ : ByteArray), false, ())
  else
  (G28 k l r1.1 vn).bind fun (r4 : ByteArray × Unit) =>
  some (r4.1, true, ()) := by kernel_rfl
theorem S8 (k : Nat) : HSound Tryd.prog gl 8 true (hF8 (F8 k)) :=
  hP_sound (E := E8 k) (fn := Tryd.f8) ⟨Tryd.func8, by kernel_rfl, by kernel_rfl, mixed, mkEnv_ok tis_ok (calls_cons (S10 k) (calls_cons (S26 k) (calls_cons (S27 k) (calls_cons (S28 k) calls_nil)))), by kernel_rfl, by kernel_rfl, Nat.le_of_ble_eq_true (by kernel_rfl), glNB⟩ rfl fun _ _ h => ⟨k, h⟩

/-! f30: loop.example/g00896/impl.FallbackTerm$1 -/
abbrev P30 : List PT := [.agg [.str, (.sl [.str, .str, .str]), (.sl [(.int .i64), (.int .i64), .str]), .str, .str]]
abbrev R30 : List RT := [.one false .bool]
noncomputable def E30 (k : Nat) : Env := mkEnv tis gl 6 [⟨10, true, false, hF10 (F10 k)⟩] [] [] 0
noncomputable def F30 (k : Nat) (x : Args P30) : Option (Res R30) := runFn (E30 k) Tryd.f30 k (encArgs P30 x) [] (retK R30)
abbrev hF30 (F : Args P30 → Option (Res R30)) : Hnd := hP P30 R30 F
noncomputable def G30 (k : Nat) (l : Locale) : Option (Bool × Unit) := F30 k (l, ())
theorem G30_eq (k : Nat) (l : Locale) : G30 k l =
  (G10 k l).bind fun (r1 : Bool × Unit) =>
  some ((!r1.1), ()) := by kernel_rfl
theorem S30 (k : Nat) : HSound Tryd.prog gl 30 true (hF30 (F30 k)) :=
  hP_sound (E := E30 k) (fn := Tryd.f30) ⟨Tryd.func30, by kernel_rfl, by kernel_rfl, mixed, mkEnv_ok tis_ok (calls_cons (S10 k) calls_nil), by kernel_rfl, by kernel_rfl, Nat.le_of_ble_eq_true (by kernel_rfl), glNB⟩ rfl fun _ _ h => ⟨k, h⟩

/-! f56: slices.IndexFunc[[]loop.example/g00896/impl.Locale,loop.example/g00896/impl.Locale] -/
abbrev P56 : List PT := [.one (.sl [.str, (.sl [.str, .str, .str]), (.sl [(.int .i64), (.int .i64), .str]), .str, .str]), .fn 30]
abbrev R56 : List RT := [.one false (.int .i64)]
noncomputable def E56 (k : Nat) : Env := mkEnv tis gl 19 [⟨30, true, false, hF30 (F30 k)⟩] [(2, [0, 1, 7, 8])] [] 0
noncomputable def F56 (k : Nat) (x : Args P56) : Option (Res R56) := runFn (E56 k) Tryd.f56 k (encArgs P56 x) [] (retK R56)
abbrev hF56 (F : Args P56 → Option (Res R56)) : Hnd := hP P56 R56 F
noncomputable def G56 (k : Nat) (s : List (Locale)) : Option (Int × Unit) := F56 k (s, (), ())
noncomputable def L56_0 (k : Nat) (n : Nat) (s : List (Locale)) (v7 : Int) (v8 : Int) : Option (Int × Unit) :=
  loopAt (E56 k) k [1, 0, 1, 0] [] (body Tryd.f56) (atEnd (E56 k) Tryd.f56.results.toList (retK R56)) n ⟨[(0, .v (.one (V.d (.sl [.str, (.sl [.str, .str, .str]), (.sl [(.int .i64), (.int .i64), .str]), .str, .str]) s))), (1, .v (.one (V.clo 30 []))), (7, .v (.one (V.d (.int .i64) v7))), (8, .v (.one (V.d (.int .i64) v8)))], []⟩
theorem G56_eq (k : Nat) (s : List (Locale)) : G56 k s =
  L56_0 k k s ((s.length : Int)) ((0 : Int)) := by kernel_rfl
theorem L56_0_eq (k : Nat) (n : Nat) (s : List (Locale)) (v7 : Int) (v8 : Int) : L56_0 k (n + 1) s v7 v8 =
  if (decide (v8 < v7)) then
  if 0 ≤ v8 then
  if v8 < (s.length : Int) then
  (G30 k (s.getD (v8).toNat dLocale)).bind fun (r1 : Bool × Unit) =>
  if r1.1 then
  some (v8, ())
  else
  L56_0 k n s v7 ((IntKind.wrap .i64 (v8 + (1 : Int))))
  else none
  else none
  else
  some ((-1 : Int), ()) := by kernel_rfl
theorem L56_0_zero (k : Nat) (s : List (Locale)) (v7 : Int) (v8 : Int) : L56_0 k 0 s v7 v8 = none := by kernel_rfl
theorem S56 (k : Nat) : HSound Tryd.prog gl 56 true (hF56 (F56 k)) :=
  hP_sound (E := E56 k) (fn := Tryd.f56) ⟨Tryd.func56, by kernel_rfl, by kernel_rfl, mixed, mkEnv_ok tis_ok (calls_cons (S30 k) calls_nil), by kernel_rfl, by kernel_rfl, Nat.le_of_ble_eq_true (by kernel_rfl), glNB⟩ rfl fun _ _ h => ⟨k, h⟩

/-! f29: slices.ContainsFunc[[]loop.example/g00896/impl.Locale,loop.example/g00896/impl.Locale] -/
abbrev P29 : List PT := [.one (.sl [.str, (.sl [.str, .str, .str]), (.sl [(.int .i64), (.int .i64), .str]), .str, .str]), .fn 30]
abbrev R29 : List RT := [.one false .bool]
noncomputable def E29 (k : Nat) : Env := mkEnv tis gl 9 [⟨56, true, false, hF56 (F56 k)⟩] [] [] 0
noncomputable def F29 (k : Nat) (x : Args P29) : Option (Res R29) := runFn (E29 k) Tryd.f29 k (encArgs P29 x) [] (retK R29)
abbrev hF29 (F : Args P29 → Option (Res R29)) : Hnd := hP P29 R29 F
noncomputable def G29 (k : Nat) (s : List (Locale)) : Option (Bool × Unit) := F29 k (s, (), ())
theorem G29_eq (k : Nat) (s : List (Locale)) : G29 k s =
  (G56 k s).bind fun (r1 : Int × Unit) =>
  some ((decide (r1.1 ≥ (0 : Int))), ()) := by kernel_rfl
theorem S29 (k : Nat) : HSound Tryd.prog gl 29 true (hF29 (F29 k)) :=
  hP_sound (E := E29 k) (fn := Tryd.f29) ⟨Tryd.func29, by kernel_rfl, by kernel_rfl, mixed, mkEnv_ok tis_ok (calls_cons (S56 k) calls_nil), by kernel_rfl, by kernel_rfl, Nat.le_of_ble_eq_true (by kernel_rfl), glNB⟩ rfl fun _ _ h => ⟨k, h⟩

/-! f9: loop.example/g00896/impl.FallbackTerm -/
abbrev P9 : List PT := [.one (.sl [.str, (.sl [.str, .str, .str]), (.sl [(.int .i64), (.int .i64), .str]), .str, .str]), .one .str, .one (.int .i64)]
abbrev R9 : List RT := [.one false .str, .one false (.int .i64), .one false .bool]
noncomputable def E9 (k : Nat) : Env := mkEnv tis gl 42 [⟨26, true, false, hF26 (F26 k)⟩, ⟨27, true, false, hF27 (F27 k)⟩, ⟨28, true, false, hF28 (F28 k)⟩, ⟨29, true, false, hF29 (F29 k)⟩] [(4, [1, 2, 24, 25, 26])] [] 0
noncomputable def F9 (k : Nat) (x : Args P9) : Option (Res R9) := runFn (E9 k) Tryd.f9 k (encArgs P9 x) [] (retK R9)
abbrev hF9 (F : Args P9 → Option (Res R9)) : Hnd := hP P9 R9 F
noncomputable def G9 (k : Nat) (list : List (Locale)) (key : ByteArray) (vn : Int) : Option (ByteArray × Int × Bool × Unit) := F9 k (list, key, vn, ())
noncomputable def L9_0 (k : Nat) (n : Nat) (key : ByteArray) (vn : Int) (v24 : List (Locale)) (v25 : Int) (v26 : Int) : Option (ByteArray × Int × Bool × Unit) :=
  loopAt (E9 k) k [1, 1, 0, 1, 0] [] (body Tryd.f9) (atEnd (E9 k) Tryd.f9.results.toList (retK R9)) n ⟨[(1, .v (.one (V.d .str key))), (2, .v (.one (V.d (.int .i64) vn))), (24, .v (.one (V.d (.sl [.str, (.sl [.str, .str, .str]), (.sl [(.int .i64), (.int .i64), .str]), .str, .str]) v24))), (25, .v (.one (V.d (.int .i64) v25))), (26, .v (.one (V.d (.int .i64) v26)))], []⟩
theorem G9_eq (k : Nat) (list : List (Locale)) (key : ByteArray) (vn : Int) : G9 k list key vn =
  if (decide ((list.length : Int) > (5 : Int))) then
  some ((⟨#[]⟩ : ByteArray), (0 : Int), false, ())
  else
  (G27 k vn).bind fun (r1 : Bool × Unit) =>
  if (!r1.1) then
  some ((⟨#[]⟩ : ByteArray), (0 : Int), false, ())
  else
  (G29 k list).bind fun (r2 : Bool × Unit) =>
  if r2.1 then
  some ((⟨#[]⟩ : ByteArray), (0 : Int), false, ())
  else
  L9_0 k k key vn list ((list.length : Int)) ((0 : Int)) := by kernel_rfl
theorem L9_0_eq (k : Nat) (n : Nat) (key : ByteArray) (vn : Int) (v24 : List (Locale)) (v25 : Int) (v26 : Int) : L9_0 k (n + 1) key vn v24 v25 v26 =
  if (decide (v26 < v25)) then
  if 0 ≤ v26 then
  if v26 < (v24.length : Int) then
  (G26 k (v24.getD (v26).toNat dLocale) key).bind fun (r1 : Int × Unit) =>
  if (decide (r1.1 ≥ (0 : Int))) then
  (G28 k (v24.getD (v26).toNat dLocale) r1.1 vn).bind fun (r2 : ByteArray × Unit) =>
  some (r2.1, v26, true, ())
  else
  L9_0 k n key vn v24 v25 ((IntKind.wrap .i64 (v26 + (1 : Int))))
  else none
  else none
  else
  some ((⟨#[]⟩ : ByteArray), (0 : Int), false, ()) := by kernel_rfl
theorem L9_0_zero (k : Nat) (key : ByteArray) (vn : Int) (v24 : List (Locale)) (v25 : Int) (v26 : Int) : L9_0 k 0 key vn v24 v25 v26 = none := by kernel_rfl
theorem S9 (k : Nat) : HSound Tryd.prog gl 9 true (hF9 (F9 k)) :=
  hP_sound (E := E9 k) (fn := Tryd.f9) ⟨Tryd.func9, by kernel_rfl, by kernel_rfl, mixed, mkEnv_ok tis_ok (calls_cons (S26 k) (calls_cons (S27 k) (calls_cons (S28 k) (calls_cons (S29 k) calls_nil)))), by kernel_rfl, by kernel_rfl, Nat.le_of_ble_eq_true (by kernel_rfl), glNB⟩ rfl fun _ _ h => ⟨k, h⟩

/-! f39: (*loop.example/g00896/spec.l1Cur).number23 -/
abbrev P39 : List MT := [.box [(.sl1 (.int .u8)), (.int .i64), (.int .u64)]]
abbrev R39 : List RT := [.one false (.int .i64)]
noncomputable def E39 (k : Nat) : Env := mkEnv tis gl 13 [⟨36, false, true, hF36 (F36 k)⟩, ⟨47, false, true, hF47 (F47 k)⟩] [] [] 1
noncomputable def F39 (k : Nat) (x : MArgs P39) : Option (Res R39 × Os (oksOf P39)) := runFn (E39 k) Tryd.f39 k (encMs P39 x 0) (blkMs P39 x) (retX R39 P39)
abbrev hF39 (F : MArgs P39 → Option (Res R39 × Os (oksOf P39))) : Hnd := hX P39 R39 F
noncomputable def G39 (k : Nat) (c : Cur) : Option ((Int × Unit) × (Cur × Unit)) := F39 k (c, ())
theorem G39_eq (k : Nat) (c : Cur) : G39 k c =
  (G36 k (c.1, c.2.1, c.2.2.1, ()) (1000 : Int)).bind fun (r1 : (Int × Unit) × (Cur × Unit)) =>
  (G36 k (r1.2.1.1, r1.2.1.2.1, r1.2.1.2.2.1, ()) (24 : Int)).bind fun (r2 : (Int × Unit) × (Cur × Unit)) =>
  if (11 : Int) = 0 then none else
  if 0 ≤ (0 : Int) then
  if (0 : Int) ≤ (IntKind.wrap .i64 ((12 : Int) + (IntKind.wrap .i64 (Int.tdiv r2.1.1 (11 : Int))))) then
  if (IntKind.wrap .i64 ((12 : Int) + (IntKind.wrap .i64 (Int.tdiv r2.1.1 (11 : Int))))) ≤ ([(0 : Int), (1 : Int), (2 : Int), (3 : Int), (11 : Int), (12 : Int), (21 : Int), (101 : Int), (111 : Int), (1999 : Int), r1.1.1, (999999 : Int), (-1 : Int), (1000000 : Int)].length : Int) then
  (G47 k (r2.2.1.1, r2.2.1.2.1, r2.2.1.2.2.1, ()) (([(0 : Int), (1 : Int), (2 : Int), (3 : Int), (11 : Int), (12 : Int), (21 : Int), (101 : Int), (111 : Int), (1999 : Int), r1.1.1, (999999 : Int), (-1 : Int), (1000000 : Int)].take ((IntKind.wrap .i64 ((12 : Int) + (IntKind.wrap .i64 (Int.tdiv r2.1.1 (11 : Int)))))).toNat).drop ((0 : Int)).toNat)).bind fun (r3 : (Int × Unit) × (Cur × Unit)) =>
  some ((r3.1.1, ()), (r3.2.1, ()))
  else none
  else none
  else none := by kernel_rfl
theorem S39 (k : Nat) : HSound Tryd.prog gl 39 false (hF39 (F39 k)) :=
  hX_sound (E := E39 k) (fn := Tryd.f39) ⟨Tryd.func39, by kernel_rfl, by kernel_rfl, mixed, mkEnv_ok tis_ok (calls_cons (S36 k) (calls_cons (S47 k) calls_nil)), by kernel_rfl, by kernel_rfl, Nat.le_of_ble_eq_true (by kernel_rfl), glNB⟩ rfl fun _ _ h => ⟨k, h⟩

/-! f11: loop.example/g00896/spec.DrawFallbackTerm -/
abbrev P11 : List PT := [.one (.sl1 (.int .u8))]
abbrev R11 : List RT := [.one true (.sl [.str, (.sl [.str, .str, .str]), (.sl [(.int .i64), (.int .i64), .str]), .str, .str]), .one false .str, .one false (.int .i64)]
noncomputable def E11 (k : Nat) : Env := mkEnv tis gl 42 [⟨20, false, true, hF20 (F20 k)⟩, ⟨21, false, true, hF21 (F21 k)⟩, ⟨36, false, true, hF36 (F36 k)⟩, ⟨37, false, true, hF37 (F37 k)⟩, ⟨38, false, true, hF38 (F38 k)⟩, ⟨39, false, true, hF39 (F39 k)⟩] [(4, [5, 6, 7]), (8, [5, 6])] [] 0
noncomputable def F11 (k : Nat) (x : Args P11) : Option (Res R11) := runFn (E11 k) Tryd.f11 k (encArgs P11 x) [] (retK R11)
abbrev hF11 (F : Args P11 → Option (Res R11)) : Hnd := hP P11 R11 F
noncomputable def G11 (k : Nat) (code : List Int) : Option ((List (Locale)) × ByteArray × Int × Unit) := F11 k (code, ())
noncomputable def L11_0 (k : Nat) (n : Nat) (vn : Int) (c : List Int) (c_1 : Int) (c_2 : Int) (list : List (Locale)) : Option ((List (Locale)) × ByteArray × Int × Unit) :=
  loopAt (E11 k) k [1, 1, 1, 0, 1, 0] [] (body Tryd.f11) (atEnd (E11 k) Tryd.f11.results.toList (retK R11)) n ⟨[(5, .v (.one (V.ptr 0 0))), (6, .v (.one (V.ref 1))), (7, .v (.one (V.d (.int .i64) vn)))], [.box [V.d (.sl1 (.int .u8)) c, V.d (.int .i64) c_1, V.d (.int .u64) c_2], .arr (.sl [.str, (.sl [.str, .str, .str]), (.sl [(.int .i64), (.int .i64), .str]), .str, .str]) list]⟩
noncomputable def L11_1 (k : Nat) (n : Nat) (c : List Int) (c_1 : Int) (c_2 : Int) (list : List (Locale)) : Option ((List (Locale)) × ByteArray × Int × Unit) :=
  loopAt (E11 k) k [1, 1, 1, 1, 0, 1, 0, 0] [] (body Tryd.f11) (atEnd (E11 k) Tryd.f11.results.toList (retK R11)) n ⟨[(5, .v (.one (V.ptr 0 0))), (6, .v (.one (V.ref 1)))], [.box [V.d (.sl1 (.int .u8)) c, V.d (.int .i64) c_1, V.d (.int .u64) c_2], .arr (.sl [.str, (.sl [.str, .str, .str]), (.sl [(.int .i64), (.int .i64), .str]), .str, .str]) list]⟩
theorem G11_eq (k : Nat) (code : List Int) : G11 k code =
  (G36 k (code, (0 : Int), (0 : Int), ()) (4 : Int)).bind fun (r1 : (Int × Unit) × (Cur × Unit)) =>
  L11_0 k k r1.1.1 r1.2.1.1 r1.2.1.2.1 r1.2.1.2.2.1 ([]) := by kernel_rfl
theorem L11_0_eq (k : Nat) (n : Nat) (vn : Int) (c : List Int) (c_1 : Int) (c_2 : Int) (list : List (Locale)) : L11_0 k (n + 1) vn c c_1 c_2 list =
  if (decide (vn > (0 : Int))) then
  (G20 k (c, c_1, c_2, ())).bind fun (r1 : (Locale × Unit) × (Cur × Unit)) =>
  if (list.length + ([(r1.1.1.1, r1.1.1.2.1, r1.1.1.2.2.1, r1.1.1.2.2.2.1, r1.1.1.2.2.2.2.1, ())] : List (Locale)).length) * 96 ≤ 2 ^ 47 then
  L11_0 k n ((IntKind.wrap .i64 (vn - (1 : Int)))) r1.2.1.1 r1.2.1.2.1 r1.2.1.2.2.1 ((list ++ [(r1.1.1.1, r1.1.1.2.1, r1.1.1.2.2.1, r1.1.1.2.2.2.1, r1.1.1.2.2.2.2.1, ())]))
  else none
  else
  (G37 k (c, c_1, c_2, ()) (40 : Int)).bind fun (r2 : (Bool × Unit) × (Cur × Unit)) =>
  if r2.1.1 then
  L11_1 k k r2.2.1.1 r2.2.1.2.1 r2.2.1.2.2.1 list
  else
  (G21 k (r2.2.1.1, r2.2.1.2.1, r2.2.1.2.2.1, ()) ([(⟨#[112, 97, 103, 101]⟩ : ByteArray), (⟨#[118, 111, 108, 117, 109, 101]⟩ : ByteArray), (⟨#[101, 100, 105, 116, 111, 114]⟩ : ByteArray), (⟨#[99, 104, 97, 112, 116, 101, 114]⟩ : ByteArray), (⟨#[108, 105, 110, 101]⟩ : ByteArray)])).bind fun (r3 : (ByteArray × Unit) × (Cur × Unit)) =>
  (G39 k (r3.2.1.1, r3.2.1.2.1, r3.2.1.2.2.1, ())).bind fun (r4 : (Int × Unit) × (Cur × Unit)) =>
  some (list, r3.1.1, r4.1.1, ()) := by kernel_rfl
theorem L11_0_zero (k : Nat) (vn : Int) (c : List Int) (c_1 : Int) (c_2 : Int) (list : List (Locale)) : L11_0 k 0 vn c c_1 c_2 list = none := by kernel_rfl
theorem L11_1_eq (k : Nat) (n : Nat) (c : List Int) (c_1 : Int) (c_2 : Int) (list : List (Locale)) : L11_1 k (n + 1) c c_1 c_2 list =
  (G36 k (c, c_1, c_2, ()) (2 : Int)).bind fun (r1 : (Int × Unit) × (Cur × Unit)) =>
  if (decide ((list.length : Int) < (IntKind.wrap .i64 ((5 : Int) + r1.1.1)))) then
  (G38 k (r1.2.1.1, r1.2.1.2.1, r1.2.1.2.2.1, ())).bind fun (r2 : (Locale × Unit) × (Cur × Unit)) =>
  if (list.length + ([(r2.1.1.1, r2.1.1.2.1, r2.1.1.2.2.1, r2.1.1.2.2.2.1, r2.1.1.2.2.2.2.1, ())] : List (Locale)).length) * 96 ≤ 2 ^ 47 then
  L11_1 k n r2.2.1.1 r2.2.1.2.1 r2.2.1.2.2.1 ((list ++ [(r2.1.1.1, r2.1.1.2.1, r2.1.1.2.2.1, r2.1.1.2.2.2.1, r2.1.1.2.2.2.2.1, ())]))
  else none
  else
  (G21 k (r1.2.1.1, r1.2.1.2.1, r1.2.1.2.2.1, ()) ([(⟨#[112, 97, 103, 101]⟩ : ByteArray), (⟨#[118, 111, 108, 117, 109, 101]⟩ : ByteArray), (⟨#[101, 100, 105, 116, 111, 114]⟩ : ByteArray), (⟨#[99, 104, 97, 112, 116, 101, 114]⟩ : ByteArray), (⟨#[108, 105, 110, 101]⟩ : ByteArray)])).bind fun (r3 : (ByteArray × Unit) × (Cur × Unit)) =>
  (G39 k (r3.2.1.1, r3.2.1.2.1, r3.2.1.2.2.1, ())).bind fun (r4 : (Int × Unit) × (Cur × Unit)) =>
  some (list, r3.1.1, r4.1.1, ()) := by kernel_rfl
theorem L11_1_zero (k : Nat) (c : List Int) (c_1 : Int) (c_2 : Int) (list : List (Locale)) : L11_1 k 0 c c_1 c_2 list = none := by kernel_rfl
theorem S11 (k : Nat) : HSound Tryd.prog gl 11 true (hF11 (F11 k)) :=
  hP_sound (E := E11 k) (fn := Tryd.f11) ⟨Tryd.func11, by kernel_rfl, by kernel_rfl, mixed, mkEnv_ok tis_ok (calls_cons (S20 k) (calls_cons (S21 k) (calls_cons (S36 k) (calls_cons (S37 k) (calls_cons (S38 k) (calls_cons (S39 k) calls_nil)))))), by kernel_rfl, by kernel_rfl, Nat.le_of_ble_eq_true (by kernel_rfl), glNB⟩ rfl fun _ _ h => ⟨k, h⟩

/-! f41: loop.example/g00896/spec.l23Find -/
abbrev P41 : List PT := [.agg [.str, (.sl [.str, .str, .str]), (.sl [(.int .i64), (.int .i64), .str]), .str, .str], .one .str]
abbrev R41 : List RT := [.one false (.int .i64)]
noncomputable def E41 (_ : Nat) : Env := mkEnv tis gl 22 [] [(2, [1, 2, 5])] [] 0
noncomputable def F41 (k : Nat) (x : Args P41) : Option (Res R41) := runFn (E41 k) Tryd.f41 k (encArgs P41 x) [] (retK R41)
abbrev hF41 (F : Args P41 → Option (Res R41)) : Hnd := hP P41 R41 F
noncomputable def G41 (k : Nat) (l : Locale) (key : ByteArray) : Option (Int × Unit) := F41 k (l, key, ())
noncomputable def L41_0 (k : Nat) (n : Nat) (key : ByteArray) (i : Int) (l : ByteArray) (l_1 : List (Term)) (l_2 : List (Rule)) (l_3 : ByteArray) (l_4 : ByteArray) : Option (Int × Unit) :=
  loopAt (E41 k) k [1, 0, 1, 0] [] (body Tryd.f41) (atEnd (E41 k) Tryd.f41.results.toList (retK R41)) n ⟨[(1, .v (.one (V.d .str key))), (2, .v (.one (V.ptr 0 0))), (5, .v (.one (V.d (.int .i64) i)))], [.box [V.d .str l, V.d (.sl [.str, .str, .str]) l_1, V.d (.sl [(.int .i64), (.int .i64), .str]) l_2, V.d .str l_3, V.d .str l_4]]⟩
theorem G41_eq (k : Nat) (l : Locale) (key : ByteArray) : G41 k l key =
  L41_0 k k key ((0 : Int)) l.1 l.2.1 l.2.2.1 l.2.2.2.1 l.2.2.2.2.1 := by kernel_rfl
theorem L41_0_eq (k : Nat) (n : Nat) (key : ByteArray) (i : Int) (l : ByteArray) (l_1 : List (Term)) (l_2 : List (Rule)) (l_3 : ByteArray) (l_4 : ByteArray) : L41_0 k (n + 1) key i l l_1 l_2 l_3 l_4 =
  if (decide (i < (l_1.length : Int))) then
  if 0 ≤ i then
  if i < (l_1.length : Int) then
  if (sEq (l_1.getD (i).toNat dTerm).1 key) then
  some (i, ())
  else
  L41_0 k n key ((IntKind.wrap .i64 (i + (1 : Int)))) l l_1 l_2 l_3 l_4
  else none
  else none
  else
  some ((-1 : Int), ()) := by kernel_rfl
theorem L41_0_zero (k : Nat) (key : ByteArray) (i : Int) (l : ByteArray) (l_1 : List (Term)) (l_2 : List (Rule)) (l_3 : ByteArray) (l_4 : ByteArray) : L41_0 k 0 key i l l_1 l_2 l_3 l_4 = none := by kernel_rfl
theorem S41 (k : Nat) : HSound Tryd.prog gl 41 true (hF41 (F41 k)) :=
  hP_sound (E := E41 k) (fn := Tryd.f41) ⟨Tryd.func41, by kernel_rfl, by kernel_rfl, mixed, mkEnv_ok tis_ok calls_nil, by kernel_rfl, by kernel_rfl, Nat.le_of_ble_eq_true (by kernel_rfl), glNB⟩ rfl fun _ _ h => ⟨k, h⟩

/-! f42: loop.example/g00896/spec.l23For -/
abbrev P42 : List PT := [.agg [.str, .str, .str], .one (.int .i64)]
abbrev R42 : List RT := [.one false .str]
noncomputable def E42 (_ : Nat) : Env := mkEnv tis gl 11 [] [] [] 0
noncomputable def F42 (k : Nat) (x : Args P42) : Option (Res R42) := runFn (E42 k) Tryd.f42 k (encArgs P42 x) [] (retK R42)
abbrev hF42 (F : Args P42 → Option (Res R42)) : Hnd := hP P42 R42 F
noncomputable def G42 (k : Nat) (t : Term) (vn : Int) : Option (ByteArray × Unit) := F42 k (t, vn, ())
theorem G42_eq (k : Nat) (t : Term) (vn : Int) : G42 k t vn =
  if ((vn == (1 : Int))) then
  some (t.2.1, ())
  else
  some (t.2.2.1, ()) := by kernel_rfl
theorem S42 (k : Nat) : HSound Tryd.prog gl 42 true (hF42 (F42 k)) :=
  hP_sound (E := E42 k) (fn := Tryd.f42) ⟨Tryd.func42, by kernel_rfl, by kernel_rfl, mixed, mkEnv_ok tis_ok calls_nil, by kernel_rfl, by kernel_rfl, Nat.le_of_ble_eq_true (by kernel_rfl), glNB⟩ rfl fun _ _ h => ⟨k, h⟩

/-! f12: loop.example/g00896/spec.FallbackTerm -/
abbrev P12 : List PT := [.one (.sl [.str, (.sl [.str, .str, .str]), (.sl [(.int .i64), (.int .i64), .str]), .str, .str]), .one .str, .one (.int .i64)]
abbrev R12 : List RT := [.one false .str, .one false (.int .i64), .one false .bool]
noncomputable def E12 (k : Nat) : Env := mkEnv tis gl 57 [⟨24, true, false, hF24 (F24 k)⟩, ⟨40, true, false, hF40 (F40 k)⟩, ⟨41, true, false, hF41 (F41 k)⟩, ⟨42, true, false, hF42 (F42 k)⟩] [(4, [0, 1, 2, 9]), (9, [0, 1, 2, 10])] [] 0
noncomputable def F12 (k : Nat) (x : Args P12) : Option (Res R12) := runFn (E12 k) Tryd.f12 k (encArgs P12 x) [] (retK R12)
abbrev hF12 (F : Args P12 → Option (Res R12)) : Hnd := hP P12 R12 F
noncomputable def G12 (k : Nat) (list : List (Locale)) (key : ByteArray) (vn : Int) : Option (ByteArray × Int × Bool × Unit) := F12 k (list, key, vn, ())
noncomputable def L12_0 (k : Nat) (n : Nat) (list : List (Locale)) (key : ByteArray) (vn : Int) (i : Int) : Option (ByteArray × Int × Bool × Unit) :=
  loopAt (E12 k) k [1, 1, 0, 1, 0] [] (body Tryd.f12) (atEnd (E12 k) Tryd.f12.results.toList (retK R12)) n ⟨[(0, .v (.one (V.d (.sl [.str, (.sl [.str, .str, .str]), (.sl [(.int .i64), (.int .i64), .str]), .str, .str]) list))), (1, .v (.one (V.d .str key))), (2, .v (.one (V.d (.int .i64) vn))), (9, .v (.one (V.d (.int .i64) i)))], []⟩
noncomputable def L12_1 (k : Nat) (n : Nat) (list : List (Locale)) (key : ByteArray) (vn : Int) (i : Int) : Option (ByteArray × Int × Bool × Unit) :=
  loopAt (E12 k) k [1, 1, 1, 0, 1, 0] [] (body Tryd.f12) (atEnd (E12 k) Tryd.f12.results.toList (retK R12)) n ⟨[(0, .v (.one (V.d (.sl [.str, (.sl [.str, .str, .str]), (.sl [(.int .i64), (.int .i64), .str]), .str, .str]) list))), (1, .v (.one (V.d .str key))), (2, .v (.one (V.d (.int .i64) vn))), (10, .v (.one (V.d (.int .i64) i)))], []⟩
theorem G12_eq (k : Nat) (list : List (Locale)) (key : ByteArray) (vn : Int) : G12 k list key vn =
  if (decide ((list.length : Int) > (5 : Int))) then
  some ((⟨#[]⟩ : ByteArray), (0 : Int), false, ())
  else
  (G40 k vn (0 : Int) (999999 : Int)).bind fun (r1 : Bool × Unit) =>
  if (!r1.1) then
  some ((⟨#[]⟩ : ByteArray), (0 : Int), false, ())
  else
  L12_0 k k list key vn ((0 : Int)) := by kernel_rfl
theorem L12_0_eq (k : Nat) (n : Nat) (list : List (Locale)) (key : ByteArray) (vn : Int) (i : Int) : L12_0 k (n + 1) list key vn i =
  if (decide (i < (list.length : Int))) then
  if 0 ≤ i then
  if i < (list.length : Int) then
  (G24 k (list.getD (i).toNat dLocale)).bind fun (r1 : Bool × Unit) =>
  if (!r1.1) then
  some ((⟨#[]⟩ : ByteArray), (0 : Int), false, ())
  else
  L12_0 k n list key vn ((IntKind.wrap .i64 (i + (1 : Int))))
  else none
  else none
  else
  L12_1 k k list key vn ((0 : Int)) := by kernel_rfl
theorem L12_0_zero (k : Nat) (list : List (Locale)) (key : ByteArray) (vn : Int) (i : Int) : L12_0 k 0 list key vn i = none := by kernel_rfl
theorem L12_1_eq (k : Nat) (n : Nat) (list : List (Locale)) (key : ByteArray) (vn : Int) (i : Int) : L12_1 k (n + 1) list key vn i =
  if (decide (i < (list.length : Int))) then
  if 0 ≤ i then
  if i < (list.length : Int) then
  (G41 k (list.getD (i).toNat dLocale) key).bind fun (r1 : Int × Unit) =>
  if (decide (r1.1 ≥ (0 : Int))) then
  if 0 ≤ i then
  if i < (list.length : Int) then
  if 0 ≤ r1.1 then
  if r1.1 < ((list.getD (i).toNat dLocale).2.1.length : Int) then
  (G42 k ((list.getD (i).toNat dLocale).2.1.getD (r1.1).toNat dTerm) vn).bind fun (r2 : ByteArray × Unit) =>
  some (r2.1, i, true, ())
  else none
  else none
  else none
  else none
  else
  L12_1 k n list key vn ((IntKind.wrap .i64 (i + (1 : Int))))
  else none
  else none
  else
  some ((⟨#[]⟩ : ByteArray), (0 : Int), false, ()) := by kernel_rfl
theorem L12_1_zero (k : Nat) (list : List (Locale)) (key : ByteArray) (vn : Int) (i : Int) : L12_1 k 0 list key vn i = none := by kernel_rfl
theorem S12 (k : Nat) : HSound Tryd.prog gl 12 true (hF12 (F12 k)) :=
  hP_sound (E := E12 k) (fn := Tryd.f12) ⟨Tryd.func12, by kernel_rfl, by kernel_rfl, mixed, mkEnv_ok tis_ok (calls_cons (S24 k) (calls_cons (S40 k) (calls_cons (S41 k) (calls_cons (S42 k) calls_nil)))), by kernel_rfl, by kernel_rfl, Nat.le_of_ble_eq_true (by kernel_rfl), glNB⟩ rfl fun _ _ h => ⟨k, h⟩

/-! f13: loop.example/g00896/spec.DrawMissingTerms -/
abbrev P13 : List PT := [.one (.sl1 (.int .u8))]
abbrev R13 : List RT := [.agg [(false, .str), (true, (.sl [.str, .str, .str])), (true, (.sl [(.int .i64), (.int .i64), .str])), (false, .str), (false, .str)], .agg [(false, .str), (true, (.sl [.str, .str, .str])), (true, (.sl [(.int .i64), (.int .i64), .str])), (false, .str), (false, .str)]]
noncomputable def E13 (k : Nat) : Env := mkEnv tis gl 14 [⟨20, false, true, hF20 (F20 k)⟩] [] [(3, [(1, 0, []), (0, 8, []), (2, 0, []), (3, 0, []), (4, 0, [])])] 0
noncomputable def F13 (k : Nat) (x : Args P13) : Option (Res R13) := runFn (E13 k) Tryd.f13 k (encArgs P13 x) [] (retK R13)
abbrev hF13 (F : Args P13 → Option (Res R13)) : Hnd := hP P13 R13 F
noncomputable def G13 (k : Nat) (code : List Int) : Option (Locale × Locale × Unit) := F13 k (code, ())
theorem G13_eq (k : Nat) (code : List Int) : G13 k code =
  (G20 k (code, (0 : Int), (0 : Int), ())).bind fun (r1 : (Locale × Unit) × (Cur × Unit)) =>
  (G20 k (r1.2.1.1, r1.2.1.2.1, r1.2.1.2.2.1, ())).bind fun (r2 : (Locale × Unit) × (Cur × Unit)) =>
  some (r1.1.1, r2.1.1, ()) := by kernel_rfl
theorem S13 (k : Nat) : HSound Tryd.prog gl 13 true (hF13 (F13 k)) :=
  hP_sound (E := E13 k) (fn := Tryd.f13) ⟨Tryd.func13, by kernel_rfl, by kernel_rfl, mixed, mkEnv_ok tis_ok (calls_cons (S20 k) calls_nil), by kernel_rfl, by kernel_rfl, Nat.le_of_ble_eq_true (by kernel_rfl), glNB⟩ rfl fun _ _ h => ⟨k, h⟩

/-! f14: loop.example/g00896/impl.MissingTerms -/
abbrev P14 : List PT := [.agg [.str, (.sl [.str, .str, .str]), (.sl [(.int .i64), (.int .i64), .str]), .str, .str], .agg [.str, (.sl [.str, .str, .str]), (.sl [(.int .i64), (.int .i64), .str]), .str, .str]]
abbrev R14 : List RT := [.one true (.sl1 .str), .one false .bool]
noncomputable def E14 (k : Nat) : Env := mkEnv tis gl 37 [⟨10, true, false, hF10 (F10 k)⟩, ⟨26, true, false, hF26 (F26 k)⟩] [(5, [2, 6, 19, 20, 21])] [] 0
noncomputable def F14 (k : Nat) (x : Args P14) : Option (Res R14) := runFn (E14 k) Tryd.f14 k (encArgs P14 x) [] (retK R14)
abbrev hF14 (F : Args P14 → Option (Res R14)) : Hnd := hP P14 R14 F
noncomputable def G14 (k : Nat) (l : Locale) (base : Locale) : Option ((List ByteArray) × Bool × Unit) := F14 k (l, base, ())
noncomputable def L14_0 (k : Nat) (n : Nat) (v19 : List (Term)) (v20 : Int) (v21 : Int) (l : ByteArray) (l_1 : List (Term)) (l_2 : List (Rule)) (l_3 : ByteArray) (l_4 : ByteArray) (out : List ByteArray) : Option ((List ByteArray) × Bool × Unit) :=
  loopAt (E14 k) k [1, 1, 1, 0, 1, 0] [] (body Tryd.f14) (atEnd (E14 k) Tryd.f14.results.toList (retK R14)) n ⟨[(2, .v (.one (V.ptr 0 0))), (6, .v (.one (V.ref 1))), (19, .v (.one (V.d (.sl [.str, .str, .str]) v19))), (20, .v (.one (V.d (.int .i64) v20))), (21, .v (.one (V.d (.int .i64) v21)))], [.box [V.d .str l, V.d (.sl [.str, .str, .str]) l_1, V.d (.sl [(.int .i64), (.int .i64), .str]) l_2, V.d .str l_3, V.d .str l_4], .arr (.sl1 .str) out]⟩
theorem G14_eq (k : Nat) (l : Locale) (base : Locale) : G14 k l base =
  (G10 k l).bind fun (r1 : Bool × Unit) =>
  if (!r1.1) then
  some ([], false, ())
  else
  (G10 k base).bind fun (r2 : Bool × Unit) =>
  if (!r2.1) then
  some ([], false, ())
  else
  L14_0 k k base.2.1 ((base.2.1.length : Int)) ((0 : Int)) l.1 l.2.1 l.2.2.1 l.2.2.2.1 l.2.2.2.2.1 ([]) := by kernel_rfl
theorem L14_0_eq (k : Nat) (n : Nat) (v19 : List (Term)) (v20 : Int) (v21 : Int) (l : ByteArray) (l_1 : List (Term)) (l_2 : List (Rule)) (l_3 : ByteArray) (l_4 : ByteArray) (out : List ByteArray) : L14_0 k (n + 1) v19 v20 v21 l l_1 l_2 l_3 l_4 out =
  if (decide (v21 < v20)) then
  if 0 ≤ v21 then
  if v21 < (v19.length : Int) then
  (G26 k (l, l_1, l_2, l_3, l_4, ()) ((v19.getD (v21).toNat dTerm).1)).bind fun (r1 : Int × Unit) =>
  if (decide (r1.1 < (0 : Int))) then
  if (out.length + ([(v19.getD (v21).toNat dTerm).1] : List ByteArray).length) * 16 ≤ 2 ^ 47 then
  L14_0 k n v19 v20 ((IntKind.wrap .i64 (v21 + (1 : Int)))) l l_1 l_2 l_3 l_4 ((out ++ [(v19.getD (v21).toNat dTerm).1]))
  else none
  else
  L14_0 k n v19 v20 ((IntKind.wrap .i64 (v21 + (1 : Int)))) l l_1 l_2 l_3 l_4 out
  else none
  else none
  else
  some (out, true, ()) := by kernel_rfl
theorem L14_0_zero (k : Nat) (v19 : List (Term)) (v20 : Int) (v21 : Int) (l : ByteArray) (l_1 : List (Term)) (l_2 : List (Rule)) (l_3 : ByteArray) (l_4 : ByteArray) (out : List ByteArray) : L14_0 k 0 v19 v20 v21 l l_1 l_2 l_3 l_4 out = none := by kernel_rfl
theorem S14 (k : Nat) : HSound Tryd.prog gl 14 true (hF14 (F14 k)) :=
  hP_sound (E := E14 k) (fn := Tryd.f14) ⟨Tryd.func14, by kernel_rfl, by kernel_rfl, mixed, mkEnv_ok tis_ok (calls_cons (S10 k) (calls_cons (S26 k) calls_nil)), by kernel_rfl, by kernel_rfl, Nat.le_of_ble_eq_true (by kernel_rfl), glNB⟩ rfl fun _ _ h => ⟨k, h⟩

/-! f15: loop.example/g00896/spec.MissingTerms -/
abbrev P15 : List PT := [.agg [.str, (.sl [.str, .str, .str]), (.sl [(.int .i64), (.int .i64), .str]), .str, .str], .agg [.str, (.sl [.str, .str, .str]), (.sl [(.int .i64), (.int .i64), .str]), .str, .str]]
abbrev R15 : List RT := [.one true (.sl1 .str), .one false .bool]
noncomputable def E15 (k : Nat) : Env := mkEnv tis gl 44 [⟨24, true, false, hF24 (F24 k)⟩, ⟨41, true, false, hF41 (F41 k)⟩] [(5, [2, 3, 6, 7])] [(7, [(0, 0, []), (1, 0, []), (2, 0, []), (3, 0, []), (4, 0, []), (5, 0, []), (6, 0, []), (7, 0, []), (8, 0, [])])] 0
noncomputable def F15 (k : Nat) (x : Args P15) : Option (Res R15) := runFn (E15 k) Tryd.f15 k (encArgs P15 x) [] (retK R15)
abbrev hF15 (F : Args P15 → Option (Res R15)) : Hnd := hP P15 R15 F
noncomputable def G15 (k : Nat) (l : Locale) (base : Locale) : Option ((List ByteArray) × Bool × Unit) := F15 k (l, base, ())
noncomputable def L15_0 (k : Nat) (n : Nat) (i : Int) (l : ByteArray) (l_1 : List (Term)) (l_2 : List (Rule)) (l_3 : ByteArray) (l_4 : ByteArray) (base : ByteArray) (base_1 : List (Term)) (base_2 : List (Rule)) (base_3 : ByteArray) (base_4 : ByteArray) (out : List ByteArray) : Option ((List ByteArray) × Bool × Unit) :=
  loopAt (E15 k) k [1, 1, 1, 0, 1, 0] [] (body Tryd.f15) (atEnd (E15 k) Tryd.f15.results.toList (retK R15)) n ⟨[(2, .v (.one (V.ptr 0 0))), (3, .v (.one (V.ptr 1 0))), (6, .v (.one (V.ref 2))), (7, .v (.one (V.d (.int .i64) i)))], [.box [V.d .str l, V.d (.sl [.str, .str, .str]) l_1, V.d (.sl [(.int .i64), (.int .i64), .str]) l_2, V.d .str l_3, V.d .str l_4], .box [V.d .str base, V.d (.sl [.str, .str, .str]) base_1, V.d (.sl [(.int .i64), (.int .i64), .str]) base_2, V.d .str base_3, V.d .str base_4], .arr (.sl1 .str) out]⟩
theorem G15_eq (k : Nat) (l : Locale) (base : Locale) : G15 k l base =
  (G24 k l).bind fun (r1 : Bool × Unit) =>
  if (!r1.1) then
  some ([], false, ())
  else
  (G24 k base).bind fun (r2 : Bool × Unit) =>
  if (!r2.1) then
  some ([], false, ())
  else
  L15_0 k k ((0 : Int)) l.1 l.2.1 l.2.2.1 l.2.2.2.1 l.2.2.2.2.1 base.1 base.2.1 base.2.2.1 base.2.2.2.1 base.2.2.2.2.1 ([]) := by kernel_rfl
theorem L15_0_eq (k : Nat) (n : Nat) (i : Int) (l : ByteArray) (l_1 : List (Term)) (l_2 : List (Rule)) (l_3 : ByteArray) (l_4 : ByteArray) (base : ByteArray) (base_1 : List (Term)) (base_2 : List (Rule)) (base_3 : ByteArray) (base_4 : ByteArray) (out : List ByteArray) : L15_0 k (n + 1) i l l_1 l_2 l_3 l_4 base base_1 base_2 base_3 base_4 out =
  if (decide (i < (base_1.length : Int))) then
  if 0 ≤ i then
  if i < (base_1.length : Int) then
  (G41 k (l, l_1, l_2, l_3, l_4, ()) ((base_1.getD (i).toNat dTerm).1)).bind fun (r1 : Int × Unit) =>
  if (decide (r1.1 < (0 : Int))) then
  if 0 ≤ i then
  if i < (base_1.length : Int) then
  if (out.length + ([(base_1.getD (i).toNat dTerm).1] : List ByteArray).length) * 16 ≤ 2 ^ 47 then
  L15_0 k n ((IntKind.wrap .i64 (i + (1 : Int)))) l l_1 l_2 l_3 l_4 base base_1 base_2 base_3 base_4 ((out ++ [(base_1.getD (i).toNat dTerm).1]))
  else none
  else none
  else none
  else
  L15_0 k n ((IntKind.wrap .i64 (i + (1 : Int)))) l l_1 l_2 l_3 l_4 base base_1 base_2 base_3 base_4 out
  else none
  else none
  else
  some (out, true, ()) := by kernel_rfl
theorem L15_0_zero (k : Nat) (i : Int) (l : ByteArray) (l_1 : List (Term)) (l_2 : List (Rule)) (l_3 : ByteArray) (l_4 : ByteArray) (base : ByteArray) (base_1 : List (Term)) (base_2 : List (Rule)) (base_3 : ByteArray) (base_4 : ByteArray) (out : List ByteArray) : L15_0 k 0 i l l_1 l_2 l_3 l_4 base base_1 base_2 base_3 base_4 out = none := by kernel_rfl
theorem S15 (k : Nat) : HSound Tryd.prog gl 15 true (hF15 (F15 k)) :=
  hP_sound (E := E15 k) (fn := Tryd.f15) ⟨Tryd.func15, by kernel_rfl, by kernel_rfl, mixed, mkEnv_ok tis_ok (calls_cons (S24 k) (calls_cons (S41 k) calls_nil)), by kernel_rfl, by kernel_rfl, Nat.le_of_ble_eq_true (by kernel_rfl), glNB⟩ rfl fun _ _ h => ⟨k, h⟩

/-! f16: loop.example/g00896/laws.rTexts -/
abbrev P16 : List PT := [.one (.sl1 .str), .one (.sl1 .str)]
abbrev R16 : List RT := [.one false .bool]
noncomputable def E16 (_ : Nat) : Env := mkEnv tis gl 26 [] [(4, [0, 1, 5])] [(6, [(0, 0, []), (1, 0, []), (2, 0, []), (3, 0, []), (4, 0, []), (5, 0, []), (6, 0, []), (7, 0, []), (8, 0, [])])] 0
noncomputable def F16 (k : Nat) (x : Args P16) : Option (Res R16) := runFn (E16 k) Tryd.f16 k (encArgs P16 x) [] (retK R16)
abbrev hF16 (F : Args P16 → Option (Res R16)) : Hnd := hP P16 R16 F
noncomputable def G16 (k : Nat) (a : List ByteArray) (b : List ByteArray) : Option (Bool × Unit) := F16 k (a, b, ())
noncomputable def L16_0 (k : Nat) (n : Nat) (a : List ByteArray) (b : List ByteArray) (i : Int) : Option (Bool × Unit) :=
  loopAt (E16 k) k [1, 1, 0, 1, 0] [] (body Tryd.f16) (atEnd (E16 k) Tryd.f16.results.toList (retK R16)) n ⟨[(0, .v (.one (V.d (.sl1 .str) a))), (1, .v (.one (V.d (.sl1 .str) b))), (5, .v (.one (V.d (.int .i64) i)))], []⟩
theorem G16_eq (k : Nat) (a : List ByteArray) (b : List ByteArray) : G16 k a b =
  if (((a.length : Int) != (b.length : Int))) then
  some (false, ())
  else
  L16_0 k k a b ((0 : Int)) := by kernel_rfl
theorem L16_0_eq (k : Nat) (n : Nat) (a : List ByteArray) (b : List ByteArray) (i : Int) : L16_0 k (n + 1) a b i =
  if (decide (i < (a.length : Int))) then
  if 0 ≤ i then
  if i < (a.length : Int) then
  if 0 ≤ i then
  if i < (b.length : Int) then
  if ((!sEq (a.getD (i).toNat ByteArray.empty) (b.getD (i).toNat ByteArray.empty))) then
  some (false, ())
  else
  L16_0 k n a b ((IntKind.wrap .i64 (i + (1 : Int))))
  else none
  else none
  else none
  else none
  else
  some (true, ()) := by kernel_rfl
theorem L16_0_zero (k : Nat) (a : List ByteArray) (b : List ByteArray) (i : Int) : L16_0 k 0 a b i = none := by kernel_rfl
theorem S16 (k : Nat) : HSound Tryd.prog gl 16 true (hF16 (F16 k)) :=
  hP_sound (E := E16 k) (fn := Tryd.f16) ⟨Tryd.func16, by kernel_rfl, by kernel_rfl, mixed, mkEnv_ok tis_ok calls_nil, by kernel_rfl, by kernel_rfl, Nat.le_of_ble_eq_true (by kernel_rfl), glNB⟩ rfl fun _ _ h => ⟨k, h⟩

/-! f43: loop.example/g00896/spec.DrawTermFor -/
abbrev P43 : List PT := [.one (.sl1 (.int .u8))]
abbrev R43 : List RT := [.agg [(false, .str), (true, (.sl [.str, .str, .str])), (true, (.sl [(.int .i64), (.int .i64), .str])), (false, .str), (false, .str)], .one false .str, .one false (.int .i64)]
noncomputable def E43 (k : Nat) : Env := mkEnv tis gl 16 [⟨20, false, true, hF20 (F20 k)⟩, ⟨21, false, true, hF21 (F21 k)⟩, ⟨39, false, true, hF39 (F39 k)⟩] [] [] 0
noncomputable def F43 (k : Nat) (x : Args P43) : Option (Res R43) := runFn (E43 k) Tryd.f43 k (encArgs P43 x) [] (retK R43)
abbrev hF43 (F : Args P43 → Option (Res R43)) : Hnd := hP P43 R43 F
noncomputable def G43 (k : Nat) (code : List Int) : Option (Locale × ByteArray × Int × Unit) := F43 k (code, ())
theorem G43_eq (k : Nat) (code : List Int) : G43 k code =
  (G20 k (code, (0 : Int), (0 : Int), ())).bind fun (r1 : (Locale × Unit) × (Cur × Unit)) =>
  (G21 k (r1.2.1.1, r1.2.1.2.1, r1.2.1.2.2.1, ()) ([(⟨#[112, 97, 103, 101]⟩ : ByteArray), (⟨#[118, 111, 108, 117, 109, 101]⟩ : ByteArray), (⟨#[101, 100, 105, 116, 111, 114]⟩ : ByteArray), (⟨#[99, 104, 97, 112, 116, 101, 114]⟩ : ByteArray), (⟨#[108, 105, 110, 101]⟩ : ByteArray), (⟨#[]⟩ : ByteArray)])).bind fun (r2 : (ByteArray × Unit) × (Cur × Unit)) =>
  (G39 k (r2.2.1.1, r2.2.1.2.1, r2.2.1.2.2.1, ())).bind fun (r3 : (Int × Unit) × (Cur × Unit)) =>
  some (r1.1.1, r2.1.1, r3.1.1, ()) := by kernel_rfl
theorem S43 (k : Nat) : HSound Tryd.prog gl 43 true (hF43 (F43 k)) :=
  hP_sound (E := E43 k) (fn := Tryd.f43) ⟨Tryd.func43, by kernel_rfl, by kernel_rfl, mixed, mkEnv_ok tis_ok (calls_cons (S20 k) (calls_cons (S21 k) (calls_cons (S39 k) calls_nil))), by kernel_rfl, by kernel_rfl, Nat.le_of_ble_eq_true (by kernel_rfl), glNB⟩ rfl fun _ _ h => ⟨k, h⟩

/-! f17: loop.example/g00896/spec.DrawCountText -/
abbrev P17 : List PT := [.one (.sl1 (.int .u8))]
abbrev R17 : List RT := [.agg [(false, .str), (true, (.sl [.str, .str, .str])), (true, (.sl [(.int .i64), (.int .i64), .str])), (false, .str), (false, .str)], .one false .str, .one false (.int .i64)]
noncomputable def E17 (k : Nat) : Env := mkEnv tis gl 10 [⟨43, true, false, hF43 (F43 k)⟩] [] [] 0
noncomputable def F17 (k : Nat) (x : Args P17) : Option (Res R17) := runFn (E17 k) Tryd.f17 k (encArgs P17 x) [] (retK R17)
abbrev hF17 (F : Args P17 → Option (Res R17)) : Hnd := hP P17 R17 F
noncomputable def G17 (k : Nat) (code : List Int) : Option (Locale × ByteArray × Int × Unit) := F17 k (code, ())
theorem G17_eq (k : Nat) (code : List Int) : G17 k code =
  (G43 k code).bind fun (r1 : Locale × ByteArray × Int × Unit) =>
  some (r1.1, r1.2.1, r1.2.2.1, ()) := by kernel_rfl
theorem S17 (k : Nat) : HSound Tryd.prog gl 17 true (hF17 (F17 k)) :=
  hP_sound (E := E17 k) (fn := Tryd.f17) ⟨Tryd.func17, by kernel_rfl, by kernel_rfl, mixed, mkEnv_ok tis_ok (calls_cons (S43 k) calls_nil), by kernel_rfl, by kernel_rfl, Nat.le_of_ble_eq_true (by kernel_rfl), glNB⟩ rfl fun _ _ h => ⟨k, h⟩

/-! f44: strconv.Itoa, by the shelf's contract -/
abbrev P44 : List PT := [.one (.int .i64)]
abbrev R44 : List RT := [.one false .str]
def itoaF (n : Int) : Option (ByteArray × Unit) := if -9223372036854775808 ≤ n ∧ n ≤ 9223372036854775807 then some ((⟨(Lib.itoa n).toArray⟩ : ByteArray), ()) else none
def F44 (_ : Nat) (x : Args P44) : Option (Res R44) := itoaF x.1
def G44 (k : Nat) (n : Int) : Option (ByteArray × Unit) := F44 k (n, ())
abbrev hF44 (F : Args P44 → Option (Res R44)) : Hnd := hP P44 R44 F
theorem G44_eq (k : Nat) (n : Int) : G44 k n = if -9223372036854775808 ≤ n ∧ n ≤ 9223372036854775807 then some ((⟨(Lib.itoa n).toArray⟩ : ByteArray), ()) else none := rfl
theorem S44 (k : Nat) : HSound Tryd.prog gl 44 true (hF44 (F44 k)) := by
  refine hP_of_contract_ext (hEnter_of Tryd.func44 (by kernel_rfl) (by kernel_rfl)) rfl rfl fun x r cf hok hgl h => ?_
  obtain ⟨n, u⟩ := x
  have h : itoaF n = some r := h
  unfold itoaF at h
  change Int at n
  split at h
  · rename_i hn
    cases h
    obtain ⟨T, fr, ht⟩ := tab_of (g := 1) hgl rfl
    refine (Any.strconv_Itoa Tryd.laysM171 n hn.1 hn.2 cf.w ?_).mono ?_
    · unfold Lib.TabIs World.var?
      rw [show Tryd.prog.globalNamed _ = some 1 by kernel_rfl]
      simp only [Option.bind_some, ht]
    · rintro e w' ⟨rfl, k, os, rfl⟩
      exact ⟨rfl, rfl, rfl, rfl, by show _ ≤ (_ ++ _ : Array _).size; rw [Array.size_append]; exact Nat.le_add_right _ _, fun g hg => by
        show (cf.w.heap ++ os)[g]? = _
        rw [Array.getElem?_append_left hg]⟩
  · cases h

/-! f18: loop.example/g00896/impl.CountText -/
abbrev P18 : List PT := [.agg [.str, (.sl [.str, .str, .str]), (.sl [(.int .i64), (.int .i64), .str]), .str, .str], .one .str, .one (.int .i64)]
abbrev R18 : List RT := [.one false .str, .one false .bool]
noncomputable def E18 (k : Nat) : Env := mkEnv tis gl 24 [⟨8, true, false, hF8 (F8 k)⟩, ⟨44, true, false, hF44 (F44 k)⟩] [] [] 0
noncomputable def F18 (k : Nat) (x : Args P18) : Option (Res R18) := runFn (E18 k) Tryd.f18 k (encArgs P18 x) [] (retK R18)
abbrev hF18 (F : Args P18 → Option (Res R18)) : Hnd := hP P18 R18 F
noncomputable def G18 (k : Nat) (l : Locale) (key : ByteArray) (vn : Int) : Option (ByteArray × Bool × Unit) := F18 k (l, key, vn, ())
theorem G18_eq (k : Nat) (l : Locale) (key : ByteArray) (vn : Int) : G18 k l key vn =
  (G8 k l key vn).bind fun (r1 : ByteArray × Bool × Unit) =>
  if (!r1.2.1) then
  some ((⟨#[]⟩ : ByteArray), false, ())
  else
  (G44 k vn).bind fun (r2 : ByteArray × Unit) =>
  if r2.1.size + (⟨#[32]⟩ : ByteArray).size ≤ 9223372036854775807 then
  if (r2.1 ++ (⟨#[32]⟩ : ByteArray)).size + r1.1.size ≤ 9223372036854775807 then
  some (((r2.1 ++ (⟨#[32]⟩ : ByteArray)) ++ r1.1), true, ())
  else none
  else none := by kernel_rfl
theorem S18 (k : Nat) : HSound Tryd.prog gl 18 true (hF18 (F18 k)) :=
  hP_sound (E := E18 k) (fn := Tryd.f18) ⟨Tryd.func18, by kernel_rfl, by kernel_rfl, mixed, mkEnv_ok tis_ok (calls_cons (S8 k) (calls_cons (S44 k) calls_nil)), by kernel_rfl, by kernel_rfl, Nat.le_of_ble_eq_true (by kernel_rfl), glNB⟩ rfl fun _ _ h => ⟨k, h⟩

/-! f45: loop.example/g00896/spec.TermFor -/
abbrev P45 : List PT := [.agg [.str, (.sl [.str, .str, .str]), (.sl [(.int .i64), (.int .i64), .str]), .str, .str], .one .str, .one (.int .i64)]
abbrev R45 : List RT := [.one false .str, .one false .bool]
noncomputable def E45 (k : Nat) : Env := mkEnv tis gl 31 [⟨24, true, false, hF24 (F24 k)⟩, ⟨40, true, false, hF40 (F40 k)⟩, ⟨41, true, false, hF41 (F41 k)⟩, ⟨42, true, false, hF42 (F42 k)⟩] [] [] 0
noncomputable def F45 (k : Nat) (x : Args P45) : Option (Res R45) := runFn (E45 k) Tryd.f45 k (encArgs P45 x) [] (retK R45)
abbrev hF45 (F : Args P45 → Option (Res R45)) : Hnd := hP P45 R45 F
noncomputable def G45 (k : Nat) (l : Locale) (key : ByteArray) (vn : Int) : Option (ByteArray × Bool × Unit) := F45 k (l, key, vn, ())
theorem G45_eq (k : Nat) (l : Locale) (key : ByteArray) (vn : Int) : G45 k l key vn =
  (G41 k l key).bind fun (r1 : Int × Unit) =>
  (G24 k l).bind fun (r2 : Bool × Unit) =>
  if (!r2.1) then
  some ((⟨#[]⟩ : ByteArray), false, ())
  else
  (G40 k vn (0 : Int) (999999 : Int)).bind fun (r3 : Bool × Unit) =>
  if (!r3.1) then
  some ((⟨#[]⟩ : ByteArray), false, ())
  else
  if (decide (r1.1 < (0 : Int))) then
  some ((⟨#[]⟩ : ByteArray), false, ())
  else
  if 0 ≤ r1.1 then
  if r1.1 < (l.2.1.length : Int) then
  (G42 k (l.2.1.getD (r1.1).toNat dTerm) vn).bind fun (r4 : ByteArray × Unit) =>
  some (r4.1, true, ())
  else none
  else none := by kernel_rfl
theorem S45 (k : Nat) : HSound Tryd.prog gl 45 true (hF45 (F45 k)) :=
  hP_sound (E := E45 k) (fn := Tryd.f45) ⟨Tryd.func45, by kernel_rfl, by kernel_rfl, mixed, mkEnv_ok tis_ok (calls_cons (S24 k) (calls_cons (S40 k) (calls_cons (S41 k) (calls_cons (S42 k) calls_nil)))), by kernel_rfl, by kernel_rfl, Nat.le_of_ble_eq_true (by kernel_rfl), glNB⟩ rfl fun _ _ h => ⟨k, h⟩

/-! f46: loop.example/g00896/spec.l1Num -/
abbrev P46 : List PT := [.one (.int .i64)]
abbrev R46 : List RT := [.one false .str]
abbrev hF46 (F : Args P46 → Option (Res R46)) : Hnd := hP P46 R46 F
noncomputable def Er46 (k : Nat) (X : Args P46 → Option (Res R46)) : Env := mkEnv tis gl 25 [⟨46, true, false, hF46 X⟩] [] [(5, [(0, 0, []), (1, 0, []), (3, 0, []), (4, 0, []), (5, 0, []), (6, 0, []), (7, 0, []), (8, 0, []), (2, 0, []), (9, 0, []), (10, 0, [])])] 0
noncomputable def F46 (k : Nat) : Args P46 → Option (Res R46) := Nat.rec (fun _ => none) (fun k X x => runFn (Er46 k X) Tryd.f46 k (encArgs P46 x) [] (retK R46)) k
noncomputable def E46 (k : Nat) : Env := Er46 k (F46 k)
noncomputable def G46 (k : Nat) (vn : Int) : Option (ByteArray × Unit) := F46 k (vn, ())
theorem G46_zero (vn : Int) : G46 0 vn = none := rfl
theorem G46_eq (k : Nat) (vn : Int) : G46 (k + 1) vn =
  if (decide (vn < (0 : Int))) then
  (G46 k (IntKind.wrap .i64 (0 - vn))).bind fun (r1 : ByteArray × Unit) =>
  if (⟨#[45]⟩ : ByteArray).size + r1.1.size ≤ 9223372036854775807 then
  some (((⟨#[45]⟩ : ByteArray) ++ r1.1), ())
  else none
  else
  if (decide (vn < (10 : Int))) then
  if 0 ≤ vn then
  if vn ≤ (IntKind.wrap .i64 (vn + (1 : Int))) then
  if (IntKind.wrap .i64 (vn + (1 : Int))) ≤ ((⟨#[48, 49, 50, 51, 52, 53, 54, 55, 56, 57]⟩ : ByteArray).size : Int) then
  some (((⟨#[48, 49, 50, 51, 52, 53, 54, 55, 56, 57]⟩ : ByteArray).extract (vn).toNat ((IntKind.wrap .i64 (vn + (1 : Int)))).toNat), ())
  else none
  else none
  else none
  else
  if (10 : Int) = 0 then none else
  if (10 : Int) = 0 then none else
  if (10 : Int) = 0 then none else
  if 0 ≤ (Int.tmod vn (10 : Int)) then
  if (Int.tmod vn (10 : Int)) ≤ (IntKind.wrap .i64 ((Int.tmod vn (10 : Int)) + (1 : Int))) then
  if (IntKind.wrap .i64 ((Int.tmod vn (10 : Int)) + (1 : Int))) ≤ ((⟨#[48, 49, 50, 51, 52, 53, 54, 55, 56, 57]⟩ : ByteArray).size : Int) then
  (G46 k (IntKind.wrap .i64 (Int.tdiv vn (10 : Int)))).bind fun (r2 : ByteArray × Unit) =>
  if r2.1.size + ((⟨#[48, 49, 50, 51, 52, 53, 54, 55, 56, 57]⟩ : ByteArray).extract ((Int.tmod vn (10 : Int))).toNat ((IntKind.wrap .i64 ((Int.tmod vn (10 : Int)) + (1 : Int)))).toNat).size ≤ 9223372036854775807 then
  some ((r2.1 ++ ((⟨#[48, 49, 50, 51, 52, 53, 54, 55, 56, 57]⟩ : ByteArray).extract ((Int.tmod vn (10 : Int))).toNat ((IntKind.wrap .i64 ((Int.tmod vn (10 : Int)) + (1 : Int)))).toNat)), ())
  else none
  else none
  else none
  else none := by kernel_rfl
theorem S46 (k : Nat) : HSound Tryd.prog gl 46 true (hF46 (F46 k)) := by
  induction k with
  | zero => exact hP_none (hEnter_of Tryd.func46 (by kernel_rfl) (by kernel_rfl))
  | succ k ih =>
    exact hP_sound (E := E46 k) (fn := Tryd.f46) ⟨Tryd.func46, by kernel_rfl, by kernel_rfl, mixed, mkEnv_ok tis_ok (calls_cons ih calls_nil), by kernel_rfl, by kernel_rfl, Nat.le_of_ble_eq_true (by kernel_rfl), glNB⟩ rfl fun _ _ h => ⟨k, h⟩

/-! f19: loop.example/g00896/spec.CountText -/
abbrev P19 : List PT := [.agg [.str, (.sl [.str, .str, .str]), (.sl [(.int .i64), (.int .i64), .str]), .str, .str], .one .str, .one (.int .i64)]
abbrev R19 : List RT := [.one false .str, .one false .bool]
noncomputable def E19 (k : Nat) : Env := mkEnv tis gl 24 [⟨45, true, false, hF45 (F45 k)⟩, ⟨46, true, false, hF46 (F46 k)⟩] [] [] 0
noncomputable def F19 (k : Nat) (x : Args P19) : Option (Res R19) := runFn (E19 k) Tryd.f19 k (encArgs P19 x) [] (retK R19)
abbrev hF19 (F : Args P19 → Option (Res R19)) : Hnd := hP P19 R19 F
noncomputable def G19 (k : Nat) (l : Locale) (key : ByteArray) (vn : Int) : Option (ByteArray × Bool × Unit) := F19 k (l, key, vn, ())
theorem G19_eq (k : Nat) (l : Locale) (key : ByteArray) (vn : Int) : G19 k l key vn =
  (G45 k l key vn).bind fun (r1 : ByteArray × Bool × Unit) =>
  if (!r1.2.1) then
  some ((⟨#[]⟩ : ByteArray), false, ())
  else
  (G46 k vn).bind fun (r2 : ByteArray × Unit) =>
  if r2.1.size + (⟨#[32]⟩ : ByteArray).size ≤ 9223372036854775807 then
  if (r2.1 ++ (⟨#[32]⟩ : ByteArray)).size + r1.1.size ≤ 9223372036854775807 then
  some (((r2.1 ++ (⟨#[32]⟩ : ByteArray)) ++ r1.1), true, ())
  else none
  else none := by kernel_rfl
theorem S19 (k : Nat) : HSound Tryd.prog gl 19 true (hF19 (F19 k)) :=
  hP_sound (E := E19 k) (fn := Tryd.f19) ⟨Tryd.func19, by kernel_rfl, by kernel_rfl, mixed, mkEnv_ok tis_ok (calls_cons (S45 k) (calls_cons (S46 k) calls_nil)), by kernel_rfl, by kernel_rfl, Nat.le_of_ble_eq_true (by kernel_rfl), glNB⟩ rfl fun _ _ h => ⟨k, h⟩

/-! f3: loop.example/g00896/laws.FnTerms -/
abbrev P3 : List PT := [.one (.sl1 (.int .u8))]
abbrev R3 : List RT := [.one false .bool]
noncomputable def E3 (k : Nat) : Env := mkEnv tis gl 249 [⟨4, true, false, hF4 (F4 k)⟩, ⟨5, true, false, hF5 (F5 k)⟩, ⟨6, true, false, hF6 (F6 k)⟩, ⟨7, true, false, hF7 (F7 k)⟩, ⟨8, true, false, hF8 (F8 k)⟩, ⟨9, true, false, hF9 (F9 k)⟩, ⟨10, true, false, hF10 (F10 k)⟩, ⟨11, true, true, hF11 (F11 k)⟩, ⟨12, true, false, hF12 (F12 k)⟩, ⟨13, true, false, hF13 (F13 k)⟩, ⟨14, true, false, hF14 (F14 k)⟩, ⟨15, true, false, hF15 (F15 k)⟩, ⟨16, true, false, hF16 (F16 k)⟩, ⟨17, true, false, hF17 (F17 k)⟩, ⟨18, true, false, hF18 (F18 k)⟩, ⟨19, true, false, hF19 (F19 k)⟩] [(29, [0, 27, 29, 33])] [(31, [(0, 0, []), (1, 0, []), (2, 0, []), (3, 0, []), (4, 0, []), (5, 0, []), (6, 0, []), (7, 0, []), (8, 0, []), (9, 0, []), (10, 0, [])])] 0
noncomputable def F3 (k : Nat) (x : Args P3) : Option (Res R3) := runFn (E3 k) Tryd.f3 k (encArgs P3 x) [] (retK R3)
abbrev hF3 (F : Args P3 → Option (Res R3)) : Hnd := hP P3 R3 F
noncomputable def G3 (k : Nat) (code : List Int) : Option (Bool × Unit) := F3 k (code, ())
noncomputable def L3_0 (k : Nat) (n : Nat) (code : List Int) (i : Int) (p : ByteArray) (p_1 : ByteArray) (p_2 : ByteArray) (missing : List ByteArray) (p_3 : List (Term)) (p_4 : List (Rule)) : Option (Bool × Unit) :=
  loopAt (E3 k) k [1, 1, 1, 1, 1, 1, 1, 1, 1, 1, 1, 1, 1, 1, 0, 1, 0] [] (body Tryd.f3) (atEnd (E3 k) Tryd.f3.results.toList (retK R3)) n ⟨[(0, .v (.one (V.d (.sl1 (.int .u8)) code))), (27, .v (.one (V.ptr 0 0))), (29, .v (.one (V.ref 1))), (33, .v (.one (V.d (.int .i64) i)))], [.box [V.d .str p, V.ref 2, V.ref 3, V.d .str p_1, V.d .str p_2], .arr (.sl1 .str) missing, .arr (.sl [.str, .str, .str]) p_3, .arr (.sl [(.int .i64), (.int .i64), .str]) p_4]⟩
theorem G3_eq (k : Nat) (code : List Int) : G3 k code =
  (G4 k code).bind fun (r1 : Bool × Unit) =>
  if r1.1 then
  some (true, ())
  else
  (G5 k code).bind fun (r2 : Locale × Term × Unit) =>
  (G6 k r2.1 r2.2.1).bind fun (r3 : Locale × Bool × Unit) =>
  (G7 k r2.1 r2.2.1).bind fun (r4 : Locale × Bool × Unit) =>
  if (!(r3.2.1 == r4.2.1)) then
  some (false, ())
  else
  if r3.2.1 then
  (G8 k r3.1 r2.2.1.1 (1 : Int)).bind fun (r5 : ByteArray × Bool × Unit) =>
  (G8 k r3.1 r2.2.1.1 (2 : Int)).bind fun (r6 : ByteArray × Bool × Unit) =>
  (G9 k ([(r3.1.1, r3.1.2.1, r3.1.2.2.1, r3.1.2.2.2.1, r3.1.2.2.2.2.1, ())]) r2.2.1.1 (1 : Int)).bind fun (r7 : ByteArray × Int × Bool × Unit) =>
  if (!r5.2.1) then
  some (false, ())
  else
  if (!r6.2.1) then
  some (false, ())
  else
  if (!r7.2.2.1) then
  some (false, ())
  else
  if ((!sEq r5.1 r2.2.1.2.1)) then
  some (false, ())
  else
  if ((!sEq r6.1 r2.2.1.2.2.1)) then
  some (false, ())
  else
  if ((!sEq r7.1 r2.2.1.2.1)) then
  some (false, ())
  else
  if ((r7.2.1 != (0 : Int))) then
  some (false, ())
  else
  (G10 k r3.1).bind fun (r8 : Bool × Unit) =>
  if (!r8.1) then
  some (false, ())
  else
  (G11 k code).bind fun (r9 : (List (Locale)) × ByteArray × Int × Unit) =>
  (G9 k r9.1 r9.2.1 r9.2.2.1).bind fun (r10 : ByteArray × Int × Bool × Unit) =>
  (G12 k r9.1 r9.2.1 r9.2.2.1).bind fun (r11 : ByteArray × Int × Bool × Unit) =>
  if ((!sEq r10.1 r11.1)) then
  some (false, ())
  else
  if ((r10.2.1 != r11.2.1)) then
  some (false, ())
  else
  if (!(r10.2.2.1 == r11.2.2.1)) then
  some (false, ())
  else
  if r10.2.2.1 then
  if 0 ≤ r10.2.1 then
  if r10.2.1 < (r9.1.length : Int) then
  (G8 k (r9.1.getD (r10.2.1).toNat dLocale) r9.2.1 r9.2.2.1).bind fun (r12 : ByteArray × Bool × Unit) =>
  if (!r12.2.1) then
  some (false, ())
  else
  if ((!sEq r12.1 r10.1)) then
  some (false, ())
  else
  (G13 k code).bind fun (r13 : Locale × Locale × Unit) =>
  (G14 k r13.1 r13.2.1).bind fun (r14 : (List ByteArray) × Bool × Unit) =>
  (G15 k r13.1 r13.2.1).bind fun (r15 : (List ByteArray) × Bool × Unit) =>
  if (!(r14.2.1 == r15.2.1)) then
  some (false, ())
  else
  (G16 k r14.1 r15.1).bind fun (r16 : Bool × Unit) =>
  if (!r16.1) then
  some (false, ())
  else
  L3_0 k k code ((0 : Int)) r13.1.1 r13.1.2.2.2.1 r13.1.2.2.2.2.1 r14.1 r13.1.2.1 r13.1.2.2.1
  else none
  else none
  else
  (G13 k code).bind fun (r17 : Locale × Locale × Unit) =>
  (G14 k r17.1 r17.2.1).bind fun (r18 : (List ByteArray) × Bool × Unit) =>
  (G15 k r17.1 r17.2.1).bind fun (r19 : (List ByteArray) × Bool × Unit) =>
  if (!(r18.2.1 == r19.2.1)) then
  some (false, ())
  else
  (G16 k r18.1 r19.1).bind fun (r20 : Bool × Unit) =>
  if (!r20.1) then
  some (false, ())
  else
  L3_0 k k code ((0 : Int)) r17.1.1 r17.1.2.2.2.1 r17.1.2.2.2.2.1 r18.1 r17.1.2.1 r17.1.2.2.1
  else
  (G11 k code).bind fun (r21 : (List (Locale)) × ByteArray × Int × Unit) =>
  (G9 k r21.1 r21.2.1 r21.2.2.1).bind fun (r22 : ByteArray × Int × Bool × Unit) =>
  (G12 k r21.1 r21.2.1 r21.2.2.1).bind fun (r23 : ByteArray × Int × Bool × Unit) =>
  if ((!sEq r22.1 r23.1)) then
  some (false, ())
  else
  if ((r22.2.1 != r23.2.1)) then
  some (false, ())
  else
  if (!(r22.2.2.1 == r23.2.2.1)) then
  some (false, ())
  else
  if r22.2.2.1 then
  if 0 ≤ r22.2.1 then
  if r22.2.1 < (r21.1.length : Int) then
  (G8 k (r21.1.getD (r22.2.1).toNat dLocale) r21.2.1 r21.2.2.1).bind fun (r24 : ByteArray × Bool × Unit) =>
  if (!r24.2.1) then
  some (false, ())
  else
  if ((!sEq r24.1 r22.1)) then
  some (false, ())
  else
  (G13 k code).bind fun (r25 : Locale × Locale × Unit) =>
  (G14 k r25.1 r25.2.1).bind fun (r26 : (List ByteArray) × Bool × Unit) =>
  (G15 k r25.1 r25.2.1).bind fun (r27 : (List ByteArray) × Bool × Unit) =>
  if (!(r26.2.1 == r27.2.1)) then
  some (false, ())
  else
  (G16 k r26.1 r27.1).bind fun (r28 : Bool × Unit) =>
  if (!r28.1) then
  some (false, ())
  else
  L3_0 k k code ((0 : Int)) r25.1.1 r25.1.2.2.2.1 r25.1.2.2.2.2.1 r26.1 r25.1.2.1 r25.1.2.2.1
  else none
  else none
  else
  (G13 k code).bind fun (r29 : Locale × Locale × Unit) =>
  (G14 k r29.1 r29.2.1).bind fun (r30 : (List ByteArray) × Bool × Unit) =>
  (G15 k r29.1 r29.2.1).bind fun (r31 : (List ByteArray) × Bool × Unit) =>
  if (!(r30.2.1 == r31.2.1)) then
  some (false, ())
  else
  (G16 k r30.1 r31.1).bind fun (r32 : Bool × Unit) =>
  if (!r32.1) then
  some (false, ())
  else
  L3_0 k k code ((0 : Int)) r29.1.1 r29.1.2.2.2.1 r29.1.2.2.2.2.1 r30.1 r29.1.2.1 r29.1.2.2.1 := by kernel_rfl
theorem L3_0_eq (k : Nat) (n : Nat) (code : List Int) (i : Int) (p : ByteArray) (p_1 : ByteArray) (p_2 : ByteArray) (missing : List ByteArray) (p_3 : List (Term)) (p_4 : List (Rule)) : L3_0 k (n + 1) code i p p_1 p_2 missing p_3 p_4 =
  if (decide (i < (missing.length : Int))) then
  if 0 ≤ i then
  if i < (missing.length : Int) then
  (G8 k (p, p_3, p_4, p_1, p_2, ()) (missing.getD (i).toNat ByteArray.empty) (1 : Int)).bind fun (r1 : ByteArray × Bool × Unit) =>
  if r1.2.1 then
  some (false, ())
  else
  L3_0 k n code ((IntKind.wrap .i64 (i + (1 : Int)))) p p_1 p_2 missing p_3 p_4
  else none
  else none
  else
  (G17 k code).bind fun (r2 : Locale × ByteArray × Int × Unit) =>
  (G18 k r2.1 r2.2.1 r2.2.2.1).bind fun (r3 : ByteArray × Bool × Unit) =>
  (G19 k r2.1 r2.2.1 r2.2.2.1).bind fun (r4 : ByteArray × Bool × Unit) =>
  if (sEq r3.1 r4.1) then
  some ((r3.2.1 == r4.2.1), ())
  else
  some (false, ()) := by kernel_rfl
theorem L3_0_zero (k : Nat) (code : List Int) (i : Int) (p : ByteArray) (p_1 : ByteArray) (p_2 : ByteArray) (missing : List ByteArray) (p_3 : List (Term)) (p_4 : List (Rule)) : L3_0 k 0 code i p p_1 p_2 missing p_3 p_4 = none := by kernel_rfl
theorem S3 (k : Nat) : HSound Tryd.prog gl 3 true (hF3 (F3 k)) :=
  hP_sound (E := E3 k) (fn := Tryd.f3) ⟨Tryd.func3, by kernel_rfl, by kernel_rfl, mixed, mkEnv_ok tis_ok (calls_cons (S4 k) (calls_cons (S5 k) (calls_cons (S6 k) (calls_cons (S7 k) (calls_cons (S8 k) (calls_cons (S9 k) (calls_cons (S10 k) (calls_cons (S11 k) (calls_cons (S12 k) (calls_cons (S13 k) (calls_cons (S14 k) (calls_cons (S15 k) (calls_cons (S16 k) (calls_cons (S17 k) (calls_cons (S18 k) (calls_cons (S19 k) calls_nil)))))))))))))))), by kernel_rfl, by kernel_rfl, Nat.le_of_ble_eq_true (by kernel_rfl), glNB⟩ rfl fun _ _ h => ⟨k, h⟩


end Go.Vm

namespace Go.Vm
open Go.Proofs

/-! ### The plain side of the first seat -/

theorem G40_ok (k : Nat) (x a b : Int) : G40 k x a b = some (decide (a ≤ x) && decide (x ≤ b), ()) := by
  rw [G40_eq]; grind

theorem G55_ok (k : Nat) (x a b : Int) : G55 k x a b = some (decide (a ≤ x) && decide (x ≤ b), ()) := by
  rw [G55_eq]; grind

theorem G65_ok (k : Nat) (b : Int) : G65 k b = some (decide (97 ≤ b) && decide (b ≤ 122), ()) := by
  rw [G65_eq]
  by_cases h : 97 ≤ b <;> simp [h]

/-- All bytes from 'i' on lie between two. -/
def inside (lo hi : Int) (s : ByteArray) (j : Nat) : Bool := decide (lo ≤ bt s j) && decide (bt s j ≤ hi)
def between (lo hi : Int) (s : ByteArray) : Bool := (List.range' 0 s.size).all (inside lo hi s)
def fits (low high : Int) (s : ByteArray) : Bool := decide (low ≤ (s.size : Int)) && decide ((s.size : Int) ≤ high)

theorem ite_some_all {c : Bool} {r : Bool} : (if c = true then some (r, ()) else some (false, ())) = some (c && r, ()) := by cases c <;> rfl
theorem ite_some_all' {c : Bool} : (if c = true then some (true, ()) else some (false, ())) = some (c, ()) := by cases c <;> rfl

theorem L50_ok (k : Nat) (s : ByteArray) (hs : s.size < k) (hk : k ≤ 9223372036854775806) : L50_0 k k s 0 = some (between 97 122 s && fits 1 10 s, ()) := by
  refine (loop_all (fun n i => L50_0 k n s i) s.size (inside 97 122 s) (some (false, ())) (some (fits 1 10 s, ())) ?_ ?_ k 0 (Nat.zero_le _) (by omega)).trans ite_some_all
  · intro n i hi
    show L50_0 k (n + 1) s i = _
    rw [L50_0_eq]
    unfold inside
    grind [wsucc]
  · intro n
    show L50_0 k (n + 1) s s.size = _
    rw [L50_0_eq]
    simp [G40_ok, fits]

theorem L51_ok (k : Nat) (s : ByteArray) (low high first : Int) (hs : s.size < k) (hk : k ≤ 9223372036854775806) : L51_0 k k s low high first 0 = some (between first 126 s && fits low high s, ()) := by
  refine (loop_all (fun n i => L51_0 k n s low high first i) s.size (inside first 126 s) (some (false, ())) (some (fits low high s, ())) ?_ ?_ k 0 (Nat.zero_le _) (by omega)).trans ite_some_all
  · intro n i hi
    show L51_0 k (n + 1) s low high first i = _
    rw [L51_0_eq]
    unfold inside
    grind [wsucc]
  · intro n
    show L51_0 k (n + 1) s low high first s.size = _
    rw [L51_0_eq]
    simp [G40_ok, fits]

theorem L58_ok (k : Nat) (s : ByteArray) (hs : s.size < k) (hk : k ≤ 9223372036854775806) : L58_0 k k s 0 = some (between 32 126 s, ()) := by
  refine (loop_all (fun n i => L58_0 k n s i) s.size (inside 32 126 s) (some (false, ())) (some (true, ())) ?_ ?_ k 0 (Nat.zero_le _) (by omega)).trans ite_some_all'
  · intro n i hi
    show L58_0 k (n + 1) s i = _
    rw [L58_0_eq]
    unfold inside
    grind [wsucc]
  · intro n
    show L58_0 k (n + 1) s s.size = _
    rw [L58_0_eq]
    simp

theorem L57_ok (k : Nat) (s : ByteArray) (low high : Int) (hs : s.size < k) (hk : k ≤ 9223372036854775806) : L57_0 k k s low high 0 = some (between 97 122 s && fits low high s, ()) := by
  refine (loop_all (fun n i => L57_0 k n s low high i) s.size (inside 97 122 s) (some (false, ())) (some (fits low high s, ())) ?_ ?_ k 0 (Nat.zero_le _) (by omega)).trans ite_some_all
  · intro n i hi
    show L57_0 k (n + 1) s low high i = _
    rw [L57_0_eq, G65_ok]
    unfold inside
    grind [wsucc]
  · intro n
    show L57_0 k (n + 1) s low high s.size = _
    rw [L57_0_eq]
    simp [G55_ok, fits]

def key (s : ByteArray) : Bool := between 97 122 s && fits 1 10 s
def text (first low high : Int) (s : ByteArray) : Bool := between first 126 s && fits low high s

section
variable (k : Nat) (hk2 : k ≤ 9223372036854775806)
include hk2

theorem G50_ok (s : ByteArray) (hs : s.size < k) : G50 k s = some (key s, ()) := by
  rw [G50_eq]; exact L50_ok k s hs hk2

theorem G51_ok (s : ByteArray) (low high first : Int) (hs : s.size < k) : G51 k s low high first = some (text first low high s, ()) := by
  rw [G51_eq]; exact L51_ok k s low high first hs hk2

theorem G58_ok (s : ByteArray) (hs : s.size < k) : G58 k s = some (between 32 126 s, ()) := by
  rw [G58_eq]; exact L58_ok k s hs hk2

theorem G52_ok (t : Term) (h1 : t.1.size < k) (h2 : t.2.1.size < k) (h3 : t.2.2.1.size < k) :
    G52 k t = some (key t.1 && (text 32 1 20 t.2.1 && text 32 1 20 t.2.2.1), ()) := by
  rw [G52_eq, G50_ok k hk2 _ h1, G51_ok k hk2 _ _ _ _ h2, G51_ok k hk2 _ _ _ _ h3]
  cases key t.1 <;> cases text 32 1 20 t.2.1 <;> rfl

theorem G32_ok (s : ByteArray) (most : Int) (h1 : s.size < k) : G32 k s most = some (text 32 1 most s, ()) := by
  rw [G32_eq, G55_ok, G58_ok k hk2 _ h1]
  unfold text fits
  cases between 32 126 s <;> cases decide ((1 : Int) ≤ (s.size : Int)) <;> cases decide ((s.size : Int) ≤ most) <;> rfl

theorem G75_ok (s : ByteArray) (hs : s.size < k) : G75 k s (⟨#[]⟩ : ByteArray) = some (true, ()) := by
  rw [G75_eq]
  have e : (((⟨#[]⟩ : ByteArray).size : Nat) : Int) = 0 := rfl
  rw [e, w64 (by omega) (by omega)]
  have h : sEq ByteArray.empty (⟨#[]⟩ : ByteArray) = true := sEq_self ByteArray.empty
  simp [h]

theorem G69_ok (s : ByteArray) (hs : s.size < k) : G69 k s (⟨#[]⟩ : ByteArray) = some (s, ()) := by
  rw [G69_eq, G75_ok k hk2 s hs]
  have e : (((⟨#[]⟩ : ByteArray).size : Nat) : Int) = 0 := rfl
  rw [e, w64 (by omega) (by omega)]
  simp

theorem G31_ok (s : ByteArray) (h1 : s.size < k) : G31 k s = some (key s, ()) := by
  rw [G31_eq, G57_eq, G64_eq, G69_ok k hk2 s h1]
  simp only [Option.bind_some]
  rw [L57_ok k s 1 10 h1 hk2]
  rfl

end
end Go.Vm

namespace Go.Vm
open Go.Proofs

/-! ### Sizes -/
def bndT (m : Nat) (t : Term) : Prop := t.1.size ≤ m ∧ t.2.1.size ≤ m ∧ t.2.2.1.size ≤ m
def bndR (m : Nat) (r : Rule) : Prop := r.2.2.1.size ≤ m
def bndL (m : Nat) (l : Locale) : Prop := l.1.size ≤ m ∧ l.2.1.length ≤ m ∧ l.2.2.1.length ≤ m ∧ l.2.2.2.1.size ≤ m ∧ l.2.2.2.2.1.size ≤ m ∧
  (∀ i, i < l.2.1.length → bndT m (l.2.1.getD i dTerm)) ∧ (∀ i, i < l.2.2.1.length → bndR m (l.2.2.1.getD i dRule))


/-! ### A locale is good -/
def goodT (t : Term) : Bool := key t.1 && (text 32 1 20 t.2.1 && text 32 1 20 t.2.2.1)
def goodAt (ts : List Term) (i : Nat) : Bool := goodT (ts.getD i dTerm) && (decide (i = 0) || sLt (ts.getD (i - 1) dTerm).1 (ts.getD i dTerm).1)
def goodR (r : Rule) : Bool := decide (1 ≤ r.1) && decide (r.1 ≤ 1000) && (decide (0 ≤ r.2.1) && decide (r.2.1 ≤ r.1 - 1)) && text 33 0 4 r.2.2.1
def allR (rs : List Rule) : Bool := (List.range' 0 rs.length).all (fun j => goodR (rs.getD j dRule))
def allT (ts : List Term) : Bool := (List.range' 0 ts.length).all (goodAt ts)
def good (l : Locale) : Bool := key l.1 && decide (l.2.1.length ≤ 12) && decide (l.2.2.1.length ≤ 6) && text 32 1 10 l.2.2.2.1 && text 32 1 10 l.2.2.2.2.1 &&
  (allT l.2.1 && allR l.2.2.1)

section
variable (k : Nat) (hk : 1048577 ≤ k) (hk2 : k ≤ 9223372036854775806)
include hk hk2

theorem L24_1_ok (a : ByteArray) (ts : List Term) (rs : List Rule) (b c : ByteArray) (hr : rs.length ≤ 1048576) (hb : ∀ i, i < rs.length → bndR 1048576 (rs.getD i dRule)) :
    L24_1 k k 0 a ts rs b c = some (allR rs, ()) := by
  refine (loop_all (fun n i => L24_1 k n i a ts rs b c) rs.length (fun j => goodR (rs.getD j dRule)) (some (false, ())) (some (true, ())) ?_ ?_ k 0 (Nat.zero_le _) (by omega)).trans ite_some_all'
  · intro n i hi
    have hb' : (rs.getD i dRule).2.2.1.size ≤ 1048576 := hb i hi
    show L24_1 k (n + 1) i a ts rs b c = _
    rw [L24_1_eq, Int.toNat_natCast, G40_ok, G51_ok k hk2 _ _ _ _ (by omega)]
    simp only [G40_ok]
    unfold goodR
    grind [wsucc, w64]
  · intro n
    show L24_1 k (n + 1) (rs.length : Int) a ts rs b c = _
    rw [L24_1_eq]; grind

theorem L24_0_ok (a : ByteArray) (ts : List Term) (rs : List Rule) (b c : ByteArray) (hr : rs.length ≤ 1048576) (hb : ∀ i, i < rs.length → bndR 1048576 (rs.getD i dRule))
    (ht : ts.length ≤ 1048576) (hc : ∀ i, i < ts.length → bndT 1048576 (ts.getD i dTerm)) :
    L24_0 k k 0 a ts rs b c = some (allT ts && allR rs, ()) := by
  refine (loop_all (fun n i => L24_0 k n i a ts rs b c) ts.length (goodAt ts) (some (false, ())) (some (allR rs, ())) ?_ ?_ k 0 (Nat.zero_le _) (by omega)).trans ite_some_all
  · intro n i hi
    obtain ⟨c1, c2, c3⟩ := hc i hi
    show L24_0 k (n + 1) i a ts rs b c = _
    rw [L24_0_eq, Int.toNat_natCast, G52_ok k hk2 _ (by omega) (by omega) (by omega), w64 (n := (i : Int) - 1) (by omega) (by omega), show ((i : Int) - 1).toNat = i - 1 by omega]
    unfold goodAt goodT
    grind [wsucc]
  · intro n
    show L24_0 k (n + 1) (ts.length : Int) a ts rs b c = _
    rw [L24_0_eq, if_neg (by simp)]
    exact L24_1_ok k hk hk2 a ts rs b c hr hb

theorem G24_ok (l : Locale) (hb : bndL 1048576 l) : G24 k l = some (good l, ()) := by
  obtain ⟨b1, b2, b3, b4, b5, b6, b7⟩ := hb
  rw [G24_eq, G50_ok k hk2 _ (by omega), G51_ok k hk2 _ _ _ _ (by omega), G51_ok k hk2 _ _ _ _ (by omega), L24_0_ok k hk hk2 l.1 l.2.1 l.2.2.1 l.2.2.2.1 l.2.2.2.2.1 b3 b7 b2 b6]
  unfold good
  grind

omit hk hk2 in
theorem between_list (lo hi : Int) (s : ByteArray) : between lo hi s = s.data.toList.all (fun b => decide (lo ≤ (b.toNat : Int)) && decide ((b.toNat : Int) ≤ hi)) := by
  unfold between inside
  rw [size_list, ← range_all (0 : UInt8)]
  simp only [bt_getD]

omit hk hk2 in
theorem rule_bytes : ∀ (l : List UInt8), ((l.all fun b => decide ((32 : Int) ≤ (b.toNat : Int)) && decide ((b.toNat : Int) ≤ 126)) && !decide (0 ≤ Lib.indexByte l 32)) = l.all fun b => decide ((33 : Int) ≤ (b.toNat : Int)) && decide ((b.toNat : Int) ≤ 126)
  | [] => rfl
  | b :: l => by
    have h := rule_bytes l
    have hge := Lib.indexByte_ge l 32
    have h0 : (0 ≤ Lib.indexByte (b :: l) 32) ↔ (b = 32 ∨ 0 ≤ Lib.indexByte l 32) := by
      rw [Lib.indexByte]
      grind
    have h1 : b = 32 ↔ (b.toNat : Int) = 32 := by
      rw [← UInt8.toNat_inj]
      show b.toNat = 32 ↔ _
      omega
    have h2 : (decide (0 ≤ Lib.indexByte (b :: l) 32)) = (decide ((b.toNat : Int) = 32) || decide (0 ≤ Lib.indexByte l 32)) := by
      rw [Bool.eq_iff_iff, decide_eq_true_iff, h0, h1]; simp
    rw [List.all_cons, List.all_cons, ← h, h2]
    grind

omit hk hk2 in
theorem rule_text (s : ByteArray) : (decide ((s.size : Int) ≤ 4) && (between 32 126 s && !decide (0 ≤ Lib.indexByte s.data.toList 32))) = text 33 0 4 s := by
  unfold text fits
  rw [between_list, between_list, rule_bytes]
  grind

theorem G35_ok (r : Rule) (hb : bndR 1048576 r) : G35 k r = some (goodR r, ()) := by
  have hb' : r.2.2.1.size ≤ 1048576 := hb
  rw [G35_eq, G58_ok k hk2 _ (by omega), show G60 k r.2.2.1 (⟨#[32]⟩ : ByteArray) = some (decide (0 ≤ Lib.indexByte r.2.2.1.data.toList 32), ()) from rfl]
  simp only [G55_ok]
  unfold goodR
  rw [← rule_text]
  grind [w64]

theorem G34_ok (r : Rule) (hb : bndR 1048576 r) : G34 k r = some (!goodR r, ()) := by
  rw [G34_eq, G35_ok k hk hk2 r hb]
  rfl

theorem G33_ok (rs : List Rule) (hr : rs.length ≤ 1048576) (hb : ∀ i, i < rs.length → bndR 1048576 (rs.getD i dRule)) :
    G33 k rs = some (!allR rs, ()) := by
  rw [G33_eq, G59_eq]
  have h := loop_scan (fun n i => (L59_0 k n rs (rs.length : Int) i)) rs.length (fun j => goodR (rs.getD j dRule)) (fun j => if j < rs.length then some ((j : Int), ()) else some (-1, ())) ?_ ?_ ?_ k 0 (Nat.zero_le _) (by omega)
  · have h' : L59_0 k k rs (rs.length : Int) 0 = _ := h
    rw [h']
    unfold allR
    rw [← scan_all]
    simp only [Nat.sub_zero, Nat.zero_add]
    generalize scan _ _ _ = m
    split <;> simp <;> omega
  · intro n i hi hp
    show L59_0 k (n + 1) rs _ i = _
    rw [L59_0_eq, Int.toNat_natCast, G34_ok k hk hk2 _ (hb i hi)]
    grind [wsucc]
  · intro n i hi hp
    show L59_0 k (n + 1) rs _ i = _
    rw [L59_0_eq, Int.toNat_natCast, G34_ok k hk hk2 _ (hb i hi)]
    grind
  · intro n
    show L59_0 k (n + 1) rs _ _ = _
    rw [L59_0_eq]; grind

theorem G10_ok (l : Locale) (hb : bndL 1048576 l) : G10 k l = some (good l, ()) := by
  obtain ⟨b1, b2, b3, b4, b5, b6, b7⟩ := hb
  rw [G10_eq, G31_ok k hk2 _ (by omega), G32_ok k hk2 _ _ (by omega), G32_ok k hk2 _ _ (by omega)]
  have h : L10_0 k k l.2.1 (l.2.1.length : Int) 0 l.1 l.2.1 l.2.2.1 l.2.2.2.1 l.2.2.2.2.1 = some (allT l.2.1 && allR l.2.2.1, ()) := by
    refine (loop_all (fun n i => L10_0 k n l.2.1 (l.2.1.length : Int) i l.1 l.2.1 l.2.2.1 l.2.2.2.1 l.2.2.2.2.1) l.2.1.length (goodAt l.2.1) (some (false, ())) (some (allR l.2.2.1, ())) ?_ ?_ k 0 (Nat.zero_le _) (by omega)).trans ite_some_all
    · intro n i hi
      obtain ⟨c1, c2, c3⟩ := b6 i hi
      show L10_0 k (n + 1) l.2.1 (l.2.1.length : Int) i l.1 l.2.1 l.2.2.1 l.2.2.2.1 l.2.2.2.2.1 = _
      rw [L10_0_eq, Int.toNat_natCast, G31_ok k hk2 _ (by omega), G32_ok k hk2 _ _ (by omega), G32_ok k hk2 _ _ (by omega), w64 (n := (i : Int) - 1) (by omega) (by omega), show ((i : Int) - 1).toNat = i - 1 by omega]
      unfold goodAt goodT
      grind [wsucc]
    · intro n
      show L10_0 k (n + 1) l.2.1 (l.2.1.length : Int) l.2.1.length l.1 l.2.1 l.2.2.1 l.2.2.2.1 l.2.2.2.2.1 = _
      rw [L10_0_eq, if_neg (by simp), G33_ok k hk hk2 _ b3 b7]
      simp
  rw [h]
  unfold good
  grind

end

/-! ### A term is added -/
abbrev dLoc : Locale := (ByteArray.empty, [], [], ByteArray.empty, ByteArray.empty, ())
def addAt (ts : List Term) (t : Term) (i : Nat) : List Term :=
  if i < ts.length ∧ sEq (ts.getD i dTerm).1 t.1 = true then ts.take i ++ [t] ++ ts.drop (i + 1) else ts.take i ++ [t] ++ ts.drop i
def addRes (l : Locale) (t : Term) (i : Nat) : Option (Locale × Bool × Unit) :=
  if good (l.1, addAt l.2.1 t i, l.2.2.1, l.2.2.2.1, l.2.2.2.2.1, ()) then some ((l.1, addAt l.2.1 t i, l.2.2.1, l.2.2.2.1, l.2.2.2.2.1, ()), true, ()) else some (dLoc, false, ())
def before (ts : List Term) (t : Term) (i : Nat) : Bool := sLt (ts.getD i dTerm).1 t.1
def addOne (l : Locale) (t : Term) : Option (Locale × Bool × Unit) :=
  if good l then addRes l t (scan (before l.2.1 t) l.2.1.length 0) else some (dLoc, false, ())

theorem bndT_mem {m : Nat} {ts : List Term} (h : ∀ i, i < ts.length → bndT m (ts.getD i dTerm)) : ∀ x ∈ ts, bndT m x := by
  intro x hx
  obtain ⟨i, hi, rfl⟩ := List.mem_iff_getElem.1 hx
  have := h i hi
  simpa [hi] using this

theorem bndT_of_mem {m : Nat} {ts : List Term} (h : ∀ x ∈ ts, bndT m x) : ∀ i, i < ts.length → bndT m (ts.getD i dTerm) := by
  intro i hi
  have := h ts[i] (List.getElem_mem hi)
  simpa [hi] using this

theorem addAt_bnd {ts : List Term} {t : Term} {m i : Nat} (h : ∀ x ∈ ts, bndT m x) (ht : bndT m t) : ∀ x ∈ addAt ts t i, bndT m x := by
  intro x hx
  unfold addAt at hx
  have hsub : x ∈ ts ∨ x = t := by
    split at hx <;> simp only [List.mem_append, List.mem_singleton] at hx
    · rcases hx with (hx | hx) | hx
      · exact .inl (List.mem_of_mem_take hx)
      · exact .inr hx
      · exact .inl (List.mem_of_mem_drop hx)
    · rcases hx with (hx | hx) | hx
      · exact .inl (List.mem_of_mem_take hx)
      · exact .inr hx
      · exact .inl (List.mem_of_mem_drop hx)
  rcases hsub with h1 | rfl
  · exact h x h1
  · exact ht

theorem addAt_len (ts : List Term) (t : Term) (i : Nat) : (addAt ts t i).length ≤ ts.length + 1 := by
  unfold addAt
  split <;> simp <;> omega

section
variable (k : Nat) (hk : 1048577 ≤ k) (hk2 : k ≤ 9223372036854775806)
include hk hk2

omit hk hk2 in
theorem bndL_add {l : Locale} {t : Term} (hb : bndL 1048576 l) (ht : bndT 1048576 t) (h12 : l.2.1.length ≤ 12) (i : Nat) : bndL 1048576 (l.1, addAt l.2.1 t i, l.2.2.1, l.2.2.2.1, l.2.2.2.2.1, ()) := by
  obtain ⟨b1, b2, b3, b4, b5, b6, b7⟩ := hb
  exact ⟨b1, Nat.le_trans (addAt_len _ _ _) (by omega), b3, b4, b5, bndT_of_mem (addAt_bnd (bndT_mem b6) ht), b7⟩

omit hk hk2 in
theorem good_len {l : Locale} (h : good l = true) : l.2.1.length ≤ 12 ∧ l.2.2.1.length ≤ 6 := by
  unfold good at h
  grind

theorem G7_ok (l : Locale) (t : Term) (hb : bndL 1048576 l) (ht : bndT 1048576 t) : G7 k l t = addOne l t := by
  rw [G7_eq, G24_ok k hk hk2 l hb]
  unfold addOne
  cases hg : good l
  · rfl
  obtain ⟨h12, h6⟩ := good_len hg
  have hb2 := hb
  have e : G25 k l = some (l, ()) := by
    rw [G25_eq, if_pos (by simp; omega), if_pos (by simp; omega)]; rfl
  have hq := fun i => G24_ok k hk hk2 _ (bndL_add hb2 ht h12 i)
  simp only [Option.bind_some, Bool.not_true, e, if_true]
  rw [if_neg (by simp)]
  obtain ⟨l1, ts, rs, l3, l4, ⟨⟩⟩ := l
  obtain ⟨t1, t2, t3, ⟨⟩⟩ := t
  simp only at h12 h6 hq ⊢
  refine loop_scan (fun n i => L7_0 k n i l1 ts rs l3 l4 t1 t2 t3 ByteArray.empty ByteArray.empty ByteArray.empty l1 l3 l4 ts rs) ts.length (before ts (t1, t2, t3, ())) (addRes (l1, ts, rs, l3, l4, ()) (t1, t2, t3, ())) ?_ ?_ ?_ k 0 (Nat.zero_le _) (by omega)
  · intro n i hi hp
    show L7_0 k (n + 1) i _ _ _ _ _ _ _ _ _ _ _ _ _ _ _ _ = _
    rw [L7_0_eq]
    unfold before at hp
    grind [wsucc]
  · intro n i hi hp
    show L7_0 k (n + 1) i _ _ _ _ _ _ _ _ _ _ _ _ _ _ _ _ = _
    rw [L7_0_eq, wsucc (by omega)]
    specialize hq i
    unfold before at hp
    unfold addRes
    by_cases h3 : sEq (ts.getD i dTerm).1 t1 = true
    · have ea : addAt ts (t1, t2, t3, ()) i = ts.take i ++ [(t1, t2, t3, ())] ++ ts.drop (i + 1) := if_pos ⟨hi, h3⟩
      rw [ea] at hq ⊢
      simp at *
      grind
    · have ea : addAt ts (t1, t2, t3, ()) i = ts.take i ++ [(t1, t2, t3, ())] ++ ts.drop i := if_neg (fun h => h3 h.2)
      rw [ea] at hq ⊢
      simp at *
      grind
  · intro n
    show L7_0 k (n + 1) ts.length _ _ _ _ _ _ _ _ _ _ _ _ _ _ _ _ = _
    rw [L7_0_eq]
    specialize hq ts.length
    unfold addRes
    have ea : addAt ts (t1, t2, t3, ()) ts.length = ts.take ts.length ++ [(t1, t2, t3, ())] ++ ts.drop ts.length := if_neg (fun h => absurd h.1 (by omega))
    rw [ea] at hq ⊢
    simp at *
    grind

theorem G6_ok (l : Locale) (t : Term) (hb : bndL 1048576 l) (ht : bndT 1048576 t) : G6 k l t = addOne l t := by
  rw [G6_eq, G10_ok k hk hk2 l hb]
  unfold addOne
  cases hg : good l
  · rfl
  obtain ⟨h12, h6⟩ := good_len hg
  have hb2 := hb
  have e : G22 k l = some (l, ()) := by
    rw [G22_eq, if_pos (by simp; omega), if_pos (by simp; omega)]; rfl
  have hq := fun i => G10_ok k hk hk2 _ (bndL_add hb2 ht h12 i)
  simp only [Option.bind_some, Bool.not_true, e, if_true]
  rw [if_neg (by simp)]
  obtain ⟨l1, ts, rs, l3, l4, ⟨⟩⟩ := l
  obtain ⟨t1, t2, t3, ⟨⟩⟩ := t
  simp only at h12 h6 hq ⊢
  refine loop_scan (fun n i => L6_0 k n i t1 t2 t3 ByteArray.empty ByteArray.empty ByteArray.empty l1 l3 l4 ts rs) ts.length (before ts (t1, t2, t3, ())) (addRes (l1, ts, rs, l3, l4, ()) (t1, t2, t3, ())) ?_ ?_ ?_ k 0 (Nat.zero_le _) (by omega)
  · intro n i hi hp
    show L6_0 k (n + 1) i _ _ _ _ _ _ _ _ _ _ _ = _
    rw [L6_0_eq]
    unfold before at hp
    grind [wsucc]
  · intro n i hi hp
    show L6_0 k (n + 1) i _ _ _ _ _ _ _ _ _ _ _ = _
    rw [L6_0_eq, wsucc (by omega)]
    specialize hq i
    unfold before at hp
    unfold addRes
    by_cases h3 : sEq (ts.getD i dTerm).1 t1 = true
    · have ea : addAt ts (t1, t2, t3, ()) i = ts.set i (t1, t2, t3, ()) := by
        rw [show addAt ts (t1, t2, t3, ()) i = ts.take i ++ [(t1, t2, t3, ())] ++ ts.drop (i + 1) from if_pos ⟨hi, h3⟩, List.set_eq_take_append_cons_drop]
        simp [hi]
      rw [ea] at hq ⊢
      simp at *
      grind
    · have ea : addAt ts (t1, t2, t3, ()) i = ts.take i ++ [(t1, t2, t3, ())] ++ ts.drop i := if_neg (fun h => h3 h.2)
      rw [ea] at hq ⊢
      simp at *
      grind
  · intro n
    show L6_0 k (n + 1) ts.length _ _ _ _ _ _ _ _ _ _ _ = _
    rw [L6_0_eq]
    specialize hq ts.length
    unfold addRes
    have ea : addAt ts (t1, t2, t3, ()) ts.length = ts.take ts.length ++ [(t1, t2, t3, ())] ++ ts.drop ts.length := if_neg (fun h => absurd h.1 (by omega))
    rw [ea] at hq ⊢
    simp at *
    grind

end
end Go.Vm

namespace Go.Vm
open Go.Proofs

/-! ### What is drawn -/
def Pst {α : Type} (Q : α → Prop) (x : Option α) : Prop := ∃ a, x = some a ∧ Q a
theorem Pst.bind {α β : Type} {P : α → Prop} {Q : β → Prop} {x : Option α} {f : α → Option β} (h : Pst P x) (h2 : ∀ a, P a → Pst Q (f a)) : Pst Q (x.bind f) := by
  obtain ⟨a, e, ha⟩ := h
  subst e
  exact h2 a ha
theorem Pst.some {α : Type} {Q : α → Prop} {a : α} (h : Q a) : Pst Q (some a) := ⟨a, rfl, h⟩
theorem Pst.mono {α : Type} {P Q : α → Prop} {x : Option α} (h : Pst P x) (h2 : ∀ a, P a → Q a) : Pst Q x := by
  obtain ⟨a, e, ha⟩ := h
  exact ⟨a, e, h2 a ha⟩

/-- The cursor's code is bytes; the cursor has gone at most 'b' steps. -/
def ok (b : Nat) (c : Cur) : Prop := (∀ i, 0 ≤ c.1.getD i 0 ∧ c.1.getD i 0 ≤ 255) ∧ 0 ≤ c.2.1 ∧ c.2.1 ≤ (b : Int)
theorem ok.mono {b b' : Nat} {c : Cur} (h : ok b c) (hb : b ≤ b') : ok b' c := ⟨h.1, h.2.1, Int.le_trans h.2.2 (by omega)⟩
abbrev Dr {α : Type} (V : α → Prop) (b : Nat) (x : Option ((α × Unit) × (Cur × Unit))) : Prop := Pst (fun r => V r.1.1 ∧ ok b r.2.1) x

theorem and255 (x : Int) : 0 ≤ bits .and .u64 x 255 ∧ bits .and .u64 x 255 ≤ 255 := by
  have h : ((BitVec.ofInt 64 x) &&& (BitVec.ofInt 64 255)).toNat ≤ 255 := by
    rw [BitVec.toNat_and]
    exact Nat.le_trans Nat.and_le_right (by decide)
  have e : bits .and .u64 x 255 = IntKind.wrap .u64 (((BitVec.ofInt 64 x) &&& (BitVec.ofInt 64 255)).toNat : Int) := rfl
  rw [e]
  generalize ((BitVec.ofInt 64 x) &&& (BitVec.ofInt 64 255)).toNat = m at h
  have e2 : IntKind.wrap .u64 (m : Int) = (m : Int) := by simp [IntKind.wrap, IntKind.bits, IntKind.signed]; omega
  rw [e2]; omega

theorem next_ok {b : Nat} {c : Cur} (k : Nat) (h : ok b c) (hb : b ≤ 1000000000) : Dr (fun v : Int => 0 ≤ v ∧ v ≤ 255) (b + 1) (G61 k c) := by
  obtain ⟨h1, h2, h3⟩ := h
  have h4 := h1 c.2.1.toNat
  have h5 := and255
  rw [G61_eq, w64 (n := c.2.1 + 1) (by omega) (by omega), w64 (n := c.1.getD c.2.1.toNat 0) (by omega) (by omega)]
  have hn : ∀ (x : Int), ok (b + 1) (c.1, c.2.1 + 1, x, ()) := fun x => ⟨h1, by show 0 ≤ c.2.1 + 1; omega, by show c.2.1 + 1 ≤ ((b + 1 : Nat) : Int); omega⟩
  by_cases hc : c.2.1 < (c.1.length : Int)
  · rw [if_pos (by simpa using hc), if_pos h2, if_pos hc]
    split
    · exact .some ⟨h4, hn _⟩
    · rw [if_neg (by omega)]
      refine .some ⟨?_, hn _⟩
      rw [w64 (by have := h5 (Int.fdiv (IntKind.wrap .u64 ((IntKind.wrap .u64 ((IntKind.wrap .u64 (c.2.2.1 * (6364136223846793005 : Int))) + (IntKind.wrap .u64 (c.1.getD (c.2.1).toNat (0 : Int))))) + (896896 : Int))) ((2 : Int) ^ (min ((40 : Int)).toNat 64))); omega) (by have := h5 (Int.fdiv (IntKind.wrap .u64 ((IntKind.wrap .u64 ((IntKind.wrap .u64 (c.2.2.1 * (6364136223846793005 : Int))) + (IntKind.wrap .u64 (c.1.getD (c.2.1).toNat (0 : Int))))) + (896896 : Int))) ((2 : Int) ^ (min ((40 : Int)).toNat 64))); omega)]
      exact h5 _
  · rw [if_neg (by simpa using hc)]
    split
    · exact .some ⟨⟨by simp, by simp⟩, hn _⟩
    · rw [if_neg (by omega)]
      refine .some ⟨?_, hn _⟩
      generalize Int.fdiv _ _ = z
      have := h5 z
      show 0 ≤ IntKind.wrap .i64 _ ∧ IntKind.wrap .i64 _ ≤ 255
      rw [w64 (by omega) (by omega)]
      exact this

theorem pick_ok {b : Nat} {c : Cur} (k : Nat) (h : ok b c) (hb : b ≤ 100000000) (n : Int) (hn : n ≤ 60000) : Dr (fun v : Int => 0 ≤ v ∧ (v < n ∨ v = 0)) (b + 2) (G36 k c n) := by
  rw [G36_eq]
  split
  · exact .some ⟨⟨by simp, .inr rfl⟩, h.mono (by omega)⟩
  · rename_i hn1
    have hn1 : ¬ n ≤ 1 := by simpa using hn1
    refine Pst.bind (next_ok k (c := c) h (by omega)) fun r ⟨hr, ho⟩ => ?_
    split
    · refine Pst.bind (next_ok k (c := r.2.1) ho (by omega)) fun r2 ⟨hr2, ho2⟩ => ?_
      rw [if_neg (by omega)]
      refine .some ⟨?_, ho2⟩
      show 0 ≤ Int.tmod _ n ∧ (Int.tmod _ n < n ∨ _)
      rw [w64 (n := r.1.1 * 256) (by omega) (by omega), w64 (by omega) (by omega)]
      exact ⟨Int.tmod_nonneg _ (by omega), .inl (Int.tmod_lt_of_pos _ (by omega))⟩
    · rw [if_neg (by omega)]
      exact .some ⟨⟨Int.tmod_nonneg _ (by omega), .inl (Int.tmod_lt_of_pos _ (by omega))⟩, ho.mono (by omega)⟩

theorem of_ok {b : Nat} {c : Cur} (k : Nat) (h : ok b c) (hb : b ≤ 100000000) (list : List ByteArray) (h0 : 0 < list.length) (h1 : list.length ≤ 60000) (h2 : ∀ s ∈ list, s.size ≤ 100) :
    Dr (fun s : ByteArray => s.size ≤ 100) (b + 2) (G21 k c list) := by
  rw [G21_eq]
  refine Pst.bind (pick_ok k (c := c) h hb _ (by omega)) fun r ⟨hr, ho⟩ => ?_
  rw [if_pos hr.1, if_pos (by omega)]
  refine .some ⟨?_, ho⟩
  have hl : r.1.1.toNat < list.length := by omega
  show (list.getD r.1.1.toNat ByteArray.empty).size ≤ 100
  rw [List.getD_eq_getElem?_getD, List.getElem?_eq_getElem hl]
  exact h2 _ (List.getElem_mem hl)

theorem one_ok {b : Nat} {c : Cur} (k : Nat) (h : ok b c) (hb : b ≤ 100000000) (n : Int) (hn : n ≤ 60000) : Dr (fun _ : Bool => True) (b + 2) (G37 k c n) := by
  rw [G37_eq]
  exact Pst.bind (pick_ok k (c := c) h hb _ hn) fun r ⟨hr, ho⟩ => .some ⟨trivial, ho⟩

theorem among_ok {b : Nat} {c : Cur} (k : Nat) (h : ok b c) (hb : b ≤ 100000000) (list : List Int) (h0 : 0 < list.length) (h1 : list.length ≤ 60000) :
    Dr (fun v : Int => v ∈ list) (b + 2) (G47 k c list) := by
  rw [G47_eq]
  refine Pst.bind (pick_ok k (c := c) h hb _ (by omega)) fun r ⟨hr, ho⟩ => ?_
  rw [if_pos hr.1, if_pos (by omega)]
  refine .some ⟨?_, ho⟩
  have hl : r.1.1.toNat < list.length := by omega
  show list.getD r.1.1.toNat 0 ∈ list
  rw [List.getD_eq_getElem?_getD, List.getElem?_eq_getElem hl]
  exact List.getElem_mem hl

/-! ### A locale -/
theorem bndL_of {m : Nat} {l : Locale} (h1 : l.1.size ≤ m) (h2 : l.2.1.length ≤ m) (h3 : l.2.2.1.length ≤ m) (h4 : l.2.2.2.1.size ≤ m) (h5 : l.2.2.2.2.1.size ≤ m) (h6 : ∀ x ∈ l.2.1, bndT m x) (h7 : ∀ x ∈ l.2.2.1, bndR m x) : bndL m l := by
  refine ⟨h1, h2, h3, h4, h5, bndT_of_mem h6, fun i hi => ?_⟩
  have := h7 (l.2.2.1[i]) (List.getElem_mem hi)
  simpa [hi] using this

section
variable (k : Nat) (hk : 100 ≤ k)

theorem rule_draw {b : Nat} {c : Cur} (h : ok b c) (hb : b ≤ 10000000) {Q : Locale × Unit × Unit → Prop} {β : Type} {P : β → Prop} (f : Rule → Cur → Option β)
    (hf : ∀ r d, r.2.2.1.size ≤ 100 → ok (b + 6) d → Pst P (f r d)) :
    Pst P ((G36 k (c.1, c.2.1, c.2.2.1, ()) (12 : Int)).bind fun (r1 : (Int × Unit) × (Cur × Unit)) =>
  (G36 k (r1.2.1.1, r1.2.1.2.1, r1.2.1.2.2.1, ()) (IntKind.wrap .i64 ((1 : Int) + r1.1.1))).bind fun (r2 : (Int × Unit) × (Cur × Unit)) =>
  (G21 k (r2.2.1.1, r2.2.1.2.1, r2.2.1.2.2.1, ()) ([(⟨#[97]⟩ : ByteArray), (⟨#[53]⟩ : ByteArray), (⟨#[]⟩ : ByteArray), (⟨#[116, 104]⟩ : ByteArray)])).bind fun (r3 : (ByteArray × Unit) × (Cur × Unit)) =>
  f ((IntKind.wrap .i64 ((1 : Int) + r1.1.1)), r2.1.1, r3.1.1, ()) r3.2.1) := by
  refine Pst.bind (pick_ok k (c := c) h (by omega) 12 (by omega)) fun r1 ⟨v1, o1⟩ => ?_
  refine Pst.bind (pick_ok k (c := r1.2.1) o1 (by omega) _ (by rw [w64 (by omega) (by omega)]; omega)) fun r2 ⟨v2, o2⟩ => ?_
  refine Pst.bind (of_ok k (c := r2.2.1) o2 (by omega) _ (by decide) (by decide) (by decide)) fun r3 ⟨v3, o3⟩ => ?_
  exact hf _ _ v3 o3

end
end Go.Vm
