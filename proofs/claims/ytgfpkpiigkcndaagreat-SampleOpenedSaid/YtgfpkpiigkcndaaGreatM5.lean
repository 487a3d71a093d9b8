
/-
  SampleSealed.
-/
import Derived.Test.YtgfpkpiigkcndaaGreatM4
import Derived.Laws.AppendOwn
import Derived.Test.YtgfpkpiigkcndaaGreatRows
import Derived.ProofKit
import Derived.OpenShut
import Derived.Carry
import Derived.Deep.Fields
set_option linter.unusedVariables false
set_option linter.unusedSimpArgs false
set_option linter.deprecated false
namespace Go.Sp
open Go Go.Proofs
/-- A slice of slices that lies apart from some blocks. -/
def RdLP {α : Type} (k : Nat) (enc : α → List Value) (S : List Nat) (w : World) (v : Value) (xss : List (List α)) : Prop := ∃ us : List Sv, (RdS 1 svE w v us ∧ sepS v S) ∧ (us.length = xss.length ∧ ∀ u ∈ us, sepS u.1 S) ∧ ∀ j, j < xss.length → RdS k enc w (us.getD j sv0).1 (xss.getD j [])
theorem RdLN.lp {α : Type} {k : Nat} {enc : α → List Value} {w0 w : World} {v : Value} {xss : List (List α)} (h : RdLN k enc w0 w v xss) {S : List Nat} (hS : ∀ b ∈ S, b < w0.heap.size) : RdLP k enc S w v xss := by
  obtain ⟨us, ⟨h1, h2⟩, ⟨h3, h4⟩, h5⟩ := h
  exact ⟨us, ⟨h1, h2.sepN hS⟩, ⟨h3, fun u hu => (h4 u hu).sepN hS⟩, h5⟩
theorem RdLP.fr {α : Type} {k : Nat} {enc : α → List Value} {S : List Nat} {w w' : World} {v : Value} {xss : List (List α)} (h : RdLP k enc S w v xss) (f : Fr S w w') : RdLP k enc S w' v xss := by
  obtain ⟨us, ⟨h1, h2⟩, ⟨h3, h4⟩, h5⟩ := h
  exact ⟨us, ⟨h1.frS f h2, h2⟩, ⟨h3, h4⟩, fun j hj => (h5 j hj).frS f (h4 _ (getD_memG (by omega)))⟩
theorem RdLP.sub {α : Type} {k : Nat} {enc : α → List Value} {S S' : List Nat} {w : World} {v : Value} {xss : List (List α)} (h : RdLP k enc S w v xss) (hs : ∀ b ∈ S', b ∈ S) : RdLP k enc S' w v xss := by
  obtain ⟨us, ⟨h1, h2⟩, ⟨h3, h4⟩, h5⟩ := h
  exact ⟨us, ⟨h1, fun p m c e hm => h2 p m c e (hs _ hm)⟩, ⟨h3, fun u hu p m c e hm => h4 u hu p m c e (hs _ hm)⟩, h5⟩
theorem RdLP.ll {α : Type} {k : Nat} {enc : α → List Value} {S : List Nat} {w : World} {v : Value} {xss : List (List α)} (h : RdLP k enc S w v xss) : RdLL k enc w v xss := by
  obtain ⟨us, ⟨h1, h2⟩, ⟨h3, h4⟩, h5⟩ := h
  exact ⟨us, h1, h3, h5⟩
theorem HG.lts {bs : List (World × List Nat)} {H : List (Nat × Obj)} {w : World} (hw : HG bs H w) : ∀ b ∈ H.map Prod.fst, b < w.heap.size := fun b hb => by
  obtain ⟨p, hp, rfl⟩ := List.mem_map.1 hb
  exact hw.lt hp
theorem RdLP.opens {α : Type} {k : Nat} {enc : α → List Value} {S : List Nat} {w : World} {n : Nat} {y : Option Addr × Nat} {xss : List (List α)} (h : RdLP k enc S w (slV n y) xss) :
    ∃ b o, ∃ us : List Sv, (0 < xss.length → y.1 = some ⟨b, o, none⟩) ∧ (∀ w', Fr S w w' → ∀ i, i < xss.length → w'.cell? ⟨b, o + i, none⟩ = some (us.getD i sv0).1) ∧ ∀ i, i < xss.length → sepS (us.getD i sv0).1 S ∧ RdS k enc w (us.getD i sv0).1 (xss.getD i []) := by
  obtain ⟨us, ⟨h1, h2⟩, ⟨h3, h4⟩, h5⟩ := h
  obtain ⟨ad, cap, b, o, e, had, hcell⟩ := h1.opens svE_len sv0 h2
  injection e with e1 e2 e3
  subst e1
  rw [h3] at had
  refine ⟨b, o, us, had, fun w' f i hi => ?_, fun i hi => ⟨h4 _ (getD_memG (by omega)), h5 i hi⟩⟩
  have := (hcell w' f i (by omega)).get 0 _ rfl
  rw [Nat.mul_one, Nat.add_zero] at this
  exact this
theorem sepS.sub {v : Value} {S S' : List Nat} (h : sepS v S) (hs : ∀ b ∈ S', b ∈ S) : sepS v S' := fun p m c e hm => h p m c e (hs _ hm)
theorem sepS.own {b n c : Nat} {S : List Nat} (h : b ∉ S) : sepS (.slice (some ⟨b, 0, none⟩) n c) S := fun p m c' e hm => by cases e; exact h hm
theorem rPlay_v {s : Smp} {t : Tth} {q : List (List Int) × List (List Bool)} (hq : playF s t = some q) (hf : Few s) (hv : VSm s) (hl : Lst s t) (tv pv gv hvv avv : Value) (w : World) (hr : RdSm w s tv pv gv) (hrt : RdTh w t hvv avv) :
    CnX Tryz.prog 38 #[smV s tv pv gv, tV hvv avv] w [] (fun y : (Option Addr × Nat) × (Option Addr × Nat) => .tuple #[slV q.1.length y.1, slV q.2.length y.2, .bool true])
      (fun y w' => RdLN 1 inE w w' (slV q.1.length y.1) q.1 ∧ RdLN 1 boE w w' (slV q.2.length y.2) q.2) := by
  have h := rPlay_c s hf hv t hl tv pv gv hvv avv w hr hrt
  rw [hq] at h
  exact h
end Go.Sp
/-
  Appending to an own slice what another one holds, of any length.
-/
namespace Go.Sp
open Go Go.Proofs
theorem e_append_big {P : Program} {N : NN} {F : List (Nat × Value)} {bs : List (World × List Nat)} {H : List (Nat × Obj)} {ty : TypeId} {pos : String} {after : Array Edge} {g : Option (Nat × Bool)} {dd : Tmp} {t e : TypeId} {sz by_ : Nat} [hs : TySlice P t e sz] [hi : TyElem P e sz by_] {x y : Operand} {b len cap : Nat} {old junk : List Value} {H' : List (Nat × Obj)} {xv : Value} {n : Nat} {vs : List Value} (hd : Nat.blt dd N.n = true)
    (hx : evalO F x = some (.slice (some ⟨b, 0, none⟩) len cap)) (hy : evalO F y = some xv) (hdel : HD b (.cells (old ++ junk).toArray e (0, 0)) H H') (hlen : old.length = len * sz) (hcap : junk.length = (cap - len) * sz) (hlc : len ≤ cap)
    (hr : ∀ w, HG bs H w → Reads w xv sz n vs) (h1 : one' vs) (hsm : len + n ≤ 9223372036854775807) (hby : (len + n) * by_ ≤ 140737488355328) :
    OpE P ⟨some dd, .call ⟨.builtin .append, #[x, y], #[t, t]⟩, ty, pos, after, g⟩ N F bs H (fun r : Nat × Nat × List Value => len + n ≤ r.2.1 ∧ r.2.2.length = (r.2.1 - (len + n)) * sz) (fun r => (dd, .slice (some ⟨r.1, 0, none⟩) (len + n) r.2.1) :: F) (fun _ => bs)
      (fun r => (r.1, .cells (old ++ vs ++ r.2.2).toArray e (0, 0)) :: H') := by
  unfold OpE
  intro a w ht hw K Q hK
  obtain ⟨i, z, h1', h2, h3, h4, h5⟩ := hi.info
  have hb := hw.heap _ hdel.mem
  have hsrc : Src P i.size t xv n vs w := by rw [h3]; exact (hr w hw).src h1
  have hvl : vs.length = n * sz := (hr w hw).1
  unfold Oper.wp
  simp only [execOp, resolve, invoke, builtin, Sem.run_bind, Sem.run_pure, Result.andThen, List.map_toArray, List.map_cons, List.map_nil, ht.eval hx, ht.eval hy]
  by_cases hroom : len + n ≤ cap
  · have hsz : (old ++ junk).length = cap * sz := by
      rw [List.length_append, hlen, hcap, ← Nat.add_mul]; congr 1; omega
    have hle : len * sz + n * sz ≤ cap * sz := by rw [← Nat.add_mul]; exact Nat.mul_le_mul_right _ hroom
    obtain ⟨w', c', k1, k2, k3, k4, k5, k6, k7⟩ := storeCells_at (P := P) (b := b) (o := len * sz) (e := e) vs 0 w (old ++ junk).toArray hb (by simp only [List.size_toArray, hsz, hvl]; omega) h1
    have hlt : ∀ j, j < vs.length → len * sz + j < (old ++ junk).length := fun j hj => by rw [hsz]; omega
    have hcc : ∀ j, j < vs.length → (w.cell? ⟨b, 0 + len * i.size + j, none⟩).isSome = true := fun j hj => by
      have := hlt j hj
      simp only [World.cell?, hb, h3, Nat.zero_add]
      simp
      simpa using this
    have hff : ∀ j, j < vs.length → w.frozen? ⟨b, 0 + len * i.size + j, none⟩ = false := fun j hj => by simp [World.frozen?, hb]
    have hrun := run_append_room_src (P := P) w t t ty e i hs.ty h1' b 0 len cap xv n vs hsrc hroom hcc hff
    have hst := run_storeCells_cells (P := P) b (0 + len * i.size) vs 0 w (by simpa using hcc) (by simpa using hff) h1
    simp only [Nat.add_zero, Nat.zero_add, h3] at hst hrun
    rw [k1] at hst
    obtain rfl : w' = w.setCells b (len * sz) vs := by injection hst
    rw [hrun]
    simp only [Sem.run_pure, Result.andThen, Oper.upon]
    have hcells : c' = (old ++ vs ++ junk.drop (n * sz)).toArray := by
      apply Array.ext_getElem?
      intro k
      rw [k7 k]
      simp only [Nat.add_zero, List.getElem?_toArray]
      by_cases hk : len * sz ≤ k ∧ k < len * sz + vs.length
      · rw [if_pos hk, List.append_assoc, List.getElem?_append_right (by omega), List.getElem?_append_left (by omega), hlen]
      · rw [if_neg hk]
        by_cases hk' : k < len * sz
        · rw [List.getElem?_append_left (by omega), List.append_assoc, List.getElem?_append_left (by omega)]
        · rw [List.getElem?_append_right (by omega), List.getElem?_append_right (by simp only [List.length_append]; omega), List.getElem?_drop]
          congr 1
          simp only [List.length_append]
          omega
    subst hcells
    have hhg : HG bs ((b, .cells (old ++ vs ++ junk.drop (n * sz)).toArray e (0, 0)) :: H') (w.setCells b (len * sz) vs) :=
      (hw.perm hdel.perm).set .head ⟨k2, k3, k4, k5⟩
    refine hK (b, cap, junk.drop (n * sz)) _ _ ⟨hroom, ?_⟩ (ht.put hd _) hhg
    simp only [List.length_drop, hcap]
    rw [← Nat.sub_mul]; congr 1; omega
  · have hrun := run_append_grow_src (P := P) w t t ty e i z hs.ty h1' h2 (some ⟨b, 0, none⟩) len cap old (by
      rw [h3]
      refine firstCells_run (w := w.drew) ⟨hlen, _, _, rfl, fun hne => ⟨b, 0, rfl, ?_⟩⟩
      have hca := CA_pre old junk e (0, 0)
      rw [hlen] at hca
      exact hca.cells hb) xv n vs hsrc (by omega) (by omega) (by rw [h4]; exact growslice_fits (by omega) hby)
    rw [hrun]
    simp only [Sem.run_pure, Result.andThen, Oper.upon]
    have hcells : (old ++ vs).toArray ++ Builtin.zeroCells z.cells (grownCap w (len + n) cap e - (len + n)) = (old ++ vs ++ (Builtin.zeroCells z.cells (grownCap w (len + n) cap e - (len + n))).toList).toArray := by apply Array.ext'; simp
    rw [hcells]
    refine hK (w.heap.size, grownCap w (len + n) cap e, (Builtin.zeroCells z.cells (grownCap w (len + n) cap e - (len + n))).toList) _ _ ⟨?_, ?_⟩ (ht.put hd _) ((hw.sub (fun _ h => h) hdel.sub).drew.alloc _)
    · simp [grownCap, Question.cut]
    · simp [Builtin.zeroCells, h5]
end Go.Sp
/-
  SampleMore, walked.
-/
namespace Go.Sp
open Go Go.Proofs
/-- So many sights, and one more, are not too many bytes. -/
def BigOk (n : Nat) : Prop := (n + 1) * 24 ≤ 140737488355328
theorem BigOk.b {n : Nat} {x : Sgt} (h : BigOk n) : (0 + n + [x].length) * 24 ≤ 140737488355328 := Nat.le_trans (Nat.mul_le_mul_right 24 (by rw [List.length_singleton, Nat.zero_add]; exact Nat.le_refl _)) h
theorem BigOk.c {n : Nat} (h : BigOk n) : n + 1 ≤ 9223372036854775807 := Nat.le_trans (Nat.le_mul_of_pos_right _ (by decide)) (Nat.le_trans h (by decide))
theorem flatE_one {α : Type} {enc : α → List Value} (h : ∀ x, one' (enc x)) (xs : List α) : one' (xs.flatMap enc) := fun u hu => by
  obtain ⟨x, _, hx⟩ := List.mem_flatMap.1 hu
  exact h x u hx
end Go.Sp
/-
  Sighted.
-/
namespace Go.Sp
open Go Go.Proofs
theorem y_shr16 {P : Program} {F : List (Nat × Value)} {bs : List (World × List Nat)} {H : List (Nat × Obj)} {d : Option Tmp} {ty : TypeId} {pos : String} {after : Array Edge} {g : Option (Nat × Bool)} {x y : Operand} {t t' : TypeId} {k' : IntKind} {m n : Int} (hx : evalO F x = some (.int .u16 m)) (hy : evalO F y = some (.int k' n)) (hn : 0 ≤ n ∧ n ≤ 15) :
    OpY P ⟨d, .binOp .shr t x y t', ty, pos, after, g⟩ F bs H (.int .u16 (m / 2 ^ n.toNat)) := by
  unfold OpY
  intro N a' w ht hw
  have h0 : ¬ n < 0 := by omega
  have hm : min n.toNat IntKind.u16.bits = n.toNat := by simp only [IntKind.bits]; omega
  have hd : m.fdiv (2 ^ n.toNat) = m / 2 ^ n.toNat := by
    have hp : (0 : Int) ≤ 2 ^ n.toNat := Int.le_of_lt (Int.pow_pos (by omega))
    rw [Int.fdiv_eq_ediv_of_nonneg m hp]
  simp only [execOp, ht.eval hx, ht.eval hy, Sem.run_bind, eqGuard_int, binOp, Op.shift, h0, if_false, hm, Result.andThen, Sem.run_pure, hd]
theorem RdS.app {α : Type} {k : Nat} {enc : α → List Value} (hk : ∀ x, (enc x).length = k) {bs : List (World × List Nat)} {H : List (Nat × Obj)} {w : World} {b c n : Nat} {xs : List α} {x : α} {junk : List Value} {e : TypeId} (hw : HG bs H w) (hm : HM b (.cells ([] ++ xs.flatMap enc ++ [x].flatMap enc ++ junk).toArray e (0, 0)) H) (hn : n = (xs ++ [x]).length) : RdS k enc w (.slice (some ⟨b, 0, none⟩) n c) (xs ++ [x]) := by
  subst hn
  have e1 : [] ++ xs.flatMap enc ++ [x].flatMap enc ++ junk = (xs ++ [x]).flatMap enc ++ junk := by rw [List.nil_append, List.flatMap_append]
  rw [e1] at hm
  exact RdS.own hk hw hm
set_option maxHeartbeats 8000000 in
theorem sighted_c (x : Smp) (hf : Few x) (hv : VSm x) (t : Tth) (hl : Lst x t) (q : List (List Int) × List (List Bool)) (hq : playF x t = some q) (hin : InR x.ps t.hs) (bits : Int) (hbt : 0 ≤ bits ∧ bits ≤ 65535) (tv pv hvv avv : Value) (w : World) (hr : RdSm w x tv pv (.slice none 0 0)) (hrt : RdTh w t hvv avv) :
    CnX Tryz.prog 36 #[smV x tv pv (.slice none 0 0), tV hvv avv, .int .u16 bits] w [] (fun y : List Sgt × (Option Addr × Nat) => smV (sgS x y.1) tv pv (slV y.1.length y.2)) (fun y w' => SgOk x q y.1 ∧ RdS 3 sgE w' (slV y.1.length y.2) y.1 ∧ NewS w (slV y.1.length y.2)) := by
  have hr0 := hr
  have ht0 := hrt
  have hb1 := hv.b1
  have hb3 := hv.b3
  have hl0 := hv.l0
  have hl9 := hv.l9
  have hot := hr.st.one
  have hop := hr.ps.one
  have hql := playN_len hq
  refine cnx0 (vs := [_, _, _]) Tryz.func36 rfl rfl ?_
  all_goals refine tc_seq fun K1 hK1 => ?_; refine tc_region ?_; refine tl_e (e_box rfl rfl rfl) rfl (fun b3 _ => ?_); refine tl_e (e_box rfl rfl rfl) rfl (fun b4 _ => ?_); refine tl_e (e_allocN rfl) rfl (fun b6 _ => ?_); refine tl_nil ?_; ((refine hK1 ?_; try (clear hK1; clear K1)))
  all_goals refine tc_seq fun K2 hK2 => ?_; refine tc_lay ([(b6, .cells #[vi 0, vi 0, vi 0, vi 0, .slice none 0 0, .slice none 0 0, .slice none 0 0] 26 (0, 0)), (b3, .cells #[vi x.B, vi x.P, vi x.L, vi x.F, tv, pv, .slice none 0 0] 26 (0, 0))]) (SB.s (by repeat constructor)) (fun wl1 hl1 => ?_); ((have hn4 : ¬ b4 = b6 ∧ ¬ b4 = b3 := by have hh := hl1.nodup; simp only [List.map_cons, List.map_nil, List.nodup_cons, List.mem_cons, not_or, List.not_mem_nil, not_false_eq_true, and_true] at hh; omega))
  all_goals refine tc_region ?_; refine tl_q (y_loadW rfl (by repeat constructor) (by rfl)) rfl ?_; ((refine tl_q (y_loadWf rfl (hl1.at (by repeat constructor)) (MI.m (by repeat constructor)) (by first | (simp; done) | (simp; omega)) (by rfl)) rfl ?_))
  all_goals refine tl_e (e_callX rfl (.cons rfl (.cons rfl .nil)) (fun w' hw' => (rPlay_v hq hf hv hl _ _ _ _ _ w' (hr0.fr (hw'.fr (w0 := w) (S := []) (MI.m (by repeat constructor)))) (ht0.fr (hw'.fr (w0 := w) (S := []) (MI.m (by repeat constructor))))).imp (val' := fun y : (Option Addr × Nat) × (Option Addr × Nat) => .tuple #[slV q.1.length y.1, slV q.2.length y.2, .bool true]) (p' := fun z w2 => RdLP 1 boE [b6, b3] w2 (slV q.2.length z.2) q.2) id (fun _ => rfl) (fun _ h => h) (fun z w2 _ hp => hp.2.lp (S := [b6, b3]) hw'.lts))) rfl (fun z hz => ?_); refine tl_q (y_move rfl) rfl ?_; refine tl_q (y_extract rfl rfl) rfl ?_; refine tl_q (y_extract rfl rfl) rfl ?_; refine tl_q (y_extract rfl rfl) rfl ?_; refine tl_q (y_assign rfl) rfl ?_; refine tl_q (y_assign rfl) rfl ?_; refine tl_q (y_assign rfl) rfl ?_; refine tl_nil ?_; ((refine hK2 ?_; try (clear hK2; clear K2)))
  all_goals refine tc_seq fun K3 hK3 => ?_; refine tc_seq fun K4 hK4 => ?_; refine tc_region ?_; refine tl_q (y_assign rfl) rfl ?_; refine tl_nil ?_; ((refine hK4 ?_; try (clear hK4; clear K4)))
  all_goals refine tc_block ?_
  all_goals (
   obtain ⟨ub, uo, us, hadu, hcu, hus⟩ := hz.1.opens
   refine tc_loop (fun p : Nat × List Sgt × (Option Addr × Nat) × World => ((p.1 : Int) ≤ x.B ∧ SgOk x q p.2.1) ∧ RdS 3 sgE p.2.2.2 (slV p.2.1.length p.2.2.1) p.2.1 ∧ sepS (slV p.2.1.length p.2.2.1) [b6, b3] ∧ NewS w (slV p.2.1.length p.2.2.1)) (fun p => [(2, .int .u16 bits), (3, ptr b3), (4, ptr b4), (6, ptr b6), (8, slV q.2.length z.1.2), (9, .bool true), (10, vi p.1)]) (fun p => [(p.2.2.2, [b6, b3]), (z.2, [b6, b3]), (wl1, [b6, b3]), (w, [])]) (fun p => [(b6, .cells #[vi 0, vi 0, vi 0, vi 0, .slice none 0 0, .slice none 0 0, .slice none 0 0] 26 (0, 0)), (b3, .cells #[vi x.B, vi x.P, vi x.L, vi x.F, tv, pv, slV p.2.1.length p.2.2.1] 26 (0, 0))]) (fun p => x.B.toNat - p.1) ?_ ?_
   · exact tk_lay [(b6, .cells #[vi 0, vi 0, vi 0, vi 0, .slice none 0 0, .slice none 0 0, .slice none 0 0] 26 (0, 0)), (b3, .cells #[vi x.B, vi x.P, vi x.L, vi x.F, tv, pv, .slice none 0 0] 26 (0, 0))] (SB.s (by repeat constructor)) fun wl2 hl2 => tk_start (0, [], (none, 0), wl2) ⟨⟨by dsimp only; omega, SgOk.nil x q⟩, RdS.nil _ _ _ _, (NewS.nil wl2 0 0).sepN (S := [b6, b3]) hl2.lts, NewS.nil _ _ _⟩ (.cons rfl (.cons rfl (.cons rfl (.cons rfl (.cons rfl (.cons rfl (.cons rfl .nil))))))) (fun _ h => h.subl (SB.s (by repeat constructor)) (SB.s (by repeat constructor)))
   · rintro ⟨b, sg, gvv, wz⟩ ⟨⟨hb, hsg⟩, hgr, hgs, hgn⟩
     dsimp only at hb hsg hgr hgs hgn ⊢
     all_goals refine tc_seq fun K5 hK5 => ?_; refine tc_seq fun K6 hK6 => ?_; refine tc_region ?_; refine tl_q (y_move rfl) rfl ?_; refine tl_q (y_field rfl) rfl ?_; refine tl_q (y_load1 rfl (by repeat constructor) (by rfl)) rfl ?_; refine tl_q (y_lss rfl rfl) rfl ?_; refine tl_q (y_move rfl) rfl ?_; ((refine tl_gs rfl rfl (fun hc => ?_) (fun hc => ?_) <;> (try simp only [decide_eq_true_eq, decide_eq_false_iff_not, Int.not_lt, Int.not_le, Bool.not_eq_true', Bool.not_eq_false', Decidable.not_not, not_true_eq_false] at hc) <;> (first | refine tl_sk rfl rfl rfl rfl ?_ | refine tl_qg rfl rfl (y_move rfl) rfl ?_)))
     all_goals (first | refine tl_q (y_pick_t rfl rfl) rfl ?_ | refine tl_q (y_pick_f rfl rfl) rfl ?_); refine tl_nil ?_; ((refine hK6 ?_; try (clear hK6; clear K6)))
     all_goals (
      refine tc_cond rfl (fun hc => ?_) (fun hc => ?_)
      · try simp only [decide_eq_true_eq, decide_eq_false_iff_not, Int.not_lt, Int.not_le, Bool.not_eq_true', Bool.not_eq_false', Decidable.not_not, not_true_eq_false] at hc
        all_goals ((first | (exfalso; with_reducible exact bft hc) | skip))
        all_goals refine tc_skip ?_; ((refine hK5 ?_; try (clear hK5; clear K5)))
        all_goals refine tc_seq fun K7 hK7 => ?_; refine tc_block ?_; refine tc_seq fun K8 hK8 => ?_; refine tc_region ?_; refine tl_q (y_assign rfl) rfl ?_; refine tl_nil ?_; ((refine hK8 ?_; try (clear hK8; clear K8)))
        all_goals refine tc_block ?_
        all_goals (
         have hb2 : b < q.2.length := by omega
         obtain ⟨hun, hur⟩ := hus b hb2
         obtain ⟨_, _, _, hwlen, _⟩ := truth_run hv hin (play_at hq b (by omega))
         obtain ⟨adn, cpn, bn, on, hen, hadn, hcn⟩ := hur.opens boE_len false hun
         refine tc_loop (fun p : Nat × List Sgt × (Option Addr × Nat) × World => ((p.1 : Int) ≤ x.L + 1 ∧ SgOk x q p.2.1) ∧ RdS 3 sgE p.2.2.2 (slV p.2.1.length p.2.2.1) p.2.1 ∧ sepS (slV p.2.1.length p.2.2.1) [b6, b3] ∧ NewS w (slV p.2.1.length p.2.2.1)) (fun p => [(2, .int .u16 bits), (3, ptr b3), (4, ptr b4), (6, ptr b6), (8, slV q.2.length z.1.2), (9, .bool true), (10, vi b), (11, vi p.1)]) (fun p => [(p.2.2.2, [b6, b3]), (z.2, [b6, b3]), (wl1, [b6, b3]), (w, [])]) (fun p => [(b6, .cells #[vi 0, vi 0, vi 0, vi 0, .slice none 0 0, .slice none 0 0, .slice none 0 0] 26 (0, 0)), (b3, .cells #[vi x.B, vi x.P, vi x.L, vi x.F, tv, pv, slV p.2.1.length p.2.2.1] 26 (0, 0))]) (fun p => (x.L + 1).toNat - p.1) ?_ ?_
         · exact tk_start (0, sg, gvv, wz) ⟨⟨by dsimp only; omega, hsg⟩, hgr, hgs, hgn⟩ (.cons rfl (.cons rfl (.cons rfl (.cons rfl (.cons rfl (.cons rfl (.cons rfl (.cons rfl .nil)))))))) (fun _ h => h.subl (SB.s (by repeat constructor)) (SB.s (by repeat constructor)))
         · clear hsg hgr hgs hgn
           clear gvv sg wz
           rintro ⟨h, sg, gvv, wz⟩ ⟨⟨hh, hsg⟩, hgr, hgs, hgn⟩
           dsimp only at hh hsg hgr hgs hgn ⊢
           have hn6 := hsg.n6
           all_goals refine tc_seq fun K9 hK9 => ?_; refine tc_seq fun K10 hK10 => ?_; refine tc_region ?_; refine tl_q (y_move rfl) rfl ?_; refine tl_q (y_field rfl) rfl ?_; refine tl_q (y_load1 rfl (by repeat constructor) (by rfl)) rfl ?_; refine tl_q (y_leq rfl rfl) rfl ?_; refine tl_nil ?_; ((refine hK10 ?_; try (clear hK10; clear K10)))
           all_goals (
            refine tc_cond rfl (fun hc => ?_) (fun hc => ?_)
            · try simp only [decide_eq_true_eq, decide_eq_false_iff_not, Int.not_lt, Int.not_le, Bool.not_eq_true', Bool.not_eq_false', Decidable.not_not, not_true_eq_false] at hc
              all_goals refine tc_skip ?_; ((refine hK9 ?_; try (clear hK9; clear K9)))
              all_goals refine tc_seq fun K11 hK11 => ?_; refine tc_block ?_; refine tc_seq fun K12 hK12 => ?_; (have hsh : 0 ≤ bits / 2 ^ ((5 * (b : Int) + (h : Int)) % 16).toNat := Int.ediv_nonneg hbt.1 (Int.le_of_lt (Int.pow_pos (by omega))))
              all_goals refine tc_region ?_; refine tl_q (y_move rfl) rfl ?_; refine tl_q (y_move rfl) rfl ?_; refine tl_q (y_mul rfl rfl (by omega)) rfl ?_; refine tl_q (y_move rfl) rfl ?_; refine tl_q (y_add rfl rfl (by omega)) rfl ?_; refine tl_q (y_rem rfl rfl (by omega) (by omega)) rfl ?_; ((refine tl_q (y_conv rfl (by simp only [IntKind.wrap, IntKind.bits, IntKind.signed, Bool.false_and, Bool.true_and, Bool.false_eq_true, if_false, decide_eq_true_eq]; omega)) rfl ?_))
              all_goals (refine tl_q (y_shr16 rfl rfl (by omega)) rfl ?_); refine tl_q (y_rem rfl rfl (by omega) (by omega)) rfl ?_; refine tl_q (y_eql rfl rfl) rfl ?_; refine tl_q (y_move rfl) rfl ?_; ((refine tl_gs rfl rfl (fun hc => ?_) (fun hc => ?_) <;> (try simp only [decide_eq_true_eq, decide_eq_false_iff_not, Int.not_lt, Int.not_le, Bool.not_eq_true', Bool.not_eq_false', Decidable.not_not, not_true_eq_false] at hc) <;> (first | refine tl_sk rfl rfl rfl rfl ?_ | refine tl_qg rfl rfl (y_field rfl) rfl ?_)))
              all_goals (first | refine tl_sk rfl rfl rfl rfl ?_ | refine tl_qg rfl rfl (y_load1 rfl (by repeat constructor) (by rfl)) rfl ?_); (first | refine tl_sk rfl rfl rfl rfl ?_ | refine tl_qg rfl rfl (y_len rfl) rfl ?_); (first | refine tl_sk rfl rfl rfl rfl ?_ | refine tl_qg rfl rfl (y_lss rfl rfl) rfl ?_); (first | refine tl_q (y_pick_t rfl rfl) rfl ?_ | refine tl_q (y_pick_f rfl rfl) rfl ?_); refine tl_nil ?_; ((refine hK12 ?_; try (clear hK12; clear K12)))
              all_goals (
               refine tc_cond rfl (fun hc => ?_) (fun hc => ?_)
               · try simp only [decide_eq_true_eq, decide_eq_false_iff_not, Int.not_lt, Int.not_le, Bool.not_eq_true', Bool.not_eq_false', Decidable.not_not, not_true_eq_false] at hc
                 all_goals ((first | (exfalso; with_reducible exact bft hc) | skip))
                 all_goals (have hs6 : sg.length < 6 := by omega)
                 all_goals refine tc_drawS ([(b6, .cells #[vi 0, vi 0, vi 0, vi 0, .slice none 0 0, .slice none 0 0, .slice none 0 0] 26 (0, 0)), (b3, .cells #[vi x.B, vi x.P, vi x.L, vi x.F, tv, pv, slV sg.length gvv] 26 (0, 0))]) (by kernel_rfl) ?_; refine tx_p 1 rfl (by kernel_rfl) (y_field rfl) rfl (fun _ _ _ h => h) (fun _ h => h.subl (SB.s (by repeat constructor)) (SB.s (by repeat constructor))) ?_; refine tx_qS 2 rfl (by kernel_rfl) (y_load1 rfl (by repeat constructor) (by rfl)) rfl (fun _ _ _ h => h) (fun _ h => h.subl (SB.s (by repeat constructor)) (SB.s (by repeat constructor))) ?_; refine tx_p 4 rfl (by kernel_rfl) (y_move rfl) rfl (fun _ _ _ h => h) (fun _ h => h.subl (SB.s (by repeat constructor)) (SB.s (by repeat constructor))) ?_; refine tx_p 5 rfl (by kernel_rfl) (y_move rfl) rfl (fun _ _ _ h => h) (fun _ h => h.subl (SB.s (by repeat constructor)) (SB.s (by repeat constructor))) ?_; refine tx_p 6 rfl (by kernel_rfl) (y_move rfl) rfl (fun _ _ _ h => h) (fun _ h => h.subl (SB.s (by repeat constructor)) (SB.s (by repeat constructor))) ?_; refine tx_p 7 rfl (by kernel_rfl) (y_move rfl) rfl (fun _ _ _ h => h) (fun _ h => h.subl (SB.s (by repeat constructor)) (SB.s (by repeat constructor))) ?_; refine tx_p 8 rfl (by kernel_rfl) (y_index rfl rfl (by omega) (hadu (by omega))) rfl (fun _ _ _ h => h) (fun _ h => h.subl (SB.s (by repeat constructor)) (SB.s (by repeat constructor))) ?_; ((refine tx_qS 9 rfl (by kernel_rfl) (y_load1o (v := .slice adn (q.2.getD b []).length cpn) rfl (fun w' hw' => by rw [← hen, show Int.toNat (b : Int) * 1 = b from by omega]; exact hcu w' (hw'.fr (w0 := z.2) (S := [b6, b3]) (MI.m (by repeat constructor))) b hb2)) rfl (fun _ _ _ h => h) (fun _ h => h.subl (SB.s (by repeat constructor)) (SB.s (by repeat constructor))) ?_))
                 all_goals refine tx_p 10 rfl (by kernel_rfl) (y_move rfl) rfl (fun _ _ _ h => h) (fun _ h => h.subl (SB.s (by repeat constructor)) (SB.s (by repeat constructor))) ?_; refine tx_p 11 rfl (by kernel_rfl) (y_index rfl rfl (by omega) (hadn (by omega))) rfl (fun _ _ _ h => h) (fun _ h => h.subl (SB.s (by repeat constructor)) (SB.s (by repeat constructor))) ?_; ((refine tx_qS 12 rfl (by kernel_rfl) (y_load1o (v := .bool ((q.2.getD b []).getD h false)) rfl (fun w' hw' => by have hx := (hcn w' (hw'.fr (w0 := z.2) (S := [b6, b3]) (MI.m (by repeat constructor))) h (by omega)).get 0 _ rfl; exact hx)) rfl (fun _ _ _ h => h) (fun _ h => h.subl (SB.s (by repeat constructor)) (SB.s (by repeat constructor))) ?_))
                 all_goals refine tx_p 13 rfl (by kernel_rfl) (y_build_g (by repeat constructor)) rfl (fun _ _ _ h => h) (fun _ h => h.subl (SB.s (by repeat constructor)) (SB.s (by repeat constructor))) ?_
                 all_goals (
                  refine tx_pair 0 14 (by kernel_rfl) ?_ ?_
                  rotate_left
                  focus (
                   (refine to_e rfl rfl (e_bsliceG rfl (.agg rfl rfl .nil) rfl rfl) (.inr ⟨fun _ _ h => h.subl (SB.s (by repeat constructor)) (SB.s (by repeat constructor)), fun _ h => h⟩) (fun b64 _ => ?_))
                   all_goals ((refine tx_single 0 (by kernel_rfl) (to_e rfl rfl (e_bslice rfl (by (repeat (exact .nil)); done) rfl rfl) (.inr ⟨fun _ _ h => h.subl (SB.s (by repeat constructor)) (SB.s (by repeat constructor)), fun _ h => h⟩) (fun b50 _ => ?_))))
                   all_goals (refine tx_single 3 (by kernel_rfl) (to_e rfl rfl (e_append_big (old := []) (junk := []) rfl rfl rfl (by repeat constructor) (by rfl) (by rfl) (Nat.le_refl _) (fun w' hw' => hgr.frS (hw'.fr (w0 := wz) (S := [b6, b3]) (MI.m (by repeat constructor))) hgs) (flatE_one sgE_one _) (by omega) (by omega)) (.inr ⟨fun _ _ h => h.subl (SB.s (by repeat constructor)) (SB.s (by repeat constructor)), fun _ h => h⟩) (fun z9 hz9 => ?_))); ((refine tx_single 15 (by kernel_rfl) (to_e rfl rfl (e_append_big (old := [] ++ sg.flatMap sgE) (junk := z9.2.2) rfl rfl rfl (by repeat constructor) (by rw [List.nil_append, flatS_len sgE_len]; omega) hz9.2 hz9.1 (fun w' hw' => RdS.own0 (xs := [(⟨b, h, (q.2.getD b []).getD h false⟩ : Sgt)]) sgE_len hw' (by repeat constructor)) (flatE_one sgE_one _) (by simp only [List.length_cons, List.length_nil]; omega) (by simp only [List.length_cons, List.length_nil]; omega)) (.inr ⟨fun _ _ h => h.subl (SB.s (by repeat constructor)) (SB.s (by repeat constructor)), fun _ h => h⟩) (fun u9 hu9 => ?_))))
                   all_goals refine tx_p 16 rfl (by kernel_rfl) (y_field rfl) rfl (fun _ _ _ h => h) (fun _ h => h.subl (SB.s (by repeat constructor)) (SB.s (by repeat constructor))) ?_; refine tx_single 17 (by kernel_rfl) (to_e (S' := HG [] []) rfl rfl (e_store1 rfl rfl (by repeat constructor) (by repeat constructor) (by rfl) (by rfl)) (.inl (by kernel_rfl)) (fun _ _ => ?_))
                   all_goals refine tx_done (by kernel_rfl) ?_)
                  rotate_right
                  focus (
                   (refine to_e rfl rfl (e_bslice rfl (by (repeat (exact .nil)); done) rfl rfl) (.inr ⟨fun _ _ h => h.subl (SB.s (by repeat constructor)) (SB.s (by repeat constructor)), fun _ h => h⟩) (fun b50 _ => ?_))
                   all_goals (
                    refine tx_pair 3 14 (by kernel_rfl) ?_ ?_
                    rotate_left
                    focus (
                     (refine to_e rfl rfl (e_bsliceG rfl (.agg rfl rfl .nil) rfl rfl) (.inr ⟨fun _ _ h => h.subl (SB.s (by repeat constructor)) (SB.s (by repeat constructor)), fun _ h => h⟩) (fun b64 _ => ?_))
                     all_goals (refine tx_single 3 (by kernel_rfl) (to_e rfl rfl (e_append_big (old := []) (junk := []) rfl rfl rfl (by repeat constructor) (by rfl) (by rfl) (Nat.le_refl _) (fun w' hw' => hgr.frS (hw'.fr (w0 := wz) (S := [b6, b3]) (MI.m (by repeat constructor))) hgs) (flatE_one sgE_one _) (by omega) (by omega)) (.inr ⟨fun _ _ h => h.subl (SB.s (by repeat constructor)) (SB.s (by repeat constructor)), fun _ h => h⟩) (fun z9 hz9 => ?_))); ((refine tx_single 15 (by kernel_rfl) (to_e rfl rfl (e_append_big (old := [] ++ sg.flatMap sgE) (junk := z9.2.2) rfl rfl rfl (by repeat constructor) (by rw [List.nil_append, flatS_len sgE_len]; omega) hz9.2 hz9.1 (fun w' hw' => RdS.own0 (xs := [(⟨b, h, (q.2.getD b []).getD h false⟩ : Sgt)]) sgE_len hw' (by repeat constructor)) (flatE_one sgE_one _) (by simp only [List.length_cons, List.length_nil]; omega) (by simp only [List.length_cons, List.length_nil]; omega)) (.inr ⟨fun _ _ h => h.subl (SB.s (by repeat constructor)) (SB.s (by repeat constructor)), fun _ h => h⟩) (fun u9 hu9 => ?_))))
                     all_goals refine tx_p 16 rfl (by kernel_rfl) (y_field rfl) rfl (fun _ _ _ h => h) (fun _ h => h.subl (SB.s (by repeat constructor)) (SB.s (by repeat constructor))) ?_; refine tx_single 17 (by kernel_rfl) (to_e (S' := HG [] []) rfl rfl (e_store1 rfl rfl (by repeat constructor) (by repeat constructor) (by rfl) (by rfl)) (.inl (by kernel_rfl)) (fun _ _ => ?_))
                     all_goals refine tx_done (by kernel_rfl) ?_)
                    rotate_right
                    focus (
                     (refine to_e rfl rfl (e_append_big (old := []) (junk := []) rfl rfl rfl (by repeat constructor) (by rfl) (by rfl) (Nat.le_refl _) (fun w' hw' => hgr.frS (hw'.fr (w0 := wz) (S := [b6, b3]) (MI.m (by repeat constructor))) hgs) (flatE_one sgE_one _) (by omega) (by omega)) (.inr ⟨fun _ _ h => h.subl (SB.s (by repeat constructor)) (SB.s (by repeat constructor)), fun _ h => h⟩) (fun z9 hz9 => ?_))
                     all_goals (refine tx_single 14 (by kernel_rfl) (to_e rfl rfl (e_bsliceG rfl (.agg rfl rfl .nil) rfl rfl) (.inr ⟨fun _ _ h => h.subl (SB.s (by repeat constructor)) (SB.s (by repeat constructor)), fun _ h => h⟩) (fun b64 _ => ?_))); ((refine tx_single 15 (by kernel_rfl) (to_e rfl rfl (e_append_big (old := [] ++ sg.flatMap sgE) (junk := z9.2.2) rfl rfl rfl (by repeat constructor) (by rw [List.nil_append, flatS_len sgE_len]; omega) hz9.2 hz9.1 (fun w' hw' => RdS.own0 (xs := [(⟨b, h, (q.2.getD b []).getD h false⟩ : Sgt)]) sgE_len hw' (by repeat constructor)) (flatE_one sgE_one _) (by simp only [List.length_cons, List.length_nil]; omega) (by simp only [List.length_cons, List.length_nil]; omega)) (.inr ⟨fun _ _ h => h.subl (SB.s (by repeat constructor)) (SB.s (by repeat constructor)), fun _ h => h⟩) (fun u9 hu9 => ?_))))
                     all_goals refine tx_p 16 rfl (by kernel_rfl) (y_field rfl) rfl (fun _ _ _ h => h) (fun _ h => h.subl (SB.s (by repeat constructor)) (SB.s (by repeat constructor))) ?_; refine tx_single 17 (by kernel_rfl) (to_e (S' := HG [] []) rfl rfl (e_store1 rfl rfl (by repeat constructor) (by repeat constructor) (by rfl) (by rfl)) (.inl (by kernel_rfl)) (fun _ _ => ?_))
                     all_goals refine tx_done (by kernel_rfl) ?_))))
                 all_goals ((refine hK11 ?_; try (clear hK11; clear K11)))
                 all_goals refine tc_region ?_; refine tl_q (y_move rfl) rfl ?_; refine tl_q (y_add rfl rfl (by omega)) rfl ?_; refine tl_q (y_assign rfl) rfl ?_; refine tl_nil ?_
                 all_goals (
                  first
                  | (have hsn := hsg.snoc hs6 (b := b) (k := h) (by omega) (by omega)
                     have hnl : 0 + sg.length + [(⟨b, h, (q.2.getD b []).getD h false⟩ : Sgt)].length = (sg ++ [(⟨b, h, (q.2.getD b []).getD h false⟩ : Sgt)]).length := by simp
                     refine tk_lay [(b6, .cells #[vi 0, vi 0, vi 0, vi 0, .slice none 0 0, .slice none 0 0, .slice none 0 0] 26 (0, 0)), (b3, .cells #[vi x.B, vi x.P, vi x.L, vi x.F, tv, pv, .slice (some ⟨u9.1, 0, none⟩) (0 + sg.length + [(⟨b, h, (q.2.getD b []).getD h false⟩ : Sgt)].length) u9.2.1] 26 (0, 0))] (SB.s (by repeat constructor)) fun wl9 hl9 => tk_round (h + 1, sg ++ [⟨b, h, (q.2.getD b []).getD h false⟩], (some ⟨u9.1, 0, none⟩, u9.2.1), wl9) ⟨⟨by dsimp only; omega, hsn⟩, RdS.app sgE_len (junk := u9.2.2) (e := 65) hl9 (by repeat constructor) rfl, sepS.own (S := [b6, b3]) ?_, ?_⟩ (by dsimp only; omega) (.cons rfl (.cons rfl (.cons rfl (.cons rfl (.cons rfl (.cons rfl (.cons rfl (.cons rfl .nil)))))))) (fun _ h => by dsimp only; rw [← hnl]; exact h.subl (SB.s (by repeat constructor)) (SB.s (by repeat constructor)))
                     · have hh := hl9.nodup
                       simp only [List.map_cons, List.map_nil, List.nodup_cons, List.mem_cons, not_or, List.not_mem_nil, not_false_eq_true, and_true] at hh ⊢
                       omega
                     · intro p m c e
                       cases e
                       have := hl9.own _ (HM.mem (b := u9.1) (by repeat constructor)) (w, []) (MI.m (by repeat constructor))
                       simpa using this)
                  | exact tk_round (h + 1, sg, gvv, wz) ⟨⟨by dsimp only; omega, hsg⟩, hgr, hgs, hgn⟩ (by dsimp only; omega) (.cons rfl (.cons rfl (.cons rfl (.cons rfl (.cons rfl (.cons rfl (.cons rfl (.cons rfl .nil)))))))) (fun _ h => h.subl (SB.s (by repeat constructor)) (SB.s (by repeat constructor))))
               · try simp only [decide_eq_true_eq, decide_eq_false_iff_not, Int.not_lt, Int.not_le, Bool.not_eq_true', Bool.not_eq_false', Decidable.not_not, not_true_eq_false] at hc
                 all_goals refine tc_skip ?_; ((refine hK11 ?_; try (clear hK11; clear K11)))
                 all_goals refine tc_region ?_; refine tl_q (y_move rfl) rfl ?_; refine tl_q (y_add rfl rfl (by omega)) rfl ?_; refine tl_q (y_assign rfl) rfl ?_; refine tl_nil ?_
                 all_goals (
                  first
                  | (have hsn := hsg.snoc hs6 (b := b) (k := h) (by omega) (by omega)
                     have hnl : 0 + sg.length + [(⟨b, h, (q.2.getD b []).getD h false⟩ : Sgt)].length = (sg ++ [(⟨b, h, (q.2.getD b []).getD h false⟩ : Sgt)]).length := by simp
                     refine tk_lay [(b6, .cells #[vi 0, vi 0, vi 0, vi 0, .slice none 0 0, .slice none 0 0, .slice none 0 0] 26 (0, 0)), (b3, .cells #[vi x.B, vi x.P, vi x.L, vi x.F, tv, pv, .slice (some ⟨u9.1, 0, none⟩) (0 + sg.length + [(⟨b, h, (q.2.getD b []).getD h false⟩ : Sgt)].length) u9.2.1] 26 (0, 0))] (SB.s (by repeat constructor)) fun wl9 hl9 => tk_round (h + 1, sg ++ [⟨b, h, (q.2.getD b []).getD h false⟩], (some ⟨u9.1, 0, none⟩, u9.2.1), wl9) ⟨⟨by dsimp only; omega, hsn⟩, RdS.app sgE_len (junk := u9.2.2) (e := 65) hl9 (by repeat constructor) rfl, sepS.own (S := [b6, b3]) ?_, ?_⟩ (by dsimp only; omega) (.cons rfl (.cons rfl (.cons rfl (.cons rfl (.cons rfl (.cons rfl (.cons rfl (.cons rfl .nil)))))))) (fun _ h => by dsimp only; rw [← hnl]; exact h.subl (SB.s (by repeat constructor)) (SB.s (by repeat constructor)))
                     · have hh := hl9.nodup
                       simp only [List.map_cons, List.map_nil, List.nodup_cons, List.mem_cons, not_or, List.not_mem_nil, not_false_eq_true, and_true] at hh ⊢
                       omega
                     · intro p m c e
                       cases e
                       have := hl9.own _ (HM.mem (b := u9.1) (by repeat constructor)) (w, []) (MI.m (by repeat constructor))
                       simpa using this)
                  | exact tk_round (h + 1, sg, gvv, wz) ⟨⟨by dsimp only; omega, hsg⟩, hgr, hgs, hgn⟩ (by dsimp only; omega) (.cons rfl (.cons rfl (.cons rfl (.cons rfl (.cons rfl (.cons rfl (.cons rfl (.cons rfl .nil)))))))) (fun _ h => h.subl (SB.s (by repeat constructor)) (SB.s (by repeat constructor)))))
            · try simp only [decide_eq_true_eq, decide_eq_false_iff_not, Int.not_lt, Int.not_le, Bool.not_eq_true', Bool.not_eq_false', Decidable.not_not, not_true_eq_false] at hc
              all_goals refine tc_exit ?_; ((refine hK7 ?_; try (clear hK7; clear K7)))
              all_goals refine tc_region ?_; refine tl_q (y_move rfl) rfl ?_; refine tl_q (y_add rfl rfl (by omega)) rfl ?_; refine tl_q (y_assign rfl) rfl ?_; refine tl_nil ?_
              all_goals (
               exact tk_round (b + 1, sg, gvv, wz) ⟨⟨by dsimp only; omega, hsg⟩, hgr, hgs, hgn⟩ (by dsimp only; omega) (.cons rfl (.cons rfl (.cons rfl (.cons rfl (.cons rfl (.cons rfl (.cons rfl .nil))))))) (fun _ h => h.subl (SB.s (by repeat constructor)) (SB.s (by repeat constructor))))))
      · try simp only [decide_eq_true_eq, decide_eq_false_iff_not, Int.not_lt, Int.not_le, Bool.not_eq_true', Bool.not_eq_false', Decidable.not_not, not_true_eq_false] at hc
        all_goals ((first | (exfalso; with_reducible exact btf hc) | skip))
        all_goals refine tc_exit ?_; ((refine hK3 ?_; try (clear hK3; clear K3)))
        all_goals refine tc_seq fun K13 hK13 => ?_; refine tc_region ?_; refine tl_q (y_loadW rfl (by repeat constructor) (by rfl)) rfl ?_; refine tl_e (e_storeW rfl rfl (by repeat constructor) (by rfl) (by rfl) (smV_ones (s := x) hot hop rfl)) rfl (fun _ _ => ?_); refine tl_nil ?_; ((refine hK13 ?_; try (clear hK13; clear K13)))
        all_goals refine tc_ret ?_; (repeat (first | refine tk_then_ret ?_))
        all_goals (refine tk_ret rfl rfl (.cons (.agg inferInstance rfl (by repeat constructor) (by rfl)) .nil) ?_)
        all_goals (
         exact fun w' hw' => ⟨(sg, gvv), rfl, hw'.fr (w0 := w) (S := []) (MI.m (by repeat constructor)), hsg, hgr.frS (hw'.fr (w0 := wz) (S := [b6, b3]) (MI.m (by repeat constructor))) hgs, hgn⟩)))
end Go.Sp
/-
  SampleOpened.
-/
namespace Go.Sp
open Go Go.Proofs
theorem RdS.openV {α : Type} {k : Nat} {enc : α → List Value} {w : World} {n : Nat} {y : Option Addr × Nat} {xs : List α} (h : RdS k enc w (slV n y) xs) (hk : ∀ x, (enc x).length = k) (d : α) :
    ∃ b o, (0 < xs.length → y.1 = some ⟨b, o, none⟩) ∧ ∀ w', Fr [] w w' → ∀ i, i < xs.length → CA (fun n => w'.cell? ⟨b, n, none⟩) (o + i * k) k (enc (xs.getD i d)) := by
  obtain ⟨ad, cap, b, o, e, had, hcell⟩ := h.open hk d
  injection e with e1 e2 e3
  subst e1
  exact ⟨b, o, had, fun w' f i hi => hcell w' [] f (by simp) i hi⟩
def hdAll (s : Smp) (b : Int) (n : Nat) : List Int := (List.range n).flatMap fun (k : Nat) => hdL s b k
theorem hdAll_succ (s : Smp) (b : Int) (n : Nat) : hdAll s b (n + 1) = hdAll s b n ++ hdL s b n := by simp [hdAll, List.range_succ]
theorem hdAll_len {s : Smp} (hv : VSm s) (b : Int) : ∀ n, (hdAll s b n).length ≤ 4 * n
  | 0 => by simp [hdAll]
  | n + 1 => by
    have := hdAll_len hv b n
    have := hdL_len hv b (n : Int)
    rw [hdAll_succ, List.length_append]; omega
theorem opn_all {s : Smp} (hv : VSm s) (hc : consF s = true) {b : Int} (hb : 0 ≤ b ∧ b < s.B) {n : Nat} (hn : (n : Int) = s.L + 1) : ∀ e ∈ opL s b, e ∈ hdAll s b n := fun e hm => by
  obtain ⟨k, hk, h1⟩ := opn_hold hv hc hb e hm
  exact List.mem_flatMap.2 ⟨k, List.mem_range.2 (by omega), h1⟩
set_option maxHeartbeats 8000000 in
theorem sopened_c (s : Smp) (ws : List Int) (hws : ∀ x ∈ ws, 0 ≤ x ∧ x ≤ 255) (hwl : (ws.length : Int) ≤ 9223372036854775807) (n2 : Int) (w2 : 0 ≤ n2 ∧ n2 ≤ 65535) (tv pv gv wv : Value) (w : World) (hr : RdSm w s tv pv gv) (hW : RdW w wv ws) :
    CnV Tryz.prog 6 #[smV s tv pv gv, wv, .int .u16 n2] w (.bool true) := by
  have hr0 := hr
  have hot := hr.st.one
  obtain ⟨adt, cpt, _, _, rfl, _, _⟩ := hr.st.open boE_len false
  obtain ⟨adp, cpp, _, _, rfl, _, _⟩ := hr.ps.open psE_len pas0
  obtain ⟨adg, cpg, _, _, rfl, _, _⟩ := hr.sg.open sgE_len sgt0
  obtain ⟨adw, cpw, _, _, rfl, _, _⟩ := rdkH_open hW
  have hWr : ∀ w', Fr [] w w' → RdW w' (.slice adw ws.length cpw) ws := fun w' f => Reads.frS hW f (by simp)
  refine cnv (vs := [_, _, _]) Tryz.func6 rfl rfl ?_
  all_goals refine tc_seq fun K1 hK1 => ?_; refine tc_region ?_; refine tl_e (e_box rfl rfl rfl) rfl (fun b3 _ => ?_); refine tl_q (y_assign rfl) rfl ?_; refine tl_nil ?_; ((refine hK1 ?_; try (clear hK1; clear K1)))
  all_goals refine tc_seq fun K2 hK2 => ?_; refine tc_seq fun K3 hK3 => ?_; refine tc_lay ([]) (SB.s .nil) (fun wl1 hl1 => ?_); refine tc_region ?_; refine tl_q (y_loadWf rfl (hl1.at (by repeat constructor)) (MI.m (by repeat constructor)) (by simp) (by rfl)) rfl ?_; refine tl_e (e_callV rfl (.cons rfl .nil) (fun w' hw' => ready_c s _ _ _ w' (hr0.fr (hw'.fr (w0 := w) (S := []) (MI.m (by repeat constructor)))))) rfl (fun _ _ => ?_); refine tl_q (y_not_dec rfl) rfl ?_; refine tl_nil ?_; ((refine hK3 ?_; try (clear hK3; clear K3)))
  all_goals (
   refine tc_cond rfl (fun hc => ?_) (fun hc => ?_)
   · try simp only [decide_eq_true_eq, decide_eq_false_iff_not, Int.not_lt, Int.not_le, Bool.not_eq_true', Bool.not_eq_false', Decidable.not_not, not_true_eq_false] at hc
     all_goals refine tc_seq fun K4 hK4 => ?_; refine tc_lay ([]) (SB.s .nil) (fun wl2 hl2 => ?_); refine tc_region ?_; refine tl_e (e_callV rfl .nil (fun w' _ => awake_c w')) rfl (fun _ _ => ?_); refine tl_q (y_assign rfl) rfl ?_; refine tl_nil ?_; ((refine hK4 ?_; try (clear hK4; clear K4)))
     all_goals refine tc_ret ?_; (repeat (refine tk_then_ret ?_))
     all_goals (refine tk_ret rfl rfl (.cons (.tmp rfl) .nil) ?_)
     all_goals (
      exact fun w' hw' => ⟨rfl, hw'.fr (w0 := w) (S := []) (MI.m (by repeat constructor))⟩)
   · try simp only [decide_eq_true_eq, decide_eq_false_iff_not, Int.not_lt, Int.not_le, Bool.not_eq_true', Bool.not_eq_false', Decidable.not_not, not_true_eq_false] at hc
     all_goals refine tc_skip ?_; ((refine hK2 ?_; try (clear hK2; clear K2)))
     all_goals refine tc_seq fun K5 hK5 => ?_; refine tc_lay ([]) (SB.s .nil) (fun wl3 hl3 => ?_); ((have hv := chkS_0.1 hc.2; have hf := hc.1.few; have hb1 := hv.b1; have hb3 := hv.b3; have hp1 := hv.p1; have hp4 := hv.p4; have hl0 := hv.l0; have hl9 := hv.l9))
     all_goals refine tc_region ?_; refine tl_q (y_loadWf rfl (hl1.at (by repeat constructor)) (MI.m (by repeat constructor)) (by simp) (by rfl)) rfl ?_; refine tl_q (y_move rfl) rfl ?_; refine tl_e (e_callX rfl (.cons rfl (.cons rfl .nil)) (fun w' hw' => (happened_c s hf hv ws hws hwl _ _ _ _ w' (hr0.fr (hw'.fr (w0 := w) (S := []) (MI.m (by repeat constructor)))) (hWr w' (hw'.fr (w0 := w) (S := []) (MI.m (by repeat constructor))))).imp (val' := fun y : (Smp × Tth) × (Option Addr × Nat) × (Option Addr × Nat) × (Option Addr × Nat) => .tuple #[smV y.1.1 (.slice adt s.st.length cpt) (slV y.1.1.ps.length y.2.1) (.slice none 0 0), tV (slV y.1.2.hs.length y.2.2.1) (slV y.1.2.ac.length y.2.2.2)]) (p' := fun y w2 => HapOk s y.1.1 y.1.2 ∧ RdS 5 psE w2 (slV y.1.1.ps.length y.2.1) y.1.1.ps ∧ RdTh w2 y.1.2 (slV y.1.2.hs.length y.2.2.1) (slV y.1.2.ac.length y.2.2.2)) id (fun _ => rfl) (fun _ h => h) (fun y w2 _ hp => ⟨hp.1, hp.2.1.1, hp.2.2.1.1, hp.2.2.2.ll⟩))) rfl (fun y hy => ?_); refine tl_q (y_move rfl) rfl ?_; refine tl_q (y_extract rfl rfl) rfl ?_; refine tl_q (y_extract rfl rfl) rfl ?_; refine tl_e (e_allocN rfl) rfl (fun b7 _ => ?_); refine tl_e (e_allocN rfl) rfl (fun b8 _ => ?_); refine tl_e (e_storeW rfl rfl (by repeat constructor) (by rfl) (by rfl) (smV_ones (s := y.1.1.1) rfl rfl rfl)) rfl (fun _ _ => ?_); refine tl_e (e_storeW rfl rfl (by repeat constructor) (by rfl) (by rfl) (two_ones rfl rfl)) rfl (fun _ _ => ?_); refine tl_nil ?_; ((refine hK5 ?_; try (clear hK5; clear K5)))
     all_goals refine tc_seq fun K6 hK6 => ?_; ((obtain ⟨⟨hok, hps, hth⟩, hyw⟩ := hy; obtain ⟨q, hq⟩ := Option.isSome_iff_exists.1 hok.p))
     all_goals ((have hxB : y.1.1.1.B = s.B := hok.B; have hxL : y.1.1.1.L = s.L := hok.L; have hn6 := hok.v.n6))
     all_goals ((have hfx : Few y.1.1.1 := ⟨by rw [hok.st]; exact hf.st, by omega, by rw [hok.sg]; simp⟩))
     all_goals ((have hrx : ∀ w', Fr [] w w' → Fr [] y.2 w' → RdSm w' y.1.1.1 (.slice adt s.st.length cpt) (slV y.1.1.1.ps.length y.1.2.1) (.slice none 0 0) := fun w' f f2 => ⟨by rw [hok.st]; exact hr0.st.fr f, hps.fr f2, by rw [hok.sg]; exact RdS.nil 3 sgE w' 0⟩))
     all_goals refine tc_region ?_; refine tl_q (y_loadW rfl (by repeat constructor) (by rfl)) rfl ?_; refine tl_q (y_loadW rfl (by repeat constructor) (by rfl)) rfl ?_; refine tl_q (y_move rfl) rfl ?_; refine tl_e (e_callX rfl (.cons rfl (.cons rfl (.cons rfl .nil))) (fun w' hw' => (sighted_c y.1.1.1 hfx hok.v y.1.1.2 hok.l q hq hok.r n2 w2 _ _ _ _ w' (hrx w' (hw'.fr (w0 := w) (S := []) (MI.m (by repeat constructor))) (hw'.fr (w0 := y.2) (S := []) (MI.m (by repeat constructor)))) (hth.fr (hw'.fr (w0 := y.2) (S := []) (MI.m (by repeat constructor))))).imp (val' := fun z : List Sgt × (Option Addr × Nat) => smV (sgS y.1.1.1 z.1) (.slice adt s.st.length cpt) (slV y.1.1.1.ps.length y.1.2.1) (slV z.1.length z.2)) (p' := fun z w2 => SgOk y.1.1.1 q z.1 ∧ RdS 3 sgE w2 (slV z.1.length z.2) z.1 ∧ sepS (slV z.1.length z.2) [b8, b7]) id (fun _ => rfl) (fun _ h => h) (fun z w2 _ hp => ⟨hp.1, hp.2.1, hp.2.2.sep hw'⟩))) rfl (fun y4 hy4 => ?_); refine tl_e (e_storeW rfl rfl (by repeat constructor) (by rfl) (by rfl) (smV_ones (s := y.1.1.1) rfl rfl rfl)) rfl (fun _ _ => ?_); refine tl_nil ?_; ((refine hK6 ?_; try (clear hK6; clear K6)))
     all_goals refine tc_seq fun K7 hK7 => ?_; refine tc_seq fun K8 hK8 => ?_; refine tc_lay ([]) (SB.s .nil) (fun wl5 hl5 => ?_); ((obtain ⟨⟨hsg, hgr, hgs⟩, hy4w⟩ := hy4; obtain ⟨sg, hsgd⟩ : ∃ sg, sg = y4.1.1 := ⟨_, rfl⟩; rw [← hsgd] at hsg hgr hgs hl5 ⊢))
     all_goals ((have hg6 := hsg.n6; have hvx : VSm (sgS y.1.1.1 sg) := hsg.vsm hok.v; have hcx : consF (sgS y.1.1.1 sg) = true := truth_cons hvx hok.r (by rw [hsg.play hq]; rfl)))
     all_goals ((have hfx2 : Few (sgS y.1.1.1 sg) := ⟨hfx.st, hfx.ps, by show sg.length ≤ 9; omega⟩))
     all_goals ((have hr5 : RdSm wl5 (sgS y.1.1.1 sg) (.slice adt s.st.length cpt) (slV y.1.1.1.ps.length y.1.2.1) (slV sg.length y4.1.2) := ⟨by show RdS 1 boE wl5 _ y.1.1.1.st; rw [hok.st]; exact hr0.st.fr (hl5.fr (w0 := w) (S := []) (MI.m (by repeat constructor))), hps.fr (hl5.fr (w0 := y.2) (S := []) (MI.m (by repeat constructor))), hgr.frS (hl5.fr (w0 := y4.2) (S := [b8, b7]) (MI.m (by repeat constructor))) hgs⟩))
     all_goals (obtain ⟨gb, go, hadg, hcg⟩ := (show RdS 3 sgE wl5 (slV sg.length y4.1.2) sg from hr5.sg).openV sgE_len sgt0)
     all_goals refine tc_region ?_; refine tl_q (y_assign rfl) rfl ?_; refine tl_nil ?_; ((refine hK8 ?_; try (clear hK8; clear K8)))
     all_goals refine tc_block ?_
     all_goals (
      refine tc_loop (fun b : Nat => (b : Int) ≤ s.B) (fun b => [(7, ptr b7), (8, ptr b8), (9, vi b)]) (fun _ => [(wl5, []), (w, [])]) (fun _ => []) (fun b => s.B.toNat - b) ?_ ?_
      · exact tk_start 0 (by omega) (.cons rfl (.cons rfl (.cons rfl .nil))) (fun _ h => h.subl (SB.s (by repeat constructor)) (SB.s (by repeat constructor)))
      · rintro b hb
        all_goals refine tc_seq fun K9 hK9 => ?_; refine tc_seq fun K10 hK10 => ?_; refine tc_region ?_; refine tl_q (y_move rfl) rfl ?_; refine tl_q (y_field rfl) rfl ?_; refine tl_q (y_load1f rfl (hl5.at (by repeat constructor)) (MI.m (by repeat constructor)) (by simp) (by rfl)) rfl ?_; refine tl_q (y_lss rfl rfl) rfl ?_; refine tl_nil ?_; ((refine hK10 ?_; try (clear hK10; clear K10)))
        all_goals (
         refine tc_cond rfl (fun hc => ?_) (fun hc => ?_)
         · try simp only [decide_eq_true_eq, decide_eq_false_iff_not, Int.not_lt, Int.not_le, Bool.not_eq_true', Bool.not_eq_false', Decidable.not_not, not_true_eq_false] at hc
           all_goals refine tc_skip ?_; ((refine hK9 ?_; try (clear hK9; clear K9)))
           all_goals refine tc_seq fun K11 hK11 => ?_; refine tc_block ?_; refine tc_seq fun K12 hK12 => ?_; ((have hbB : 0 ≤ (b : Int) ∧ (b : Int) < (sgS y.1.1.1 sg).B := ⟨by omega, by show (b : Int) < y.1.1.1.B; omega⟩; have hoe := opE_ok hvx hcx hbB))
           all_goals refine tc_region ?_; refine tl_q (y_loadWf rfl (hl5.at (by repeat constructor)) (MI.m (by repeat constructor)) (by simp) (by rfl)) rfl ?_; refine tl_e (e_callX rfl (.cons rfl .nil) (fun w' hw' => lawSample_c (sgS y.1.1.1 sg) hfx2 _ _ _ w' (hr5.fr (hw'.fr (w0 := wl5) (S := []) (MI.m (by repeat constructor)))))) rfl (fun x8 hx8 => ?_); refine tl_q (y_move rfl) rfl ?_; refine tl_e (e_callX rfl (.cons rfl (.cons rfl .nil)) (fun w' hw' => openersK_v hoe hfx2 _ _ _ w' (hx8.1.fr (hw'.calm hx8.2 (MI.m (by repeat constructor)) (List.Sublist.refl _))))) rfl (fun o8 ho8 => ?_); refine tl_q (y_move rfl) rfl ?_; refine tl_q (y_extract rfl rfl) rfl ?_; refine tl_q (y_extract rfl rfl) rfl ?_; refine tl_q (y_assign rfl) rfl ?_; refine tl_q (y_assign rfl) rfl ?_; refine tl_nil ?_; ((refine hK12 ?_; try (clear hK12; clear K12)))
           all_goals refine tc_seq fun K13 hK13 => ?_; refine tc_seq fun K14 hK14 => ?_; refine tc_region ?_; refine tl_q (y_move rfl) rfl ?_; refine tl_q (y_neq rfl rfl) rfl ?_; refine tl_nil ?_; ((refine hK14 ?_; try (clear hK14; clear K14)))
           all_goals (
            refine tc_cond rfl (fun hc => ?_) (fun hc => ?_)
            · try simp only [decide_eq_true_eq, decide_eq_false_iff_not, Int.not_lt, Int.not_le, Bool.not_eq_true', Bool.not_eq_false', Decidable.not_not, not_true_eq_false] at hc
            · try simp only [decide_eq_true_eq, decide_eq_false_iff_not, Int.not_lt, Int.not_le, Bool.not_eq_true', Bool.not_eq_false', Decidable.not_not, not_true_eq_false] at hc
              all_goals refine tc_skip ?_; ((refine hK13 ?_; try (clear hK13; clear K13)))
              all_goals refine tc_seq fun K16 hK16 => ?_; refine tc_region ?_; refine tl_q (y_assign rfl) rfl ?_; refine tl_nil ?_; ((refine hK16 ?_; try (clear hK16; clear K16)))
              all_goals refine tc_seq fun K17 hK17 => ?_; refine tc_seq fun K18 hK18 => ?_; refine tc_region ?_; refine tl_q (y_assign rfl) rfl ?_; refine tl_nil ?_; ((refine hK18 ?_; try (clear hK18; clear K18)))
              all_goals refine tc_block ?_
              all_goals (
               refine tc_loop (fun p : Nat × Int => (p.1 ≤ sg.length ∧ -1 ≤ p.2 ∧ p.2 ≤ 9) ∧ ∀ g ∈ sg.take p.1, g.b = b → g.h ≤ p.2) (fun p => [(7, ptr b7), (8, ptr b8), (9, vi b), (10, slV (opL (sgS y.1.1.1 sg) b).length o8.1), (12, vi p.2), (13, vi p.1)]) (fun _ => [(o8.2, []), (x8.2, []), (wl5, []), (w, [])]) (fun _ => []) (fun p => sg.length - p.1) ?_ ?_
               · exact tk_start (0, -1) ⟨⟨Nat.zero_le _, by dsimp only; omega, by dsimp only; omega⟩, fun g hg => by cases hg⟩ (.cons rfl (.cons rfl (.cons rfl (.cons rfl (.cons rfl (.cons rfl .nil)))))) (fun _ h => h.subl (SB.s (by repeat constructor)) (SB.s (by repeat constructor)))
               · rintro ⟨i, la⟩ ⟨⟨hi, hla0, hla1⟩, hla⟩
                 dsimp only at hi hla0 hla1 hla ⊢
                 all_goals refine tc_seq fun K19 hK19 => ?_; refine tc_seq fun K20 hK20 => ?_; refine tc_region ?_; refine tl_q (y_move rfl) rfl ?_; refine tl_q (y_field rfl) rfl ?_; refine tl_q (y_load1f rfl (hl5.at (by repeat constructor)) (MI.m (by repeat constructor)) (by simp) (by rfl)) rfl ?_; refine tl_q (y_len rfl) rfl ?_; refine tl_q (y_lss rfl rfl) rfl ?_; refine tl_nil ?_; ((refine hK20 ?_; try (clear hK20; clear K20)))
                 all_goals (
                  refine tc_cond rfl (fun hc => ?_) (fun hc => ?_)
                  · try simp only [decide_eq_true_eq, decide_eq_false_iff_not, Int.not_lt, Int.not_le, Bool.not_eq_true', Bool.not_eq_false', Decidable.not_not, not_true_eq_false] at hc
                    all_goals refine tc_skip ?_; ((refine hK19 ?_; try (clear hK19; clear K19)))
                    all_goals refine tc_seq fun K21 hK21 => ?_; refine tc_block ?_; refine tc_seq fun K22 hK22 => ?_; ((have hcc := fun (w' : World) (f : Fr [] wl5 w') => hcg w' f i (by omega); have hgv := (hsg.v _ (getD_memG (d := sgt0) (n := i) (by omega))).1; have htk := takeG_succ (d := sgt0) (l := sg) (n := i) (by omega)))
                    all_goals refine tc_region ?_; refine tl_q (y_field rfl) rfl ?_; refine tl_q (y_load1f rfl (hl5.at (by repeat constructor)) (MI.m (by repeat constructor)) (by simp) (by rfl)) rfl ?_; refine tl_q (y_move rfl) rfl ?_; refine tl_q (y_index rfl rfl (by omega) (hadg (by omega))) rfl ?_; refine tl_q (y_field rfl) rfl ?_; ((refine tl_q (y_load1o (v := vi (sg.getD i sgt0).b) rfl (fun w' hw' => by rw [show Int.toNat (i : Int) * 3 = i * 3 from by omega]; exact (hcc w' (hw'.fr (w0 := wl5) (S := []) (MI.m (by repeat constructor)))).get 0 _ rfl)) rfl ?_))
                    all_goals refine tl_q (y_move rfl) rfl ?_; refine tl_q (y_eql rfl rfl) rfl ?_; refine tl_nil ?_; ((refine hK22 ?_; try (clear hK22; clear K22)))
                    all_goals (
                     refine tc_cond rfl (fun hc => ?_) (fun hc => ?_)
                     · try simp only [decide_eq_true_eq, decide_eq_false_iff_not, Int.not_lt, Int.not_le, Bool.not_eq_true', Bool.not_eq_false', Decidable.not_not, not_true_eq_false] at hc
                       all_goals refine tc_region ?_; refine tl_q (y_move rfl) rfl ?_; refine tl_q (y_field rfl) rfl ?_; refine tl_q (y_load1f rfl (hl5.at (by repeat constructor)) (MI.m (by repeat constructor)) (by simp) (by rfl)) rfl ?_; refine tl_q (y_move rfl) rfl ?_; refine tl_q (y_index rfl rfl (by omega) (hadg (by omega))) rfl ?_; refine tl_q (y_field rfl) rfl ?_; ((refine tl_q (y_load1o (v := vi (sg.getD i sgt0).h) rfl (fun w' hw' => by rw [show Int.toNat (i : Int) * 3 = i * 3 from by omega]; exact (hcc w' (hw'.fr (w0 := wl5) (S := []) (MI.m (by repeat constructor)))).get 1 _ rfl)) rfl ?_))
                       all_goals refine tl_q (y_max rfl rfl) rfl ?_; refine tl_q (y_assign rfl) rfl ?_; refine tl_nil ?_; ((refine hK21 ?_; try (clear hK21; clear K21)))
                       all_goals refine tc_region ?_; refine tl_q (y_move rfl) rfl ?_; refine tl_q (y_add rfl rfl (by omega)) rfl ?_; refine tl_q (y_assign rfl) rfl ?_; refine tl_nil ?_
                       all_goals (
                        first
                        | (exact tk_round (i + 1, max la (sg.getD i sgt0).h) ⟨⟨by dsimp only; omega, by dsimp only; omega, by dsimp only; omega⟩, fun g hg hgb => by
                             dsimp only at hg ⊢
                             rw [htk] at hg
                             rcases List.mem_append.1 hg with hg | hg
                             · have := hla g hg hgb; omega
                             · obtain rfl := List.mem_singleton.1 hg; omega⟩ (by dsimp only; omega) (.cons rfl (.cons rfl (.cons rfl (.cons rfl (.cons rfl (.cons rfl .nil)))))) (fun _ h => h.subl (SB.s (by repeat constructor)) (SB.s (by repeat constructor))))
                        | (exact tk_round (i + 1, la) ⟨⟨by dsimp only; omega, by dsimp only; omega, by dsimp only; omega⟩, fun g hg hgb => by
                             dsimp only at hg ⊢
                             rw [htk] at hg
                             rcases List.mem_append.1 hg with hg | hg
                             · exact hla g hg hgb
                             · obtain rfl := List.mem_singleton.1 hg; exact absurd hgb (by assumption)⟩ (by dsimp only; omega) (.cons rfl (.cons rfl (.cons rfl (.cons rfl (.cons rfl (.cons rfl .nil)))))) (fun _ h => h.subl (SB.s (by repeat constructor)) (SB.s (by repeat constructor)))))
                     · try simp only [decide_eq_true_eq, decide_eq_false_iff_not, Int.not_lt, Int.not_le, Bool.not_eq_true', Bool.not_eq_false', Decidable.not_not, not_true_eq_false] at hc
                       all_goals refine tc_skip ?_; ((refine hK21 ?_; try (clear hK21; clear K21)))
                       all_goals refine tc_region ?_; refine tl_q (y_move rfl) rfl ?_; refine tl_q (y_add rfl rfl (by omega)) rfl ?_; refine tl_q (y_assign rfl) rfl ?_; refine tl_nil ?_
                       all_goals (
                        first
                        | (exact tk_round (i + 1, max la (sg.getD i sgt0).h) ⟨⟨by dsimp only; omega, by dsimp only; omega, by dsimp only; omega⟩, fun g hg hgb => by
                             dsimp only at hg ⊢
                             rw [htk] at hg
                             rcases List.mem_append.1 hg with hg | hg
                             · have := hla g hg hgb; omega
                             · obtain rfl := List.mem_singleton.1 hg; omega⟩ (by dsimp only; omega) (.cons rfl (.cons rfl (.cons rfl (.cons rfl (.cons rfl (.cons rfl .nil)))))) (fun _ h => h.subl (SB.s (by repeat constructor)) (SB.s (by repeat constructor))))
                        | (exact tk_round (i + 1, la) ⟨⟨by dsimp only; omega, by dsimp only; omega, by dsimp only; omega⟩, fun g hg hgb => by
                             dsimp only at hg ⊢
                             rw [htk] at hg
                             rcases List.mem_append.1 hg with hg | hg
                             · exact hla g hg hgb
                             · obtain rfl := List.mem_singleton.1 hg; exact absurd hgb (by assumption)⟩ (by dsimp only; omega) (.cons rfl (.cons rfl (.cons rfl (.cons rfl (.cons rfl (.cons rfl .nil)))))) (fun _ h => h.subl (SB.s (by repeat constructor)) (SB.s (by repeat constructor))))))
                  · try simp only [decide_eq_true_eq, decide_eq_false_iff_not, Int.not_lt, Int.not_le, Bool.not_eq_true', Bool.not_eq_false', Decidable.not_not, not_true_eq_false] at hc
                    all_goals refine tc_exit ?_; ((refine hK17 ?_; try (clear hK17; clear K17)))
                    all_goals refine tc_seq fun K23 hK23 => ?_; refine tc_region ?_; refine tl_q (y_assign rfl) rfl ?_; refine tl_nil ?_; ((refine hK23 ?_; try (clear hK23; clear K23)))
                    all_goals refine tc_seq fun K24 hK24 => ?_; refine tc_seq fun K25 hK25 => ?_; refine tc_region ?_; refine tl_q (y_assign rfl) rfl ?_; refine tl_nil ?_; ((refine hK25 ?_; try (clear hK25; clear K25)))
                    all_goals refine tc_block ?_
                    all_goals (
                     have hla' : ∀ g ∈ sg, g.b = b → g.h ≤ la := fun g hg => hla g (by rw [take_all2 (by omega)]; exact hg)
                     refine tc_loop (fun p : Nat × OwnB => (p.1 : Int) ≤ s.L + 1 ∧ okE 1 (hdAll (sgS y.1.1.1 sg) b p.1) p.2) (fun p => [(7, ptr b7), (8, ptr b8), (9, vi b), (10, slV (opL (sgS y.1.1.1 sg) b).length o8.1), (12, vi la), (14, ouV (hdAll (sgS y.1.1.1 sg) b p.1).length p.2), (15, vi p.1)]) (fun _ => [(o8.2, []), (x8.2, []), (wl5, []), (w, [])]) (fun p => slE 3 inE (hdAll (sgS y.1.1.1 sg) b p.1) p.2) (fun p => (s.L + 1).toNat - p.1) ?_ ?_
                     · exact tk_start (0, none) ⟨by dsimp only; omega, rfl⟩ (.cons rfl (.cons rfl (.cons rfl (.cons rfl (.cons rfl (.cons rfl (.cons rfl .nil))))))) (fun _ h => by rw [slE_none]; exact h.subl (SB.s (by repeat constructor)) (SB.s (by repeat constructor)))
                     · rintro ⟨k, oo⟩ ⟨hk, hok4⟩
                       dsimp only at hk hok4 ⊢
                       all_goals refine tc_seq fun K26 hK26 => ?_; refine tc_seq fun K27 hK27 => ?_; refine tc_region ?_; refine tl_q (y_move rfl) rfl ?_; refine tl_q (y_field rfl) rfl ?_; refine tl_q (y_load1f rfl (hl5.at (by repeat constructor)) (MI.m (by repeat constructor)) (by simp) (by rfl)) rfl ?_; refine tl_q (y_leq rfl rfl) rfl ?_; refine tl_nil ?_; ((refine hK27 ?_; try (clear hK27; clear K27)))
                       all_goals (
                        refine tc_cond rfl (fun hc => ?_) (fun hc => ?_)
                        · try simp only [decide_eq_true_eq, decide_eq_false_iff_not, Int.not_lt, Int.not_le, Bool.not_eq_true', Bool.not_eq_false', Decidable.not_not, not_true_eq_false] at hc
                          all_goals refine tc_skip ?_; ((refine hK26 ?_; try (clear hK26; clear K26)))
                          all_goals refine tc_seq fun K28 hK28 => ?_; refine tc_block ?_; refine tc_seq fun K29 hK29 => ?_; ((have hkL : (k : Int) ≤ (sgS y.1.1.1 sg).L := (by show (k : Int) ≤ y.1.1.1.L; omega); have hhe := hdE_ok hvx hcx hbB (h := (k : Int)) ⟨by omega, hkL⟩; have hal := hdAll_len hvx (b : Int) k; have hhl := hdL_len hvx (b : Int) (k : Int)))
                          all_goals refine tc_region ?_; refine tl_q (y_loadWf rfl (hl5.at (by repeat constructor)) (MI.m (by repeat constructor)) (by simp) (by rfl)) rfl ?_; refine tl_e (e_callX rfl (.cons rfl .nil) (fun w' hw' => lawSample_c (sgS y.1.1.1 sg) hfx2 _ _ _ w' (hr5.fr (hw'.fr (w0 := wl5) (S := []) (MI.m (by repeat constructor)))))) rfl (fun x21 hx21 => ?_); refine tl_q (y_move rfl) rfl ?_; refine tl_q (y_move rfl) rfl ?_; refine tl_e (e_callX rfl (.cons rfl (.cons rfl (.cons rfl .nil))) (fun w' hw' => holdersK_v hhe hfx2 _ _ _ w' (hx21.1.fr (hw'.calm hx21.2 (MI.m (by repeat constructor)) (List.Sublist.refl _))))) rfl (fun h21 hh21 => ?_); refine tl_q (y_move rfl) rfl ?_; refine tl_q (y_extract rfl rfl) rfl ?_; refine tl_q (y_extract rfl rfl) rfl ?_; refine tl_q (y_assign rfl) rfl ?_; refine tl_q (y_assign rfl) rfl ?_; refine tl_nil ?_; ((refine hK29 ?_; try (clear hK29; clear K29)))
                          all_goals refine tc_seq fun K30 hK30 => ?_; refine tc_seq fun K31 hK31 => ?_; refine tc_region ?_; refine tl_q (y_move rfl) rfl ?_; refine tl_q (y_neq rfl rfl) rfl ?_; refine tl_q (y_move rfl) rfl ?_; refine tl_qg rfl rfl (y_move rfl) rfl ?_; refine tl_qg rfl rfl (y_move rfl) rfl ?_; refine tl_qg rfl rfl (y_gtr rfl rfl) rfl ?_; refine tl_qg rfl rfl (y_move rfl) rfl ?_; ((refine tl_gs rfl rfl (fun hc => ?_) (fun hc => ?_) <;> (try simp only [decide_eq_true_eq, decide_eq_false_iff_not, Int.not_lt, Int.not_le, Bool.not_eq_true', Bool.not_eq_false', Decidable.not_not, not_true_eq_false] at hc) <;> (first | refine tl_sk rfl rfl rfl rfl ?_ | refine tl_qg rfl rfl (y_move rfl) rfl ?_)))
                          all_goals (first | refine tl_sk rfl rfl rfl rfl ?_ | refine tl_qg rfl rfl (y_move rfl) rfl ?_); ((first | refine tl_sk rfl rfl rfl rfl ?_ | refine tl_eg rfl rfl rfl (e_callV rfl (.cons rfl (.cons rfl .nil)) (fun w' hw' => within_v _ _ (late_sub hvx hcx hbB hkL (fun g hg hgb => by have := hla' g hg hgb; omega)) (hdL_len hvx _ _) (by have := opL_len hvx (b : Int); omega) _ _ w' (hh21.1.fr (hw'.calm hh21.2 (MI.m (by repeat constructor)) (List.Sublist.refl _))) (ho8.1.fr (hw'.fr (w0 := o8.2) (S := []) (MI.m (by repeat constructor)))))) (fun _ _ => ?_)))
                          all_goals (first | refine tl_sk rfl rfl rfl rfl ?_ | refine tl_qg rfl rfl (y_not rfl) rfl ?_); (first | refine tl_qg rfl rfl (y_pick_t rfl rfl) rfl ?_ | refine tl_qg rfl rfl (y_pick_f rfl rfl) rfl ?_); refine tl_q (y_pick_f rfl rfl) rfl ?_; refine tl_nil ?_; ((refine hK31 ?_; try (clear hK31; clear K31)))
                          all_goals (
                           refine tc_cond rfl (fun hc => ?_) (fun hc => ?_)
                           · try simp only [decide_eq_true_eq, decide_eq_false_iff_not, Int.not_lt, Int.not_le, Bool.not_eq_true', Bool.not_eq_false', Decidable.not_not, not_true_eq_false] at hc
                             all_goals ((first | (exfalso; with_reducible exact bft hc) | (exfalso; with_reducible exact btf hc)))
                           · try simp only [decide_eq_true_eq, decide_eq_false_iff_not, Int.not_lt, Int.not_le, Bool.not_eq_true', Bool.not_eq_false', Decidable.not_not, not_true_eq_false] at hc
                             all_goals refine tc_skip ?_; ((refine hK30 ?_; try (clear hK30; clear K30)))
                             all_goals refine tc_region ?_; refine tl_q (y_move rfl) rfl ?_; refine tl_q (y_move rfl) rfl ?_; refine tl_e (e_appendE (enc := inE) (xs := hdAll (sgS y.1.1.1 sg) b k) (ys := hdL (sgS y.1.1.1 sg) b k) inE_len inE_one rfl rfl rfl hok4 (fun _ => by repeat constructor) (fun w' hw' => (hh21.1.fr (hw'.calm hh21.2 (MI.m (by repeat constructor)) (List.Sublist.refl _))).toS) (by omega) rfl) rfl (fun oo' hok' => ?_); refine tl_q (y_assign rfl) rfl ?_; refine tl_nil ?_; ((refine hK28 ?_; try (clear hK28; clear K28)))
                             all_goals refine tc_region ?_; refine tl_q (y_move rfl) rfl ?_; refine tl_q (y_add rfl rfl (by omega)) rfl ?_; refine tl_q (y_assign rfl) rfl ?_; refine tl_nil ?_
                             all_goals (
                              have hs := hdAll_succ (sgS y.1.1.1 sg) b k
                              exact tk_round (k + 1, oo') ⟨by dsimp only; omega, by dsimp only; rw [hs]; exact hok'⟩ (by dsimp only; omega) (.cons rfl (.cons rfl (.cons rfl (.cons rfl (.cons rfl (.cons (by dsimp only; rw [hs]; rfl) (.cons rfl .nil))))))) (fun _ h => by dsimp only; rw [hs]; exact h.subl (SB.s (by repeat constructor)) (SB.s (by repeat constructor)))))
                        · try simp only [decide_eq_true_eq, decide_eq_false_iff_not, Int.not_lt, Int.not_le, Bool.not_eq_true', Bool.not_eq_false', Decidable.not_not, not_true_eq_false] at hc
                          all_goals refine tc_exit ?_; ((refine hK24 ?_; try (clear hK24; clear K24)))
                          all_goals refine tc_seq fun K33 hK33 => ?_; refine tc_region ?_; refine tl_q (y_move rfl) rfl ?_; refine tl_q (y_move rfl) rfl ?_; ((refine tl_e (e_callV rfl (.cons rfl (.cons rfl .nil)) (fun w' hw' => within_v _ _ (opn_all hvx hcx hbB (by show (k : Int) = y.1.1.1.L + 1; omega)) (opL_len hvx _) (by have := hdAll_len hvx (b : Int) k; omega) _ _ w' (ho8.1.fr (hw'.fr (w0 := o8.2) (S := []) (MI.m (by repeat constructor)))) (RdS.ofO inE_len hok4 hw' (by repeat constructor)).toI)) rfl (fun _ _ => ?_)))
                          all_goals (refine tl_q (y_not rfl) rfl ?_); refine tl_nil ?_; ((refine hK33 ?_; try (clear hK33; clear K33)))
                          all_goals (
                           refine tc_cond rfl (fun hc => ?_) (fun hc => ?_)
                           · try simp only [decide_eq_true_eq, decide_eq_false_iff_not, Int.not_lt, Int.not_le, Bool.not_eq_true', Bool.not_eq_false', Decidable.not_not, not_true_eq_false] at hc
                             all_goals ((exfalso; with_reducible exact btf hc))
                           · try simp only [decide_eq_true_eq, decide_eq_false_iff_not, Int.not_lt, Int.not_le, Bool.not_eq_true', Bool.not_eq_false', Decidable.not_not, not_true_eq_false] at hc
                             all_goals refine tc_skip ?_; ((refine hK11 ?_; try (clear hK11; clear K11)))
                             all_goals refine tc_region ?_; refine tl_q (y_move rfl) rfl ?_; refine tl_q (y_add rfl rfl (by omega)) rfl ?_; refine tl_q (y_assign rfl) rfl ?_; refine tl_nil ?_
                             all_goals (
                              exact tk_round (b + 1) (by omega) (by omega) (.cons rfl (.cons rfl (.cons rfl .nil))) (fun _ h => h.subl (SB.s (by repeat constructor)) (SB.s (by repeat constructor))))))))))
         · try simp only [decide_eq_true_eq, decide_eq_false_iff_not, Int.not_lt, Int.not_le, Bool.not_eq_true', Bool.not_eq_false', Decidable.not_not, not_true_eq_false] at hc
           all_goals refine tc_exit ?_; ((refine hK7 ?_; try (clear hK7; clear K7)))
           all_goals refine tc_seq fun K35 hK35 => ?_; refine tc_region ?_; refine tl_e (e_callV rfl .nil (fun w' _ => awake_c w')) rfl (fun _ _ => ?_); refine tl_q (y_assign rfl) rfl ?_; refine tl_nil ?_; ((refine hK35 ?_; try (clear hK35; clear K35)))
           all_goals refine tc_ret ?_; (repeat (first | refine tk_then_ret ?_))
           all_goals (refine tk_ret rfl rfl (.cons (.tmp rfl) .nil) ?_)
           all_goals (
            exact fun w' hw' => ⟨rfl, hw'.fr (w0 := w) (S := []) (MI.m (by repeat constructor))⟩))))
end Go.Sp
/-
  From a contract of a law's function to its row: what the arguments read as, and that they read so afterwards.
-/
namespace Go.Sp
open Go Go.Proofs Go.ChangeShapes Go.WideShapes Go.RowKit
section
variable {H : Type} {enc : TypeId × Value → H} {P : Program} {w : World} {base : Nat} {spare : Nat → Bool} {held : Bool}
theorem Fr.kept {W W' : World} (h : Fr [] W W') (p : MemPlace → Prop) : W.keptBut W' p :=
  ⟨h.os, h.output, fun i hi => by
    have e := h.block i hi (by simp)
    rw [e]
    cases hb : W.heap[i]? with
    | none => trivial
    | some o => cases o <;> simp⟩
/-- What is left of a post without 'again'. -/
theorem post_na {f : Func} {s : ChangeSpec} {apart fresh handsOn : Bool} {W W' : World} {args : Array Value} {v : Value} {ds gs : List (DataW H)} {before pa pv : List MemPlace}
    (hW : DataW.Whole enc P f.params.toList s.vars apart W args.toList ds gs before)
    (hres : ∀ (b : Nat) (sp : Nat → Bool) (hd : Bool), DataW.TrodAll enc P W' b sp hd f.resultTypes.toList (v.resultList f.resultTypes.size) (s.fn H (ds ++ gs)).results [])
    (hargs : ∀ sp : Nat → Bool, (∀ p ∈ before, sp p.block = true) → DataW.TrodAll enc P W' 0 sp true f.params.toList args.toList (s.fn H (ds ++ gs)).args pa)
    (hvars : ∀ sp : Nat → Bool, (∀ p ∈ before, sp p.block = true) → DataW.TrodVars enc P W' sp s.vars (s.fn H (ds ++ gs)).vars pv)
    (hps : before = pa ++ pv) (hk : W.keptBut W' (· ∈ before)) : s.post enc P f apart fresh handsOn false W args v W' := by
  have hold : ∀ p ∈ before, (fun b => decide (b < W.heap.size)) p.block = true := fun p hp => by simpa using hW.lt p hp
  refine ⟨ds, gs, before, [], pa, pv, hW, hres _ _ _, hargs _ hold, hvars _ hold, World.keptBut_mono (fun p hp => ⟨hp, ?_⟩) hk, fun h => by cases h⟩
  rw [hps, List.mem_append] at hp
  exact Or.inr hp
theorem all_stays (hl : laidOutB P = true) {W W' : World} {sp : Nat → Bool} (hb : Below W.heap.size W W') : ∀ {ts : List TypeId} {vs : List Value} {ds : List (DataW H)} {ps : List MemPlace}, (ts.all fun t => P.readableRec t && decide (t < P.types.size)) = true →
    DataW.TrodAll enc P W 0 (fun _ => true) true ts vs ds ps → (∀ p ∈ ps, sp p.block = true) → DataW.TrodAll enc P W' 0 sp true ts vs ds ps := by
  intro ts
  induction ts with
  | nil => intro vs ds ps _ h _; cases vs <;> cases ds <;> simp [DataW.TrodAll] at h ⊢; exact h
  | cons t ts ih =>
    intro vs ds ps ht h hs
    have hlt := h.lt
    obtain ⟨v, vs', d, ds', p, q, rfl, rfl, rfl, h1, h2⟩ := trodAll_cons h
    simp only [List.all_cons, Bool.and_eq_true, decide_eq_true_eq] at ht
    exact ⟨p, q, WideElems.Trod_stays hl ht.1.1 ht.1.2 h1 (fun x hx => hb.same (hlt x (List.mem_append_left _ hx))) (fun x hx => hs x (List.mem_append_left _ hx)),
      ih (by simpa using ht.2) h2 (fun x hx => hs x (List.mem_append_right _ hx)), rfl⟩
/-- A slice reads as the cells of its elements, each of which reads. -/
theorem slice_reads {t e : TypeId} {fuel : Nat} {cs : List Value} {x : DataW H × List MemPlace} (ht : P.underlying t = some (.slice e)) (hc : 0 < P.cellsOf e) (h : DataW.trod enc P w base spare held fuel t cs = some x) :
    ∃ ad cap, ∃ ess : List (List Value), cs = [.slice ad ess.length cap] ∧ ess.length ≤ maxLen ∧ Reads w (.slice ad ess.length cap) (P.cellsOf e) ess.length ess.flatten ∧ ∀ es ∈ ess, ∃ m y, DataW.trod enc P w base spare held m e es = some y := by
  rcases DataW.trod_slice ht h with ⟨rfl, _⟩ | ⟨a, len, cap, elems, rest, n, _, rfl, _, hb, hl, hm, hlen, hel, _, _⟩
  · exact ⟨none, 0, [], rfl, Nat.zero_le _, ⟨by simp, none, 0, rfl, fun h => absurd rfl h⟩, by simp⟩
  · -- the cells of each element
    have hone : ∀ i, i < len → ∃ es y, w.cells? base (a.add (i * P.cellsOf e)) (P.cellsOf e) = some es ∧ DataW.trod enc P w base spare held n e es = some y := fun i hi => by
      have h1 := hel i hi
      rw [List.getElem?_eq_getElem (by omega)] at h1
      obtain ⟨es, h2, h3⟩ := Option.bind_eq_some_iff.1 h1
      exact ⟨es, _, h2, h3⟩
    have hadd : ∀ m, a.spot = none → a.add m = ⟨a.block, a.off + m, none⟩ := fun m hs => by
      obtain ⟨b, o, sp⟩ := a
      simp only at hs
      subst hs
      unfold Addr.add; split
      · rename_i h0; subst h0; rfl
      · rfl
    have hsp0 : 0 < len → a.spot = none := fun h0 => by
      obtain ⟨es, y, g1, g2⟩ := hone 0 h0
      obtain ⟨_, hl1, hat⟩ := World.cells?_some g1
      have := hat 0 hc
      rw [List.getElem?_eq_getElem (by omega), Nat.zero_mul, show (a.add 0).add 0 = a from rfl] at this
      unfold World.cell? at this
      split at this
      · split at this
        · cases this
        · rename_i hs; simpa using hs
      · cases this
    have hcell : ∀ k, k ≤ len → ∃ ess : List (List Value), ess.length = k ∧ (∀ es ∈ ess, ∃ m y, DataW.trod enc P w base spare held m e es = some y) ∧ ess.flatten.length = k * P.cellsOf e ∧
        (k ≠ 0 → a.spot = none) ∧ ∀ j v, ess.flatten[j]? = some v → w.cell? ⟨a.block, a.off + j, none⟩ = some v := by
      intro k
      induction k with
      | zero => intro _; exact ⟨[], rfl, by simp, by simp, fun h => absurd rfl h, by simp⟩
      | succ k ih =>
        intro hk
        obtain ⟨ess, h1, h2, h3, h4, h5⟩ := ih (by omega)
        obtain ⟨es, y, g1, g2⟩ := hone k (by omega)
        obtain ⟨_, hl1, hat⟩ := World.cells?_some g1
        have hspot : a.spot = none := hsp0 (by omega)
        refine ⟨ess ++ [es], by simp [h1], fun u hu => ?_, ?_, fun _ => hspot, fun j v hv => ?_⟩
        · rcases List.mem_append.1 hu with hu | hu
          · exact h2 u hu
          · obtain rfl := List.mem_singleton.1 hu; exact ⟨n, y, g2⟩
        · rw [List.flatten_append, List.length_append, h3]; simp [hl1]; rw [Nat.add_mul]; omega
        · rw [List.flatten_append] at hv
          by_cases hj : j < ess.flatten.length
          · rw [List.getElem?_append_left hj] at hv; exact h5 j v hv
          · rw [List.getElem?_append_right (by omega)] at hv
            simp only [List.flatten_cons, List.flatten_nil, List.append_nil] at hv
            have hjl : j - ess.flatten.length < es.length := (List.getElem?_eq_some_iff.1 hv).1
            have := hat (j - ess.flatten.length) (by omega)
            rw [hv, hadd _ hspot] at this
            have e2 : (⟨a.block, a.off + k * P.cellsOf e, none⟩ : Addr).add (j - ess.flatten.length) = ⟨a.block, a.off + j, none⟩ := by
              unfold Addr.add; split
              · rename_i h0; simp only [Addr.mk.injEq, true_and, and_true]; omega
              · simp only [Addr.mk.injEq, true_and, and_true]; omega
            rw [e2] at this
            exact this
    obtain ⟨ess, h1, h2, h3, h4, h5⟩ := hcell len (Nat.le_refl _)
    subst h1
    refine ⟨some a, cap, ess, rfl, by omega, ⟨h3, _, _, rfl, fun hn => ⟨a.block, a.off, ?_, ?_⟩⟩, h2⟩
    · have := h4 hn
      obtain ⟨b, o, sp⟩ := a
      simp only at this
      subst this
      rfl
    · rw [← h3]
      generalize ess.flatten = vs at h5
      have key : ∀ (vs : List Value) (o : Nat), (∀ j v, vs[j]? = some v → w.cell? ⟨a.block, o + j, none⟩ = some v) → CA (fun k => w.cell? ⟨a.block, k, none⟩) o vs.length vs := by
        intro vs
        induction vs with
        | nil => intro o _; exact .nil
        | cons v vs ih => intro o hv; exact .cons (hv 0 v rfl) (ih (o + 1) fun j u hu => by rw [Nat.add_assoc, Nat.add_comm 1 j]; exact hv (j + 1) u hu)
      exact key vs a.off h5
theorem exists_map {α β : Type} {f : α → β} {q : α → Prop} : ∀ (l : List β), (∀ y ∈ l, ∃ x, y = f x ∧ q x) → ∃ xs : List α, l = xs.map f ∧ ∀ x ∈ xs, q x
  | [], _ => ⟨[], rfl, by simp⟩
  | y :: l, h => by
    obtain ⟨x, rfl, hq⟩ := h y List.mem_cons_self
    obtain ⟨xs, rfl, hxs⟩ := exists_map l (fun z hz => h z (List.mem_cons_of_mem _ hz))
    exact ⟨x :: xs, rfl, fun z hz => by rcases List.mem_cons.1 hz with rfl | hz; exact hq; exact hxs z hz⟩
theorem flatten_map_one {α : Type} (f : α → Value) (xs : List α) : (xs.map fun x => [f x]).flatten = xs.map f := by
  induction xs with
  | nil => rfl
  | cons x xs ih => simp [ih]
/-- A slice of integers of one kind. -/
theorem ints_reads {t e : TypeId} {k : IntKind} {fuel : Nat} {cs : List Value} {x : DataW H × List MemPlace} (ht : P.underlying t = some (.slice e)) (he : P.underlying e = some (.int k)) (hc : P.cellsOf e = 1) (h : DataW.trod enc P w base spare held fuel t cs = some x) :
    ∃ sl, ∃ xs : List Int, cs = [sl] ∧ xs.length ≤ maxLen ∧ Reads w sl 1 xs.length (xs.map (Value.int k)) ∧ ∀ n ∈ xs, (Lit.int k n).wf = true := by
  obtain ⟨ad, cap, ess, rfl, hm, hr, hes⟩ := slice_reads ht (by omega) h
  obtain ⟨xs, rfl, hxs⟩ := exists_map (f := fun n : Int => [Value.int k n]) (q := fun n => (Lit.int k n).wf = true) ess (fun es h => by
    obtain ⟨m, y, hy⟩ := hes es h
    obtain ⟨n, rfl, _, hw⟩ := DataW.trod_int he hy
    exact ⟨n, rfl, hw⟩)
  rw [flatten_map_one, hc] at hr
  simp only [List.length_map] at hr hm
  exact ⟨_, xs, by simp, hm, hr, hxs⟩
/-- The fields of a struct. -/
theorem fields_reads {t : TypeId} {fs : Array Field} {fuel : Nat} {cs : List Value} {x : DataW H × List MemPlace} (ht : P.underlying t = some (.struct fs)) (h : DataW.trod enc P w base spare held fuel t cs = some x) :
    cs.length = P.cellsOf t ∧ ∀ (i : Nat) (f : Field), fs[i]? = some f → ∃ m y, DataW.trod enc P w base spare held m f.type ((cs.drop f.offset).take (P.cellsOf f.type)) = some y := by
  obtain ⟨xs, n, _, _, hl, hx, hf⟩ := DataW.trod_struct ht h
  refine ⟨hl, fun i f hi => ?_⟩
  have := hf i f hi
  have hlt : i < fs.size := (Array.getElem?_eq_some_iff.1 hi).1
  rw [List.getElem?_eq_getElem (by omega)] at this
  exact ⟨n, _, this⟩
def flds (enc : TypeId × Value → H) (P : Program) (w : World) (base : Nat) (spare : Nat → Bool) (held : Bool) (cs : List Value) : List Field → Prop
  | [] => True
  | f :: fs => (∃ m y, DataW.trod enc P w base spare held m f.type ((cs.drop f.offset).take (P.cellsOf f.type)) = some y) ∧ flds enc P w base spare held cs fs
theorem fields_list {t : TypeId} {l : List Field} {fuel : Nat} {cs : List Value} {x : DataW H × List MemPlace} (ht : P.underlying t = some (.struct l.toArray)) (h : DataW.trod enc P w base spare held fuel t cs = some x) :
    cs.length = P.cellsOf t ∧ flds enc P w base spare held cs l := by
  obtain ⟨hl, hf⟩ := fields_reads ht h
  refine ⟨hl, ?_⟩
  have key : ∀ l' : List Field, (∀ f ∈ l', f ∈ l) → flds enc P w base spare held cs l' := by
    intro l'
    induction l' with
    | nil => intro _; trivial
    | cons f fs ih =>
      intro hm
      obtain ⟨i, hi, e⟩ := List.getElem_of_mem (hm f List.mem_cons_self)
      exact ⟨hf i f (by simp [hi, e]), ih fun g hg => hm g (List.mem_cons_of_mem _ hg)⟩
  exact key l fun _ h => h
end
end Go.Sp
/-
  What a sample reads as.
-/
namespace Go.Sp
open Go Go.Proofs Go.ChangeShapes Go.WideShapes Go.RowKit
theorem laidTryz : laidOutB Tryz.prog = true := by kernel_rfl
theorem cells_3 : Tryz.prog.cellsOf 3 = 1 := by kernel_rfl
theorem cells_4 : Tryz.prog.cellsOf 4 = 1 := by kernel_rfl
theorem cells_22 : Tryz.prog.cellsOf 22 = 1 := by kernel_rfl
theorem cells_23 : Tryz.prog.cellsOf 23 = 1 := by kernel_rfl
theorem cells_24 : Tryz.prog.cellsOf 24 = 1 := by kernel_rfl
theorem cells_77 : Tryz.prog.cellsOf 77 = 5 := by kernel_rfl
theorem cells_75 : Tryz.prog.cellsOf 75 = 2 := by kernel_rfl
theorem cells_65 : Tryz.prog.cellsOf 65 = 3 := by kernel_rfl
theorem cells_26 : Tryz.prog.cellsOf 26 = 7 := by kernel_rfl
theorem wf64 {n : Int} (h : (Lit.int .i64 n).wf = true) : -9223372036854775808 ≤ n ∧ n ≤ 9223372036854775807 := by
  simpa [Lit.wf, IntKind.min, IntKind.max, IntKind.signed, IntKind.bits] using h
theorem wf16 {n : Int} (h : (Lit.int .u16 n).wf = true) : 0 ≤ n ∧ n ≤ 65535 := by
  simpa [Lit.wf, IntKind.min, IntKind.max, IntKind.signed, IntKind.bits] using h
theorem wf8 {n : Int} (h : (Lit.int .u8 n).wf = true) : 0 ≤ n ∧ n ≤ 255 := by
  simpa [Lit.wf, IntKind.min, IntKind.max, IntKind.signed, IntKind.bits] using h
theorem lenOf {n : Nat} (h : n ≤ maxLen) : (n : Int) ≤ 9223372036854775807 := by
  have : maxLen = 9223372036854775807 := by kernel_rfl
  omega
abbrev Bd (n : Int) : Prop := -9223372036854775808 ≤ n ∧ n ≤ 9223372036854775807
theorem two' {α : Type} {l : List α} (h : l.length = 2) : ∃ a b, l = [a, b] := by
  match l, h with
  | [a, b], _ => exact ⟨a, b, rfl⟩
theorem three' {α : Type} {l : List α} (h : l.length = 3) : ∃ a b c, l = [a, b, c] := by
  match l, h with
  | [a, b, c], _ => exact ⟨a, b, c, rfl⟩
theorem five' {α : Type} {l : List α} (h : l.length = 5) : ∃ a b c d e, l = [a, b, c, d, e] := by
  match l, h with
  | [a, b, c, d, e], _ => exact ⟨a, b, c, d, e, rfl⟩
theorem seven' {α : Type} {l : List α} (h : l.length = 7) : ∃ a b c d e f g, l = [a, b, c, d, e, f, g] := by
  match l, h with
  | [a, b, c, d, e, f, g], _ => exact ⟨a, b, c, d, e, f, g, rfl⟩
theorem flatten_map {α : Type} (enc : α → List Value) (xs : List α) : (xs.map enc).flatten = xs.flatMap enc := rfl
section
variable {H : Type} {enc : TypeId × Value → H} {w : World} {base : Nat} {spare : Nat → Bool} {held : Bool}
theorem bools_reads {fuel : Nat} {cs : List Value} {x : DataW H × List MemPlace} (h : DataW.trod enc Tryz.prog w base spare held fuel 22 cs = some x) :
    ∃ (sl : Value) (l : List Bool), cs = [sl] ∧ RdS 1 boE w sl l ∧ l.length ≤ maxLen := by
  obtain ⟨ad, cap, ess, rfl, hm, hr, hes⟩ := slice_reads Tryz.underlying22 (by rw [cells_4]; decide) h
  obtain ⟨xs, rfl, hxs⟩ := exists_map (f := boE) (q := fun _ => True) ess (fun es h => by
    obtain ⟨m, y, hy⟩ := hes es h
    obtain ⟨b, rfl, _⟩ := DataW.trod_bool Tryz.underlying4 hy
    exact ⟨b, rfl, trivial⟩)
  rw [flatten_map, cells_4] at hr
  simp only [List.length_map] at hr hm
  exact ⟨_, xs, by simp, hr, hm⟩
theorem rng_reads {fuel : Nat} {cs : List Value} {x : DataW H × List MemPlace} (h : DataW.trod enc Tryz.prog w base spare held fuel 75 cs = some x) :
    ∃ a b : Int, cs = [vi a, vi b] ∧ Bd a ∧ Bd b := by
  obtain ⟨hl, hf⟩ := fields_list Tryz.underlying75 h
  rw [cells_75] at hl
  obtain ⟨c0, c1, rfl⟩ := two' hl
  obtain ⟨⟨_, _, f0⟩, ⟨_, _, f1⟩, _⟩ := hf
  rw [cells_3] at f0 f1
  obtain ⟨n0, e0, _, w0⟩ := DataW.trod_int Tryz.underlying3 f0
  obtain ⟨n1, e1, _, w1⟩ := DataW.trod_int Tryz.underlying3 f1
  simp at e0 e1
  subst e0; subst e1
  exact ⟨n0, n1, rfl, wf64 w0, wf64 w1⟩
theorem pas_reads {fuel : Nat} {cs : List Value} {x : DataW H × List MemPlace} (h : DataW.trod enc Tryz.prog w base spare held fuel 77 cs = some x) :
    ∃ p : Pas, cs = psE p := by
  obtain ⟨hl, hf⟩ := fields_list Tryz.underlying77 h
  rw [cells_77] at hl
  obtain ⟨c0, c1, c2, c3, c4, rfl⟩ := five' hl
  obtain ⟨⟨_, _, f0⟩, ⟨_, _, f1⟩, ⟨_, _, f2⟩, ⟨_, _, f3⟩, _⟩ := hf
  rw [cells_3] at f0 f1 f2
  rw [cells_75] at f3
  obtain ⟨n0, e0, _, w0⟩ := DataW.trod_int Tryz.underlying3 f0
  obtain ⟨n1, e1, _, w1⟩ := DataW.trod_int Tryz.underlying3 f1
  obtain ⟨n2, e2, _, w2⟩ := DataW.trod_int Tryz.underlying3 f2
  obtain ⟨a, b, e3, _, _⟩ := rng_reads f3
  simp at e0 e1 e2 e3
  obtain ⟨rfl, rfl⟩ := e3
  subst e0; subst e1; subst e2
  exact ⟨⟨n0, n1, n2, a, b⟩, rfl⟩
theorem sgt_reads {fuel : Nat} {cs : List Value} {x : DataW H × List MemPlace} (h : DataW.trod enc Tryz.prog w base spare held fuel 65 cs = some x) :
    ∃ g : Sgt, cs = sgE g := by
  obtain ⟨hl, hf⟩ := fields_list Tryz.underlying65 h
  rw [cells_65] at hl
  obtain ⟨c0, c1, c2, rfl⟩ := three' hl
  obtain ⟨⟨_, _, f0⟩, ⟨_, _, f1⟩, ⟨_, _, f2⟩, _⟩ := hf
  rw [cells_3] at f0 f1
  rw [cells_4] at f2
  obtain ⟨n0, e0, _, w0⟩ := DataW.trod_int Tryz.underlying3 f0
  obtain ⟨n1, e1, _, w1⟩ := DataW.trod_int Tryz.underlying3 f1
  obtain ⟨b, e2, _⟩ := DataW.trod_bool Tryz.underlying4 f2
  simp at e0 e1 e2
  subst e0; subst e1; subst e2
  exact ⟨⟨n0, n1, b⟩, rfl⟩
theorem pass_reads {fuel : Nat} {cs : List Value} {x : DataW H × List MemPlace} (h : DataW.trod enc Tryz.prog w base spare held fuel 23 cs = some x) :
    ∃ (sl : Value) (l : List Pas), cs = [sl] ∧ RdS 5 psE w sl l ∧ l.length ≤ maxLen := by
  obtain ⟨ad, cap, ess, rfl, hm, hr, hes⟩ := slice_reads Tryz.underlying23 (by rw [cells_77]; decide) h
  obtain ⟨xs, rfl, hxs⟩ := exists_map (f := psE) (q := fun _ => True) ess (fun es h => by
    obtain ⟨m, y, hy⟩ := hes es h
    obtain ⟨p, hp⟩ := pas_reads hy
    exact ⟨p, hp, trivial⟩)
  rw [flatten_map, cells_77] at hr
  simp only [List.length_map] at hr hm
  exact ⟨_, xs, by simp, hr, hm⟩
theorem sgts_reads {fuel : Nat} {cs : List Value} {x : DataW H × List MemPlace} (h : DataW.trod enc Tryz.prog w base spare held fuel 24 cs = some x) :
    ∃ (sl : Value) (l : List Sgt), cs = [sl] ∧ RdS 3 sgE w sl l ∧ l.length ≤ maxLen := by
  obtain ⟨ad, cap, ess, rfl, hm, hr, hes⟩ := slice_reads Tryz.underlying24 (by rw [cells_65]; decide) h
  obtain ⟨xs, rfl, hxs⟩ := exists_map (f := sgE) (q := fun _ => True) ess (fun es h => by
    obtain ⟨m, y, hy⟩ := hes es h
    obtain ⟨p, hp⟩ := sgt_reads hy
    exact ⟨p, hp, trivial⟩)
  rw [flatten_map, cells_65] at hr
  simp only [List.length_map] at hr hm
  exact ⟨_, xs, by simp, hr, hm⟩
theorem smp_reads {fuel : Nat} {cs : List Value} {x : DataW H × List MemPlace} (h : DataW.trod enc Tryz.prog w base spare held fuel 26 cs = some x) :
    ∃ (s : Smp) (tv pv gv : Value), cs = [vi s.B, vi s.P, vi s.L, vi s.F, tv, pv, gv] ∧ RdSm w s tv pv gv := by
  obtain ⟨hl, hf⟩ := fields_list Tryz.underlying26 h
  rw [cells_26] at hl
  obtain ⟨c0, c1, c2, c3, c4, c5, c6, rfl⟩ := seven' hl
  obtain ⟨⟨_, _, f0⟩, ⟨_, _, f1⟩, ⟨_, _, f2⟩, ⟨_, _, f3⟩, ⟨_, _, f4⟩, ⟨_, _, f5⟩, ⟨_, _, f6⟩, _⟩ := hf
  rw [cells_3] at f0 f1 f2 f3
  rw [cells_22] at f4
  rw [cells_23] at f5
  rw [cells_24] at f6
  obtain ⟨n0, e0, _, w0⟩ := DataW.trod_int Tryz.underlying3 f0
  obtain ⟨n1, e1, _, w1⟩ := DataW.trod_int Tryz.underlying3 f1
  obtain ⟨n2, e2, _, w2⟩ := DataW.trod_int Tryz.underlying3 f2
  obtain ⟨n3, e3, _, w3⟩ := DataW.trod_int Tryz.underlying3 f3
  obtain ⟨tv, st, e4, h4, _⟩ := bools_reads f4
  obtain ⟨pv, ps, e5, h5, _⟩ := pass_reads f5
  obtain ⟨gv, sg, e6, h6, _⟩ := sgts_reads f6
  simp at e0 e1 e2 e3 e4 e5 e6
  subst e0; subst e1; subst e2; subst e3; subst e4; subst e5; subst e6
  exact ⟨⟨n0, n1, n2, n3, st, ps, sg⟩, _, _, _, rfl, h4, h5, h6⟩
end
end Go.Sp
