-- WRITTEN BY wip/tools/aprint.py of this claim's repository over the kit's words: not typed by hand
import Derived.Test.YtmmlahckcgjofaaPPowerFollowsx0
namespace Go.Proofs.Ytmmlahckcgjofaa.PPowerFollows
open Go.RowKit Go.Proofs.YtmmlahckcgjofaaW.PrintWords Go.Proofs.YtmmlahckcgjofaaW.PrintLast Go.Proofs.YtmmlahckcgjofaaW.PrintMore
attribute [local go_sem] max2_int min2_int max_two min_two max_three min_three max_four min_four   -- for this text's walks alone
set_option linter.unusedVariables false
set_option linter.unusedSimpArgs false

/-! ### windhoverkeep_Apart: function 12, by hand -/
/-- A list at a block of its own (nil: none): its cells, the room behind it too. -/
def Ow (w : World) (v : Value) (n : Nat) (f : Nat → Int) : Prop :=
 (v = .slice none 0 0 ∧ n = 0) ∨ ∃ (g c : Nat) (cur : Array Value), v = .slice (some ⟨g, 0, none⟩) n c ∧ w.heap[g]? = some (.cells cur 3 (0, 0)) ∧ cur.size = c ∧ n ≤ c ∧ c ≤ maxLen ∧ ∀ q, q < n → cur[q]? = some (.int .i64 (f q))
/-- What a list shows. -/
def Vw (w : World) (v : Value) (n : Nat) (f : Nat → Int) : Prop :=
 (v = .slice none 0 0 ∧ n = 0) ∨ ∃ (g c : Nat) (cur : Array Value), v = .slice (some ⟨g, 0, none⟩) n c ∧ w.heap[g]? = some (.cells cur 3 (0, 0)) ∧ ∀ q, q < n → cur[q]? = some (.int .i64 (f q))
section
variable {w w' : World} {v : Value} {n : Nat} {f f' : Nat → Int}
theorem Ow.vw (h : Ow w v n f) : Vw w v n f := by
 rcases h with h | ⟨g, c, cur, rfl, hg, _, _, _, hq⟩
 ·exact .inl h
 ·exact .inr ⟨g, c, cur, rfl, hg, hq⟩
theorem Ow.heap (h : Ow w v n f) (hh : ∀ b, v.ownBlock = some b → w'.heap[b]? = w.heap[b]?) : Ow w' v n f := by
 rcases h with h | ⟨g, c, cur, rfl, hg, hs⟩
 ·exact .inl h
 ·exact .inr ⟨g, c, cur, rfl, (hh g rfl).trans hg, hs⟩
theorem Vw.heap (h : Vw w v n f) (hh : ∀ b, v.ownBlock = some b → w'.heap[b]? = w.heap[b]?) : Vw w' v n f := by
 rcases h with h | ⟨g, c, cur, rfl, hg, hs⟩
 ·exact .inl h
 ·exact .inr ⟨g, c, cur, rfl, (hh g rfl).trans hg, hs⟩
theorem Ow.to (h : Ow w v n f) (hf : ∀ q, q < n → f q = f' q) : Ow w v n f' := by
 rcases h with h | ⟨g, c, cur, rfl, hg, h1, h2, h3, hq⟩
 ·exact .inl h
 ·exact .inr ⟨g, c, cur, rfl, hg, h1, h2, h3, fun q hl => by rw [← hf q hl]; exact hq q hl⟩
theorem Ow.slice (h : Ow w v n f) : ∃ A c, v = .slice A n c := by
 rcases h with ⟨rfl, rfl⟩ | ⟨g, c, cur, rfl, _⟩
 ·exact ⟨none, 0, rfl⟩
 ·exact ⟨_, c, rfl⟩
theorem Vw.slice (h : Vw w v n f) : ∃ A c, v = .slice A n c := by
 rcases h with ⟨rfl, rfl⟩ | ⟨g, c, cur, rfl, _⟩
 ·exact ⟨none, 0, rfl⟩
 ·exact ⟨_, c, rfl⟩
theorem Ow.le (h : Ow w v n f) : n ≤ maxLen := by
 rcases h with ⟨_, rfl⟩ | ⟨g, c, cur, _, _, _, h2, h3, _⟩
 ·exact Nat.zero_le _
 ·exact Nat.le_trans h2 h3
theorem Ow.lt (h : Ow w v n f) : ∀ b, v.ownBlock = some b → b < w.heap.size := by
 intro b hb
 rcases h with ⟨rfl, _⟩ | ⟨g, c, cur, rfl, hg, _⟩
 ·simp [Value.ownBlock] at hb
 ·simp [Value.ownBlock] at hb
  subst hb
  exact (Array.getElem?_eq_some_iff.1 hg).1
/-- Element q of what a list shows. -/
theorem Vw.at (h : Vw w v n f) (q : Nat) (hq : q < n) : ∃ (g c : Nat), v = .slice (some ⟨g, 0, none⟩) n c ∧ w.cell? ⟨g, q, none⟩ = some (.int .i64 (f q)) ∧ w.frozen? ⟨g, q, none⟩ = false := by
 rcases h with ⟨_, rfl⟩ | ⟨g, c, cur, rfl, hg, hs⟩
 ·exact absurd hq (Nat.not_lt_zero _)
 ·exact ⟨g, c, rfl, (blk_cell hg q).trans (hs q hq), blk_frozen hg q⟩
/-- A list of its own, one element written. -/
theorem Ow.put {g c : Nat} (h : Ow w (.slice (some ⟨g, 0, none⟩) n c) n f) (q : Nat) (x : Int) : Ow (w.setCell ⟨g, q, none⟩ (.int .i64 x)) (.slice (some ⟨g, 0, none⟩) n c) n (fun j => if j = q then x else f j) := by
 rcases h with ⟨h, _⟩ | ⟨g', c', cur, he, hg, h1, h2, h3, hq⟩
 ·cases h
 ·cases he
  refine .inr ⟨g, c, _, rfl, blk_set hg q (.int .i64 x), by simpa using h1, h2, h3, fun j hj => ?_⟩; rw [Array.getElem?_setIfInBounds]
  by_cases hqj : q = j
  ·subst hqj
   rw [if_pos rfl, if_pos (by omega)]
   simp
  ·rw [if_neg hqj, hq j hj]
   have : ¬ j = q := fun e => hqj e.symm
   simp [this]
end
theorem set_heap {w : World} {p : Addr} {u : Value} (b : Nat) (h : b ≠ p.block) : (w.setCell p u).heap[b]? = w.heap[b]? := by
 simp [World.setCell, Array.getElem?_modify, Ne.symm h]
/-- What a world keeps of another one: all that is in none of the lists' own blocks. -/
structure Fr (m : Nat) (V : Nat → Value) (w0 w : World) : Prop where
 os : w.os = w0.os
 tape : w.tape = w0.tape
 output : w.output = w0.output
 size : w0.heap.size ≤ w.heap.size
 block : ∀ b, b < w0.heap.size → (∀ j, j < m → (V j).ownBlock ≠ some b) → w.heap[b]? = w0.heap[b]?
theorem Fr.refl (m : Nat) (V : Nat → Value) (w : World) : Fr m V w w := ⟨rfl, rfl, rfl, Nat.le_refl _, fun _ _ _ => rfl⟩
theorem Fr.below {m : Nat} {V : Nat → Value} {w0 w : World} (h : Fr m V w0 w) {B : Nat} (hB : B ≤ w0.heap.size) (hV : ∀ j, j < m → ∀ b, (V j).ownBlock = some b → B ≤ b) : Below B w0 w :=
 ⟨h.os, h.tape, h.output, h.size, fun b hb => h.block b (Nat.lt_of_lt_of_le hb hB) (fun j hj he => by have := hV j hj b he; omega)⟩
/-- One element is appended to a list of its own. -/
theorem ap_run {P : Program} (w : World) (t ty : TypeId) (i : TypeInfo) (ht : P.underlying t = some (.slice 3)) (hi : P.info? 3 = some i) (hz : i.zero = some (.int .i64 0)) (hs : i.size = 1) (hby : i.bytes = 8)
  {v : Value} {n : Nat} {f : Nat → Int} (ho : Ow w v n f) {ad : Addr} {c : Nat} {x : Int} (hx : w.cell? ad = some (.int .i64 x)) (hn : n < 4294967296) :
  ∃ v' w', (Builtin.append_ #[t, t] ty #[v, .slice (some ad) 1 c]).run P w = .ok v' w' ∧ Ow w' v' (n + 1) (fun q => if q = n then x else f q) ∧ w'.os = w.os ∧ w'.tape = w.tape ∧ w'.output = w.output ∧ w.heap.size ≤ w'.heap.size ∧
   (∀ b, b < w.heap.size → v.ownBlock ≠ some b → w'.heap[b]? = w.heap[b]?) ∧ (v'.ownBlock = v.ownBlock ∨ ∃ b, v'.ownBlock = some b ∧ w.heap.size ≤ b) ∧
   (∀ u m f', Vw w u m f' → m ≤ n → Vw w' u m f') := by
 have hml : (4294967296 : Nat) < maxLen := by simp [maxLen]
 have hnews : ∀ j u, [Value.int .i64 x][j]? = some u → w.cell? (ad.add j) = some u := by
  intro j u hj
  cases j with
  | zero => simp at hj; subst hj; rw [show ad.add 0 = ad by cases ad with | mk b o s => unfold Addr.add; split <;> simp_all]; exact hx
  | succ j => simp at hj
 rcases ho with ⟨rfl, rfl⟩ | ⟨g, cp, cur, rfl, hg, hcs, hnc, hcm, hq⟩
 ·have hr := run_append_nil (P := P) w t ty 3 i _ ht hi hz ad 1 c [.int .i64 x] (by simp [hs]) hnews (by omega) (by omega) (by rw [hby]; omega)
  refine ⟨_, _, hr, .inr ⟨w.heap.size, _, _, rfl, heap_alloc_new w.drew _, ?_, grownCap_ge w 1 0 3, grownCap_le_maxLen w 1 0 3 (by omega), fun q hl => ?_⟩, rfl, rfl, rfl, by simp, fun b hb _ => heap_alloc_old w.drew _ hb, .inr ⟨w.heap.size, rfl, Nat.le_refl _⟩, fun u m f' h _ => h.heap fun b hb => ?_⟩
  ·have := grownCap_ge w 1 0 3
   simp [size_zeroCells, Value.cells]; omega
  ·obtain rfl : q = 0 := by omega
   rw [Array.getElem?_append_left (by simp)]
   simp
  ·have hlt : b < w.heap.size := by
    rcases h with ⟨rfl, _⟩ | ⟨g, c, cur, rfl, hg, _⟩
    ·simp [Value.ownBlock] at hb
    ·simp [Value.ownBlock] at hb
     subst hb
     exact (Array.getElem?_eq_some_iff.1 hg).1
   exact heap_alloc_old w.drew _ hlt
 ·have hvlt : ∀ u m f', Vw w u m f' → ∀ b, u.ownBlock = some b → b < w.heap.size := by
   intro u m f' h b hb
   rcases h with ⟨rfl, _⟩ | ⟨g, c, cur, rfl, hg, _⟩
   ·simp [Value.ownBlock] at hb
   ·simp [Value.ownBlock] at hb
    subst hb
    exact (Array.getElem?_eq_some_iff.1 hg).1
  have htl : (cur.toList.take n).length = n := by simp; omega
  have hold : ∀ j u, (cur.toList.take n)[j]? = some u → w.cell? ((⟨g, 0, none⟩ : Addr).add j) = some u := by
   intro j u hj; rw [add_plain, blk_cell hg]; rw [List.getElem?_take] at hj
   split at hj
   ·simpa using hj
   ·cases hj
  by_cases hroom : n + 1 ≤ cp
  ·have hr := run_append_room (P := P) w t ty 3 i ht hi g n cp cur hg ad 1 c [.int .i64 x] (by simp [hs]) hnews (by simp [Value.oneCell']) hroom (by simp [hs]; omega)
   rw [hs] at hr; simp only [Nat.mul_one, List.length_cons, List.length_nil, Nat.zero_add] at hr
   have hget : ∀ q, q ≤ n → ((cur.toList.take n ++ [Value.int .i64 x] ++ cur.toList.drop (n + 1)).toArray)[q]? = if q = n then some (.int .i64 x) else cur[q]? := by
    intro q hl; rw [List.getElem?_toArray, List.append_assoc]
    by_cases hqn : q = n
    ·subst hqn
     rw [if_pos rfl, List.getElem?_append_right (by omega), htl]
     simp
    ·rw [if_neg hqn, List.getElem?_append_left (by omega), List.getElem?_take, if_pos (by omega)]
     simp
   have hset := setRow_heap w g cur (cur.toList.take n ++ [Value.int .i64 x] ++ cur.toList.drop (n + 1)).toArray 3 (0, 0) hg; refine ⟨_, _, hr, .inr ⟨g, cp, _, rfl, hset, ?_, hroom, hcm, fun q hl => ?_⟩, rfl, rfl, rfl, by simp [World.setRow], fun b _ hb => setRow_other w g b _ (fun e => hb (by simp [Value.ownBlock, e])), .inl rfl, fun u m f' h hm => ?_⟩
   ·simp; omega
   ·rw [hget q (by omega)]
    by_cases hqn : q = n
    ·rw [if_pos hqn]; simp [hqn]
    ·rw [if_neg hqn, hq q (by omega)]; simp [hqn]
   ·rcases h with h | ⟨g', c', cur', rfl, hg', hq'⟩
    ·exact .inl h
    ·by_cases hgg : g' = g
     ·subst hgg
      rw [hg] at hg'; injection hg' with hg'; injection hg' with hg' _ _; subst hg'; refine .inr ⟨g', c', _, rfl, hset, fun q hl => ?_⟩; rw [hget q (by omega), if_neg (by omega)]
      exact hq' q hl
     ·exact .inr ⟨g', c', cur', rfl, (setRow_other w g g' _ (fun e => hgg e)).trans hg', hq'⟩
  ·have hr := run_append_grow (P := P) w t ty 3 i _ ht hi hz ⟨g, 0, none⟩ n cp (cur.toList.take n) (by rw [htl, hs]; omega) hold ad 1 c [.int .i64 x] (by simp [hs]) hnews (by omega) (by omega) (growslice_fits (by omega) (by rw [hby]; omega))
   have hge := grownCap_ge w (n + 1) cp 3; refine ⟨_, _, hr, .inr ⟨w.heap.size, _, _, rfl, heap_alloc_new w.drew _, ?_, hge, grownCap_le_maxLen w (n + 1) cp 3 (by omega), fun q hl => ?_⟩, rfl, rfl, rfl, by simp, fun b hb _ => heap_alloc_old w.drew _ hb, .inr ⟨w.heap.size, rfl, Nat.le_refl _⟩, fun u m f' h _ => h.heap fun b hb => heap_alloc_old w.drew _ (hvlt u m f' h b hb)⟩
   ·simp [size_zeroCells, Value.cells]; omega
   ·have e1 : ((cur.toList.take n).toArray ++ [Value.int .i64 x].toArray ++ Builtin.zeroCells (Value.int .i64 0).cells (grownCap w (n + 1) cp 3 - (n + 1)))[q]? = if q = n then some (.int .i64 x) else cur[q]? := by
     by_cases hqn : q = n
     ·subst hqn
      rw [if_pos rfl, Array.getElem?_append_left (by simp; omega), Array.getElem?_append_right (by simp; omega)]
      simp
      have : min q cur.size = q := by omega
      simp [this]
     ·rw [if_neg hqn, Array.getElem?_append_left (by simp; omega), Array.getElem?_append_left (by simp; omega), List.getElem?_toArray, List.getElem?_take, if_pos (by omega)]
      simp
    rw [e1]
    by_cases hqn : q = n
    ·rw [if_pos hqn]; simp [hqn]
    ·rw [if_neg hqn, hq q (by omega)]; simp [hqn]
theorem ap_event {P : Program} {ops : Array Oper} {rest : List Oper} {o : Oper} {a : Act} {Q : Exit → Act → World → Prop} {W : World} (hgd : o.guard = none) (s x : Operand) (t : TypeId)
  (ho : o.op = .call { callee := .builtin .append, args := #[s, x], argTypes := #[t, t] }) (ht : P.underlying t = some (.slice 3)) (hinfo : (P.info? 3).map (fun i => (i.zero, i.size, i.bytes)) = some (some (.int .i64 0), 1, 8))
  {v : Value} {n : Nat} {f : Nat → Int} (hs : a.eval s = v) (HO : Ow W v n f) {ad : Addr} {c : Nat} {y : Int} (hx : a.eval x = .slice (some ad) 1 c) (hc : W.cell? ad = some (.int .i64 y)) (hn : n < 4294967296)
  (h : ∀ v' w', Ow w' v' (n + 1) (fun q => if q = n then y else f q) → w'.os = W.os → w'.tape = W.tape → w'.output = W.output → W.heap.size ≤ w'.heap.size →
   (∀ b, b < W.heap.size → v.ownBlock ≠ some b → w'.heap[b]? = W.heap[b]?) → (v'.ownBlock = v.ownBlock ∨ ∃ b, v'.ownBlock = some b ∧ W.heap.size ≤ b) →
   (∀ u m f', Vw W u m f' → m ≤ n → Vw w' u m f') → wpList P ops Q rest (a.put o.dst v') w') : wpList P ops Q (o :: rest) a W := by
 obtain ⟨i0, hi, hzz⟩ := Option.map_eq_some_iff.1 hinfo; simp only [Prod.mk.injEq] at hzz; obtain ⟨hz0, hz1, hz2⟩ := hzz; obtain ⟨v', w', hr, h1, h2, h3, h4, h5, h6, h7, h8⟩ := ap_run (P := P) W t o.type i0 ht hi hz0 hz1 hz2 HO (c := c) hc hn; refine Kd.event_run hgd (v := v') (w1 := w') ?_ (h v' w' h1 h2 h3 h4 h5 h6 h7 h8); unfold execOp; simp only [ho, resolve, invoke, builtin, Sem.run_bind, Sem.run_pure, Result.andThen_ok, List.map_toArray, List.map_cons, List.map_nil, hs, hx, hr]
def F1 (i k : Int) : Int := wrap64 (wrap64 (i * 1000003) + k)
def F2 (i k : Int) : Int := wrap64 (wrap64 (wrap64 (wrap64 (-i) * 1000003) - k) - 1)
def FF (n : Nat → Nat) (j q : Nat) : Int := if q < n j then F1 j q else F2 j ((q - n j : Nat) : Int)
/-- The lists, as they came in. -/
structure St (E m : Nat) (V : Nat → Value) (n : Nat → Nat) (gl : Nat) (vs : Array Value) (w0 : World) : Prop where
 ls : w0.heap[gl]? = some (.cells vs E (0, 0))
 vsn : vs.size = m
 vsV : ∀ j, j < m → vs[j]? = some (V j)
 own : ∀ j, j < m → ∃ f, Ow w0 (V j) (n j) f
 nl : ∀ j, j < m → (V j).ownBlock ≠ some gl
 sep : ∀ j l, j < m → l < m → j ≠ l → ∀ b, (V j).ownBlock = some b → (V l).ownBlock ≠ some b
 nn : ∀ j, j < m → n j < 2147483648
 mm : m < 65536
structure Ph1 (E m : Nat) (V : Nat → Value) (n : Nat → Nat) (gm : Nat) (w0 w : World) (i k : Nat) : Prop where
 fr : Fr m V w0 w
 ge : w0.heap.size ≤ gm
 long : ∃ ms, w.heap[gm]? = some (.cells ms E (0, 0)) ∧ ms.size = m ∧ ∀ j, j < m → ms[j]? = some (if j < i then V j else .slice none 0 0)
 rows : ∀ j, j < m → ∃ f, Ow w (V j) (n j) f ∧ ∀ q, q < n j → (j < i ∨ j = i ∧ q < k) → f q = F1 j q
def pr (i k j : Nat) : Nat := if j < i then 16 else if j = i then k else 0
structure Ph2V (E m : Nat) (V : Nat → Value) (n : Nat → Nat) (gm : Nat) (w0 w : World) (i k : Nat) (VM : Nat → Value) : Prop where
 long : ∃ ms, w.heap[gm]? = some (.cells ms E (0, 0)) ∧ ms.size = m ∧ ∀ j, j < m → ms[j]? = some (VM j)
 big : ∀ j, j < m → Ow w (VM j) (n j + pr i k j) (FF n j)
 view : ∀ j, j < m → Vw w (V j) (n j) (FF n j)
 sep : ∀ j l, j < m → l < m → j ≠ l → ∀ b, (VM j).ownBlock = some b → (V l).ownBlock ≠ some b ∧ (VM l).ownBlock ≠ some b
 ngm : ∀ j, j < m → (VM j).ownBlock ≠ some gm
 old : ∀ j, j < m → ∀ b, (VM j).ownBlock = some b → b < w0.heap.size → (V j).ownBlock = some b
structure Ph2 (E m : Nat) (V : Nat → Value) (n : Nat → Nat) (gm : Nat) (w0 w : World) (i k : Nat) : Prop where
 fr : Fr m V w0 w
 ge : w0.heap.size ≤ gm
 ex : ∃ VM, Ph2V E m V n gm w0 w i k VM
section
variable {E m : Nat} {V : Nat → Value} {n : Nat → Nat} {gl gm : Nat} {vs : Array Value} {w0 w : World} {i k : Nat}
theorem St.own_lt (S : St E m V n gl vs w0) {j : Nat} (hj : j < m) {b : Nat} (hb : (V j).ownBlock = some b) : b < w0.heap.size := by
 obtain ⟨f, h⟩ := S.own j hj
 exact h.lt b hb
theorem Fr.ls (S : St E m V n gl vs w0) (h : Fr m V w0 w) : w.heap[gl]? = some (.cells vs E (0, 0)) := (h.block gl (blk_lt S.ls) (fun j hj => S.nl j hj)).trans S.ls
theorem Fr.ls_at (S : St E m V n gl vs w0) (h : Fr m V w0 w) (hi : i < m) : w.cell? ⟨gl, i, none⟩ = some (V i) := (blk_cell (h.ls S) i).trans (S.vsV i hi)
theorem V_slice (S : St E m V n gl vs w0) (hi : i < m) : ∃ A c, V i = .slice A (n i) c := by
 obtain ⟨f, h⟩ := S.own i hi
 exact h.slice
theorem Ph1.start (S : St E m V n gl vs w0) (ms : Array Value) (hms : ms.size = m) (hz : ∀ j, j < m → ms[j]? = some (.slice none 0 0)) : Ph1 E m V n w0.heap.size w0 (w0.alloc (.cells ms E (0, 0))) 0 0 := by
 refine ⟨⟨rfl, rfl, rfl, by simp, fun b hb _ => heap_alloc_old w0 _ hb⟩, Nat.le_refl _, ⟨ms, heap_alloc_new w0 _, hms, fun j hj => by rw [if_neg (Nat.not_lt_zero _)]; exact hz j hj⟩, fun j hj => ?_⟩; obtain ⟨f, h⟩ := S.own j hj
 exact ⟨f, h.heap (fun b hb => heap_alloc_old w0 _ (h.lt b hb)), fun q _ hq => by omega⟩
/-- One element is written. -/
theorem Ph1.put (S : St E m V n gl vs w0) (h : Ph1 E m V n gm w0 w i k) (hi : i < m) (hk : k < n i) : ∃ g c, V i = .slice (some ⟨g, 0, none⟩) (n i) c ∧ (∃ u, w.cell? ⟨g, k, none⟩ = some u) ∧ w.frozen? ⟨g, k, none⟩ = false ∧ Ph1 E m V n gm w0 (w.setCell ⟨g, k, none⟩ (.int .i64 (F1 i k))) i (k + 1) := by
 obtain ⟨f, ho, hf⟩ := h.rows i hi; obtain ⟨g, c, hv, hc, hfz⟩ := ho.vw.at k hk; have hg : (V i).ownBlock = some g := by rw [hv]; rfl
 refine ⟨g, c, hv, ⟨_, hc⟩, hfz, ⟨h.fr.os, h.fr.tape, h.fr.output, by simpa [World.setCell] using h.fr.size, fun b hb hn => ?_⟩, h.ge, ?_, fun j hj => ?_⟩
 ·rw [set_heap b (fun e => hn i hi (by rw [hg, e]))]
  exact h.fr.block b hb hn
 ·obtain ⟨ms, h1, h2, h3⟩ := h.long
  refine ⟨ms, ?_, h2, h3⟩; rw [set_heap gm (fun e => by have := S.own_lt hi hg; have := h.ge; have e' : gm = g := e; omega)]
  exact h1
 ·by_cases hji : j = i
  ·subst hji
   rw [hv] at ho ⊢; refine ⟨_, ho.put k (F1 j k), fun q hq hl => ?_⟩
   by_cases hqk : q = k
   ·subst hqk; simp
   ·simp only [if_neg hqk]
    exact hf q hq (by omega)
  ·obtain ⟨f', ho', hf'⟩ := h.rows j hj
   refine ⟨f', ho'.heap (fun b hb => set_heap b (fun e => ?_)), fun q hq hl => hf' q hq (by omega)⟩; have e' : b = g := e; subst e'
   exact S.sep j i hj hi hji b hb hg
/-- A list is handed to 'long'. -/
theorem Ph1.next (S : St E m V n gl vs w0) (h : Ph1 E m V n gm w0 w i k) (hi : i < m) (hk : n i ≤ k) : (∃ u, w.cell? ⟨gm, i, none⟩ = some u) ∧ w.frozen? ⟨gm, i, none⟩ = false ∧ Ph1 E m V n gm w0 (w.setCell ⟨gm, i, none⟩ (V i)) (i + 1) 0 := by
 obtain ⟨ms, h1, h2, h3⟩ := h.long; refine ⟨⟨_, (blk_cell h1 i).trans (h3 i hi)⟩, blk_frozen h1 i, ⟨h.fr.os, h.fr.tape, h.fr.output, by simpa [World.setCell] using h.fr.size, fun b hb hn => ?_⟩, h.ge, ⟨_, blk_set h1 i (V i), by simpa using h2, fun j hj => ?_⟩, fun j hj => ?_⟩
 ·rw [set_heap b (fun e => by have := h.ge; have e' : b = gm := e; omega)]
  exact h.fr.block b hb hn
 ·rw [Array.getElem?_setIfInBounds]
  by_cases hji : i = j
  ·subst hji
   rw [if_pos rfl, if_pos (by omega), if_pos (by omega)]
  ·rw [if_neg hji, h3 j hj]
   by_cases hl : j < i
   ·rw [if_pos hl, if_pos (by omega)]
   ·rw [if_neg hl, if_neg (by omega)]
 ·obtain ⟨f', ho', hf'⟩ := h.rows j hj
  refine ⟨f', ho'.heap (fun b hb => set_heap b (fun e => ?_)), fun q hq hl => ?_⟩
  ·have := S.own_lt hj hb; have := h.ge; have e' : b = gm := e; omega
  ·by_cases hji : j = i
   ·subst hji
    exact hf' q hq (.inr ⟨rfl, by omega⟩)
   ·exact hf' q hq (by omega)
theorem Ph1.done (S : St E m V n gl vs w0) (h : Ph1 E m V n gm w0 w i k) (hi : m ≤ i) : Ph2 E m V n gm w0 w 0 0 := by
 refine ⟨h.fr, h.ge, V, ?_, fun j hj => ?_, fun j hj => ?_, fun j l hj hl hne b hb => ⟨S.sep j l hj hl hne b hb, S.sep j l hj hl hne b hb⟩, fun j hj e => ?_, fun j hj b hb _ => hb⟩
 ·obtain ⟨ms, h1, h2, h3⟩ := h.long
  exact ⟨ms, h1, h2, fun j hj => by rw [h3 j hj, if_pos (by omega)]⟩
 ·obtain ⟨f', ho', hf'⟩ := h.rows j hj
  have : pr 0 0 j = 0 := by unfold pr; rw [if_neg (by omega)]; split <;> rfl
  rw [this]
  exact ho'.to (fun q hq => by rw [hf' q hq (by omega)]; unfold FF; rw [if_pos hq])
 ·obtain ⟨f', ho', hf'⟩ := h.rows j hj
  exact (ho'.to (f' := FF n j) (fun q hq => by rw [hf' q hq (by omega)]; unfold FF; rw [if_pos hq])).vw
 ·have := S.own_lt hj e; have := h.ge; omega
theorem Ph2.next (h : Ph2 E m V n gm w0 w i k) (hk : k = 16) : Ph2 E m V n gm w0 w (i + 1) 0 := by
 obtain ⟨VM, h⟩ := h.ex; subst hk; refine ⟨‹Ph2 E m V n gm w0 w i 16›.fr, ‹Ph2 E m V n gm w0 w i 16›.ge, VM, h.long, fun j hj => ?_, h.view, h.sep, h.ngm, h.old⟩
 have : pr (i + 1) 0 j = pr i 16 j := by
  unfold pr
  by_cases h1 : j < i
  ·rw [if_pos h1, if_pos (by omega)]
  ·by_cases h2 : j = i
   ·rw [if_neg h1, if_pos h2, if_pos (by omega)]
   ·rw [if_neg h1, if_neg h2, if_neg (by omega)]; split <;> rfl
 rw [this]
 exact h.big j hj
theorem Ph2.heap {w' : World} (h : Ph2 E m V n gm w0 w i k) (hos : w'.os = w.os) (ht : w'.tape = w.tape) (ho : w'.output = w.output) (hs : w.heap.size ≤ w'.heap.size) (hh : ∀ b, b < w.heap.size → w'.heap[b]? = w.heap[b]?) : Ph2 E m V n gm w0 w' i k := by
 obtain ⟨VM, q⟩ := h.ex; obtain ⟨ms, h1, h2, h3⟩ := q.long; refine ⟨⟨hos.trans h.fr.os, ht.trans h.fr.tape, ho.trans h.fr.output, Nat.le_trans h.fr.size hs, fun b hb hn => (hh b (Nat.lt_of_lt_of_le hb h.fr.size)).trans (h.fr.block b hb hn)⟩, h.ge, VM, ⟨ms, (hh gm (blk_lt h1)).trans h1, h2, h3⟩, fun j hj => (q.big j hj).heap (fun b hb => hh b ((q.big j hj).lt b hb)), fun j hj => (q.view j hj).heap (fun b hb => hh b ?_), q.sep, q.ngm, q.old⟩
 rcases q.view j hj with ⟨e, _⟩ | ⟨g, c, cur, e, hg, _⟩
 ·rw [e] at hb; simp [Value.ownBlock] at hb
 ·rw [e] at hb
  simp [Value.ownBlock] at hb
  subst hb
  exact blk_lt hg
theorem Ph2.drew (h : Ph2 E m V n gm w0 w i k) : Ph2 E m V n gm w0 w.drew i k := h.heap rfl rfl rfl (Nat.le_refl _) (fun _ _ => rfl)
theorem Ph2.alloc (h : Ph2 E m V n gm w0 w i k) (o : Obj) : Ph2 E m V n gm w0 (w.alloc o) i k := h.heap rfl rfl rfl (by simp) (fun b hb => heap_alloc_old w o hb)
/-- One element is appended to a list of 'long'. -/
theorem Ph2.app (S : St E m V n gl vs w0) (h : Ph2 E m V n gm w0 w i k) (hi : i < m) (hk : k < 16) : ∃ v f, w.cell? ⟨gm, i, none⟩ = some v ∧ Ow w v (n i + k) f ∧ n i + k < 4294967296 ∧
  ∀ v' w', Ow w' v' (n i + k + 1) (fun q => if q = n i + k then F2 i k else f q) → w'.os = w.os → w'.tape = w.tape → w'.output = w.output → w.heap.size ≤ w'.heap.size →
   (∀ b, b < w.heap.size → v.ownBlock ≠ some b → w'.heap[b]? = w.heap[b]?) → (v'.ownBlock = v.ownBlock ∨ ∃ b, v'.ownBlock = some b ∧ w.heap.size ≤ b) →
   (∀ u m f', Vw w u m f' → m ≤ n i + k → Vw w' u m f') → (∃ u, w'.cell? ⟨gm, i, none⟩ = some u) ∧ w'.frozen? ⟨gm, i, none⟩ = false ∧ Ph2 E m V n gm w0 (w'.setCell ⟨gm, i, none⟩ v') i (k + 1) := by
 obtain ⟨VM, q⟩ := h.ex; obtain ⟨ms, h1, h2, h3⟩ := q.long; have hpr : pr i k i = k := by unfold pr; simp
 have hb := q.big i hi; rw [hpr] at hb; refine ⟨VM i, FF n i, (blk_cell h1 i).trans (h3 i hi), hb, by have := S.nn i hi; omega, ?_⟩; intro v' w' a1 a2 a3 a4 a5 a6 a7 a8; have hgm' : w'.heap[gm]? = some (.cells ms E (0, 0)) := (a6 gm (blk_lt h1) (q.ngm i hi)).trans h1
 have hvn : ∀ b, v'.ownBlock = some b → (VM i).ownBlock = some b ∨ w.heap.size ≤ b := by
  intro b hb'
  rcases a7 with e | ⟨b', e, hle⟩
  ·exact .inl (e.symm.trans hb')
  ·rw [e] at hb'; cases hb'; exact .inr hle
 have hvgm : ∀ b, v'.ownBlock = some b → b ≠ gm := by
  intro b hb' e; subst e
  rcases hvn b hb' with e | e
  ·exact q.ngm i hi e
  ·have := blk_lt h1; omega
 have hvl : ∀ j, j < m → ∀ b, (V j).ownBlock = some b → b < w.heap.size := fun j hj b hb' => Nat.lt_of_lt_of_le (S.own_lt hj hb') h.fr.size
 have hsz : ∀ b, b < w0.heap.size → b < w.heap.size := fun b hb' => Nat.lt_of_lt_of_le hb' h.fr.size
 refine ⟨⟨_, (blk_cell hgm' i).trans (h3 i hi)⟩, blk_frozen hgm' i, ⟨a2.trans h.fr.os, a3.trans h.fr.tape, a4.trans h.fr.output, ?_, fun b hb' hn => ?_⟩, h.ge, fun j => if j = i then v' else VM j, ⟨_, blk_set hgm' i v', by simpa using h2, fun j hj => ?_⟩, fun j hj => ?_, fun j hj => ?_, fun j l hj hl hne b hb' => ?_, fun j hj e => ?_, fun j hj b hb' hlt => ?_⟩
 ·have := h.fr.size
  simp only [World.setCell, Array.size_modify]
  omega
 ·rw [set_heap b (fun e => by have := h.ge; have e' : b = gm := e; omega), a6 b (hsz b hb') (fun e => hn i hi (q.old i hi b e hb'))]
  exact h.fr.block b hb' hn
 ·rw [Array.getElem?_setIfInBounds]
  by_cases hji : i = j
  ·subst hji
   rw [if_pos rfl, if_pos (by omega), if_pos rfl]
  ·rw [if_neg hji, h3 j hj, if_neg (fun e => hji e.symm)]
 ·by_cases hji : j = i
  ·subst hji
   have e1 : pr j (k + 1) j = k + 1 := by unfold pr; simp
   rw [if_pos rfl, e1, ← Nat.add_assoc]; refine (a1.heap (fun b hb' => set_heap b (fun e => hvgm b hb' e))).to (fun t ht => ?_)
   by_cases htk : t = n j + k
   ·subst htk
    have e2 : FF n j (n j + k) = F2 j k := by unfold FF; rw [if_neg (by omega), Nat.add_sub_cancel_left]
    rw [e2]; simp
   ·simp only [if_neg htk]
  ·have e1 : pr i (k + 1) j = pr i k j := by unfold pr; simp [hji]
   rw [if_neg hji, e1]; refine (q.big j hj).heap (fun b hb' => ?_); rw [set_heap b (fun e => q.ngm j hj (by rw [hb']; exact congrArg some e)), a6 b ((q.big j hj).lt b hb') (fun e => (q.sep i j hi hj (fun e => hji e.symm) b e).2 hb')]
 ·by_cases hji : j = i
  ·subst hji
   refine (a8 (V j) (n j) (FF n j) (q.view j hj) (by omega)).heap (fun b hb' => set_heap b (fun e => ?_))
   have := S.own_lt hj hb'; have := h.ge; have e' : b = gm := e; omega
  ·refine (q.view j hj).heap (fun b hb' => ?_)
   rw [set_heap b (fun e => by have := S.own_lt hj hb'; have := h.ge; have e' : b = gm := e; omega), a6 b (hvl j hj b hb') (fun e => (q.sep i j hi hj (fun e => hji e.symm) b e).1 hb')]
 ·by_cases hji : j = i
  ·subst hji
   simp only [if_pos rfl] at hb'; rw [if_neg (fun e => hne e.symm)]
   rcases hvn b hb' with e | e
   ·exact q.sep j l hj hl hne b e
   ·exact ⟨fun e' => by have := hvl l hl b e'; omega, fun e' => by have := (q.big l hl).lt b e'; omega⟩
  ·rw [if_neg hji] at hb'
   refine ⟨(q.sep j l hj hl hne b hb').1, ?_⟩
   by_cases hli : l = i
   ·subst hli
    rw [if_pos rfl]; intro e
    rcases hvn b e with e' | e'
    ·exact (q.sep j l hj hl hne b hb').2 e'
    ·have := (q.big j hj).lt b hb'; omega
   ·rw [if_neg hli]
    exact (q.sep j l hj hl hne b hb').2
 ·by_cases hji : j = i
  ·subst hji
   rw [if_pos rfl] at e
   exact hvgm gm e rfl
  ·rw [if_neg hji] at e
   exact q.ngm j hj e
 ·by_cases hji : j = i
  ·subst hji
   rw [if_pos rfl] at hb'
   rcases hvn b hb' with e | e
   ·exact q.old j hj b e hlt
   ·have := hsz b hlt; omega
  ·rw [if_neg hji] at hb'
   exact q.old j hj b hb' hlt
/-- All are looked at: a list's own places. -/
theorem Ph2.see (S : St E m V n gl vs w0) (h : Ph2 E m V n gm w0 w m 0) (hi : i < m) : w.cell? ⟨gl, i, none⟩ = some (V i) ∧ ∃ v c A, w.cell? ⟨gm, i, none⟩ = some v ∧ v = .slice A (n i + 16) c ∧
  (∀ q, q < n i → ∃ g c, V i = .slice (some ⟨g, 0, none⟩) (n i) c ∧ w.cell? ⟨g, q, none⟩ = some (.int .i64 (F1 i q))) ∧
  (∀ q, q < n i → ∃ g, A = some ⟨g, 0, none⟩ ∧ w.cell? ⟨g, q, none⟩ = some (.int .i64 (F1 i q))) ∧
  (∀ q, q < 16 → ∃ g, A = some ⟨g, 0, none⟩ ∧ w.cell? ⟨g, n i + q, none⟩ = some (.int .i64 (F2 i q))) := by
 obtain ⟨VM, q⟩ := h.ex; obtain ⟨ms, h1, h2, h3⟩ := q.long; have hpr : pr m 0 i = 16 := by unfold pr; simp [hi]
 have hb := q.big i hi; rw [hpr] at hb; obtain ⟨A, c, hv⟩ := hb.slice; refine ⟨h.fr.ls_at S hi, VM i, c, A, (blk_cell h1 i).trans (h3 i hi), hv, fun t ht => ?_, fun t ht => ?_, fun t ht => ?_⟩
 ·obtain ⟨g, c, e, hc, _⟩ := (q.view i hi).at t ht
  exact ⟨g, c, e, by rw [hc]; unfold FF; rw [if_pos ht]⟩
 ·obtain ⟨g, c, e, hc, _⟩ := hb.vw.at t (by omega)
  rw [hv] at e; injection e with e1 e2 e3
  exact ⟨g, e1, by rw [hc]; unfold FF; rw [if_pos ht]⟩
 ·obtain ⟨g, c, e, hc, _⟩ := hb.vw.at (n i + t) (by omega)
  rw [hv] at e; injection e with e1 e2 e3
  exact ⟨g, e1, by rw [hc]; unfold FF; rw [if_neg (by omega), Nat.add_sub_cancel_left]⟩
end
theorem mk_event {P : Program} {ops : Array Oper} {rest : List Oper} {o : Oper} {a : Act} {Q : Exit → Act → World → Prop} {W : World} (hgd : o.guard = none) {x : Operand} {t e : TypeId} (ho : o.op = .makeSlice t x x) (m : Nat) (hx : a.eval x = .int .i64 (m : Int))
  (ht : P.underlying t = some (.slice e)) (z : Value) (bytes : Nat) (hinfo : (P.info? e).map (fun i => (i.zero, i.size, i.bytes)) = some (some z, 1, bytes)) (hz1 : z.cells = #[z]) (hm : m < 65536) (hl : bytes * m ≤ 281474976710656)
  (h : ∀ ms w1, w1 = W.alloc (.cells ms e (0, 0)) → ms.size = m → (∀ j, j < m → ms[j]? = some z) → wpList P ops Q rest (a.put o.dst (.slice (some ⟨W.heap.size, 0, none⟩) m m)) w1) : wpList P ops Q (o :: rest) a W := by
 obtain ⟨i0, hi, hzz⟩ := Option.map_eq_some_iff.1 hinfo; simp only [Prod.mk.injEq] at hzz; obtain ⟨hz0, hz2, hz3⟩ := hzz; have hr := run_make (P := P) W t e i0 z ht hi hz0 .i64 .i64 (m : Int) (m : Int) (by omega) (by omega) (by rw [hz3, ← Int.natCast_mul]; omega) (by omega); simp only [Int.toNat_natCast, hz2, Nat.mul_one] at hr; refine Kd.event_run hgd (v := .slice (some ⟨W.heap.size, 0, none⟩) m m) (w1 := W.alloc (.cells (madeCells z.cells m) e)) ?_ (h _ _ rfl ?_ ?_)
 ·simp [execOp, ho, hx, hr]
 ·simp [madeCells, hz1]
 ·intro j hj
  simp [madeCells, hz1, hj, Nat.mod_one]
theorem Ph2.app1 {E m : Nat} {V : Nat → Value} {n : Nat → Nat} {gl gm : Nat} {vs : Array Value} {w0 w : World} {i k : Nat} (S : St E m V n gl vs w0) (h : Ph2 E m V n gm w0 w i k) (hi : i < m) (hk : k < 16) (o : Obj) :
  ∃ A c f, w.cell? ⟨gm, i, none⟩ = some (.slice A (n i + k) c) ∧ Ow (w.alloc o) (.slice A (n i + k) c) (n i + k) f ∧ n i + k < 4294967296 ∧
  ∀ v' w', Ow w' v' (n i + k + 1) (fun q => if q = n i + k then F2 i k else f q) → w'.os = (w.alloc o).os → w'.tape = (w.alloc o).tape → w'.output = (w.alloc o).output → (w.alloc o).heap.size ≤ w'.heap.size →
   (∀ b, b < (w.alloc o).heap.size → (Value.slice A (n i + k) c).ownBlock ≠ some b → w'.heap[b]? = (w.alloc o).heap[b]?) → (v'.ownBlock = (Value.slice A (n i + k) c).ownBlock ∨ ∃ b, v'.ownBlock = some b ∧ (w.alloc o).heap.size ≤ b) →
   (∀ u m f', Vw (w.alloc o) u m f' → m ≤ n i + k → Vw w' u m f') → (∃ u, w'.cell? ⟨gm, i, none⟩ = some u) ∧ w'.frozen? ⟨gm, i, none⟩ = false ∧ Ph2 E m V n gm w0 (w'.setCell ⟨gm, i, none⟩ v') i (k + 1) := by
 obtain ⟨v, f, h1, h2, h3, h4⟩ := (h.alloc o).app S hi hk; obtain ⟨A, c, rfl⟩ := h2.slice; refine ⟨A, c, f, ?_, h2, h3, h4⟩; obtain ⟨VM, q⟩ := h.ex; obtain ⟨ms, q1, q2, q3⟩ := q.long; rw [blk_cell (show (w.alloc o).heap[gm]? = _ from (heap_alloc_old w o (blk_lt q1)).trans q1)] at h1; rw [blk_cell q1]
 exact h1
theorem ap_info3 : (Try.prog.info? 3).map (fun i => (i.zero, i.size, i.bytes)) = some (some (.int .i64 0), 1, 8) := by kernel_rfl
theorem ap_infoE : (Try.prog.info? 22).map (fun i => (i.zero, i.size, i.bytes)) = some (some (.slice none 0 0), 1, 24) := by kernel_rfl
theorem wr_next {x : Int} {k : Nat} (h : x = (k : Int)) (hk : k < 4294967296) : wrap64 (x + 1) = ((k + 1 : Nat) : Int) := by
 subst h; unfold wrap64
 omega
theorem wr_add {x : Int} {k n : Nat} (h : x = (k : Int)) (hk : k < 4294967296) (hn : n < 4294967296) : wrap64 ((n : Int) + x) = ((n + k : Nat) : Int) := by
 subst h; unfold wrap64
 omega
set_option maxHeartbeats 8000000 in
set_option maxRecDepth 100000 in
theorem apart_calls {m : Nat} {V : Nat → Value} {n : Nat → Nat} {gl : Nat} {vs : Array Value} (w : World) (S : St 22 m V n gl vs w) :
  Calls Try.prog 12 #[.slice (some ⟨gl, 0, none⟩) m m] w fun e w' => e = .returned (.bool true) ∧ Fr m V w w' := by
 have SS := Aside0.mk S; clear S; have huA := Try.underlying39; have huE := Try.underlying22; go_enter Try.func12, Try.ntmps12
 go_wp2_with (first | ((with_reducible refine gate_dst (N := 13) rfl ?_); refine mk_event rfl rfl m rfl Try.underlying39 (.slice none 0 0) 24 ap_infoE rfl SS.out.mm ?hl ?_; (case hl => have := SS.out.mm; omega); intro ms w1 hw1 hms hz; have H1 := Aside0.mk (show Ph1 22 m V n w.heap.size w w1 0 0 by rw [hw1]; exact Ph1.start SS.out ms hms hz); clear hw1 hms hz))
 obtain ⟨gm, hgm⟩ : ∃ gm, gm = w.heap.size := ⟨_, rfl⟩; rw [← hgm] at H1 ⊢; clear hgm
 go_loopg [4] m (fun kq v4 w' => ∃ (i : Nat) (x4 : Int), v4 = .int .i64 x4 ∧ Aside0 (x4 = (i : Int)) ∧ Aside0 (kq + i = m) ∧ Aside0 (Ph1 22 m V n gm w w' i 0))
 case atStart => exact ⟨0, 0, rfl, ⟨rfl⟩, ⟨rfl⟩, H1⟩
 case round =>
  clear H1; obtain ⟨i, x4, rfl, hx4, hk4, H1⟩ := hrel
  by_cases hi : i < m
  ·have q4 : (x4 < (m : Int)) = True := eq_true (by rw [hx4.out]; omega)
   have p4 : (0 ≤ x4) = True := eq_true (by rw [hx4.out]; omega); have d4 : decide (x4 < (m : Int)) = true := decide_eq_true (of_eq_true q4); have HI := Aside0.mk hi; clear hi
   cases gk with
   | zero => exact absurd hk4.out (by have := HI.out; omega)
   | succ ga =>
   go_wp2
   go_loopg [5] (n i) (fun kq v5 w' => ∃ (k : Nat) (x5 : Int), v5 = .int .i64 x5 ∧ Aside0 (x5 = (k : Int)) ∧ Aside0 (kq + k = n i) ∧ Aside0 (Ph1 22 m V n gm w w' i k))
   case atStart => exact ⟨0, 0, rfl, ⟨rfl⟩, ⟨rfl⟩, H1⟩
   case round =>
    clear H1; obtain ⟨k, x5, rfl, hx5, hk5, H1⟩ := hrel; obtain ⟨Ai, ci, hVi⟩ := V_slice SS.out HI.out
    have hls : wr.cell? ⟨gl, x4.toNat, none⟩ = some (.slice Ai (n i) ci) := by
     rw [hx4.out, Int.toNat_natCast, ← hVi]; exact H1.out.fr.ls_at SS.out HI.out
    by_cases hk : k < n i
    ·have q5 : (x5 < (n i : Int)) = True := eq_true (by rw [hx5.out]; omega)
     have p5 : (0 ≤ x5) = True := eq_true (by rw [hx5.out]; omega); have d5 : decide (x5 < (n i : Int)) = true := decide_eq_true (of_eq_true q5); have HK := Aside0.mk hk; clear hk; obtain ⟨g, c, hv, ⟨u, hc⟩, hf, HP⟩ := H1.out.put SS.out HI.out HK.out; rw [hVi] at hv
     cases hv
     have HP' := Aside0.mk HP; have hc' : wr.cell? ⟨g, x5.toNat, none⟩ = some u := by rw [hx5.out, Int.toNat_natCast]; exact hc
     have hf' : wr.frozen? ⟨g, x5.toNat, none⟩ = false := by rw [hx5.out, Int.toNat_natCast]; exact hf
     clear hc hf HP hVi
     cases gk with
     | zero => exact absurd hk5.out (by have := HK.out; omega)
     | succ gk0 =>
      go_wp2
      go_roundg gk0
      case measure => exact Nat.lt_succ_self _
      case rel =>
       refine ⟨k + 1, _, rfl, ⟨wr_next hx5.out (by have := HK.out; have := SS.out.nn i HI.out; omega)⟩, ⟨by have := hk5.out; omega⟩, ⟨?_⟩⟩; have h := HP'.out; rw [hx5.out, hx4.out, Int.toNat_natCast]
       exact h
    ·have d5 : decide (x5 < (n i : Int)) = false := decide_eq_false (by rw [hx5.out]; omega)
     have HK := Aside0.mk hk; clear hk; obtain ⟨⟨u, hc⟩, hf, HP⟩ := H1.out.next SS.out HI.out (Nat.le_of_not_lt HK.out); rw [hVi] at HP; have HP' := Aside0.mk HP; have hc' : wr.cell? ⟨gm, x4.toNat, none⟩ = some u := by rw [hx4.out, Int.toNat_natCast]; exact hc
     have hf' : wr.frozen? ⟨gm, x4.toNat, none⟩ = false := by rw [hx4.out, Int.toNat_natCast]; exact hf
     clear hc hf HP hVi
     go_wp2
     go_roundg ga
     case measure => exact Nat.lt_succ_self _
     case rel =>
      refine ⟨i + 1, _, rfl, ⟨wr_next hx4.out (by have := HI.out; have := SS.out.mm; omega)⟩, ⟨by have := hk4.out; omega⟩, ⟨?_⟩⟩; have h := HP'.out; rw [hx4.out, Int.toNat_natCast]
      exact h
  ·have d4 : decide (x4 < (m : Int)) = false := decide_eq_false (by rw [hx4.out]; omega)
   have H2 := Aside0.mk (H1.out.done SS.out (Nat.le_of_not_lt hi)); clear H1 hi hx4 hk4
   go_wp2
   go_loopg [6] m (fun kq v6 w' => ∃ (i : Nat) (x6 : Int), v6 = .int .i64 x6 ∧ Aside0 (x6 = (i : Int)) ∧ Aside0 (kq + i = m) ∧ Aside0 (Ph2 22 m V n gm w w' i 0))
   case atStart => exact ⟨0, 0, rfl, ⟨rfl⟩, ⟨rfl⟩, H2⟩
   case round =>
    clear H2 d4; obtain ⟨i, x6, rfl, hx6, hk6, H2⟩ := hrel
    by_cases hi : i < m
    ·have q6 : (x6 < (m : Int)) = True := eq_true (by rw [hx6.out]; omega)
     have p6 : (0 ≤ x6) = True := eq_true (by rw [hx6.out]; omega); have d6 : decide (x6 < (m : Int)) = true := decide_eq_true (of_eq_true q6); have HI := Aside0.mk hi; clear hi
     cases gk with
     | zero => exact absurd hk6.out (by have := HI.out; omega)
     | succ ga =>
     go_wp2
     go_loopg [7] 16 (fun kq v7 w' => ∃ (k : Nat) (x7 : Int), v7 = .int .i64 x7 ∧ Aside0 (x7 = (k : Int)) ∧ Aside0 (kq + k = 16) ∧ Aside0 (Ph2 22 m V n gm w w' i k))
     case atStart => exact ⟨0, 0, rfl, ⟨rfl⟩, ⟨rfl⟩, H2⟩
     case round =>
      clear H2; obtain ⟨k, x7, rfl, hx7, hk7, H2⟩ := hrel
      by_cases hk : k < 16
      ·have d7 : decide (x7 < 16) = true := decide_eq_true (by rw [hx7.out]; omega)
       have HK := Aside0.mk hk; clear hk; obtain ⟨A, c, f, hc, ho, hn, HP⟩ := H2.out.app1 SS.out HI.out HK.out (.cells #[.int .i64 (wrap64 (wrap64 (wrap64 (wrap64 (-x6) * 1000003) - x7) - 1))] 3 (0, 0)); have hc' : wr.cell? ⟨gm, x6.toNat, none⟩ = some (.slice A (n i + k) c) := by rw [hx6.out, Int.toNat_natCast]; exact hc
       have HO := Aside0.mk ho; have HN := Aside0.mk hn; have HP' := Aside0.mk HP; clear hc ho hn HP
       cases gk with
       | zero => exact absurd hk7.out (by have := HK.out; omega)
       | succ gk0 =>
        go_wp2_with (first | ((with_reducible refine gate_dst (N := 69) rfl ?_); refine ap_event (y := F2 i k) rfl (.tmp 61) (.tmp 68) 22 rfl Try.underlying22 ap_info3 rfl HO.out rfl ?hc HN.out ?_; (case hc => (rw [blk_cell (blk_new _ _) 0, hx6.out, hx7.out]; rfl)); intro v' w' a1 a2 a3 a4 a5 a6 a7 a8; obtain ⟨Aw, cw, rfl⟩ := a1.slice; obtain ⟨⟨u_, hcc⟩, hff, HQ0⟩ := HP'.out _ w' a1 a2 a3 a4 a5 a6 a7 a8; have HQ := Aside0.mk HQ0; clear HQ0 a1 a2 a3 a4 a5 a6 a7 a8; replace hcc : w'.cell? ⟨gm, x6.toNat, none⟩ = some u_ := (by rw [hx6.out, Int.toNat_natCast]; exact hcc); replace hff : w'.frozen? ⟨gm, x6.toNat, none⟩ = false := (by rw [hx6.out, Int.toNat_natCast]; exact hff)))
        go_roundg gk0
        case measure => exact Nat.lt_succ_self _
        case rel =>
         refine ⟨k + 1, _, rfl, ⟨wr_next hx7.out (by have := HK.out; omega)⟩, ⟨by have := hk7.out; omega⟩, ⟨?_⟩⟩; have h := HQ.out; rw [hx6.out, Int.toNat_natCast]
         exact h
      ·have d7 : decide (x7 < 16) = false := decide_eq_false (by rw [hx7.out]; omega)
       have HP' := Aside0.mk (H2.out.next (by have := hk7.out; omega)); clear hk
       go_wp2
       go_roundg ga
       case measure => exact Nat.lt_succ_self _
       case rel => exact ⟨i + 1, _, rfl, ⟨wr_next hx6.out (by have := HI.out; have := SS.out.mm; omega)⟩, ⟨by have := hk6.out; omega⟩, HP'⟩
    ·have d6 : decide (x6 < (m : Int)) = false := decide_eq_false (by rw [hx6.out]; omega)
     have H3 : Aside0 (Ph2 22 m V n gm w wr m 0) := ⟨by have h := H2.out; rw [show i = m by have := hk6.out; omega] at h; exact h⟩; clear H2 hi hx6 hk6
     go_wp2
     go_loopg [8] m (fun kq v8 w' => ∃ (i : Nat) (x8 : Int), v8 = .int .i64 x8 ∧ Aside0 (x8 = (i : Int)) ∧ Aside0 (kq + i = m) ∧ Aside0 (Ph2 22 m V n gm w w' m 0))
     case atStart => exact ⟨0, 0, rfl, ⟨rfl⟩, ⟨rfl⟩, H3⟩
     case round =>
      clear H3 d6; obtain ⟨i, x8, rfl, hx8, hk8, H3⟩ := hrel
      by_cases hi : i < m
      ·have q8 : (x8 < (m : Int)) = True := eq_true (by rw [hx8.out]; omega)
       have p8 : (0 ≤ x8) = True := eq_true (by rw [hx8.out]; omega); have d8 : decide (x8 < (m : Int)) = true := decide_eq_true (of_eq_true q8); have HI := Aside0.mk hi; clear hi
       cases gk with
       | zero => exact absurd hk8.out (by have := HI.out; omega)
       | succ ga =>
       go_wp2
       go_loopg [9] (n i) (fun kq v9 w' => ∃ (k : Nat) (x9 : Int), v9 = .int .i64 x9 ∧ Aside0 (x9 = (k : Int)) ∧ Aside0 (kq + k = n i) ∧ Aside0 (Ph2 22 m V n gm w w' m 0))
       case atStart => exact ⟨0, 0, rfl, ⟨rfl⟩, ⟨by omega⟩, H3⟩
       case round =>
        clear H3; obtain ⟨k, x9, rfl, hx9, hk9, H3⟩ := hrel; obtain ⟨Ai, ci, hVi⟩ := V_slice SS.out HI.out; obtain ⟨s1, v, c, A, s2, rfl, s3, s4, s5⟩ := H3.out.see SS.out HI.out; rw [hVi] at s1; have hls : wr.cell? ⟨gl, x8.toNat, none⟩ = some (.slice Ai (n i) ci) := by rw [hx8.out, Int.toNat_natCast]; exact s1
        have hlg : wr.cell? ⟨gm, x8.toNat, none⟩ = some (.slice A (n i + 16) c) := by rw [hx8.out, Int.toNat_natCast]; exact s2
        by_cases hk : k < n i
        ·have q9 : (x9 < (n i : Int)) = True := eq_true (by rw [hx9.out]; omega)
         have q9' : (x9 < (n i : Int) + 16) = True := eq_true (by rw [hx9.out]; omega); have p9 : (0 ≤ x9) = True := eq_true (by rw [hx9.out]; omega); have d9 : decide (x9 < (n i : Int)) = true := decide_eq_true (of_eq_true q9); obtain ⟨g1, c1, e1, t1⟩ := s3 k hk; obtain ⟨g2, rfl, t2⟩ := s4 k hk; rw [hVi] at e1; cases e1; have t1' : wr.cell? ⟨g1, x9.toNat, none⟩ = some (.int .i64 (wrap64 (wrap64 (x8 * 1000003) + x9))) := by rw [hx9.out, hx8.out, Int.toNat_natCast]; exact t1
         have t2' : wr.cell? ⟨g2, x9.toNat, none⟩ = some (.int .i64 (wrap64 (wrap64 (x8 * 1000003) + x9))) := by rw [hx9.out, hx8.out, Int.toNat_natCast]; exact t2
         have HK := Aside0.mk hk; clear hk s1 s2 s3 s4 s5 t1 t2 hVi
         cases gk with
         | zero => exact absurd hk9.out (by have := HK.out; omega)
         | succ gk0 =>
          go_wp2
          go_roundg gk0
          case measure => exact Nat.lt_succ_self _
          case rel => exact ⟨k + 1, _, rfl, ⟨wr_next hx9.out (by have := HK.out; have := SS.out.nn i HI.out; omega)⟩, ⟨by have := hk9.out; omega⟩, H3⟩
        ·have d9 : decide (x9 < (n i : Int)) = false := decide_eq_false (by rw [hx9.out]; omega)
         clear hk s1 s2 s3 s4 s5 hVi hlg
         go_wp2
         clear hls d9 hx9 hk9
         go_loopg [10] 16 (fun kq v10 w' => ∃ (k : Nat) (x10 : Int), v10 = .int .i64 x10 ∧ Aside0 (x10 = (k : Int)) ∧ Aside0 (kq + k = 16) ∧ Aside0 (Ph2 22 m V n gm w w' m 0))
         case atStart => exact ⟨0, 0, rfl, ⟨rfl⟩, ⟨rfl⟩, H3⟩
         case round =>
          clear H3; obtain ⟨k, x10, rfl, hx10, hk10, H3⟩ := hrel
          by_cases hk : k < 16
          ·have d10 : decide (x10 < 16) = true := decide_eq_true (by rw [hx10.out]; omega)
           have HK := Aside0.mk hk; clear hk
           cases gk with
           | zero => exact absurd hk10.out (by have := HK.out; omega)
           | succ gk0 =>
           go_wp2
           obtain ⟨Ai, ci, hVi⟩ := V_slice SS.out HI.out; have H3d := Aside0.mk H3.out.drew; obtain ⟨s1, v, c, A, s2, rfl, _, _, s5⟩ := H3.out.see SS.out HI.out; rw [hVi] at s1; obtain ⟨g2, rfl, t2⟩ := s5 k HK.out; have hls : wr.cell? ⟨gl, x8.toNat, none⟩ = some (.slice Ai (n i) ci) := by rw [hx8.out, Int.toNat_natCast]; exact s1
           have hlg : wr.cell? ⟨gm, x8.toNat, none⟩ = some (.slice (some ⟨g2, 0, none⟩) (n i + 16) c) := by rw [hx8.out, Int.toNat_natCast]; exact s2
           have hnn := SS.out.nn i HI.out; have hix : wrap64 ((n i : Int) + x10) = ((n i + k : Nat) : Int) := wr_add hx10.out (by have := HK.out; omega) (by omega); obtain ⟨y, hy⟩ : ∃ y : Int, y = wrap64 ((n i : Int) + x10) := ⟨_, rfl⟩; have q10 : (y < (n i : Int) + 16) = True := eq_true (by rw [hy, hix]; have := HK.out; omega); have p10 : (0 ≤ y) = True := eq_true (by rw [hy, hix]; omega); have t2' : wr.cell? ⟨g2, y.toNat, none⟩ = some (.int .i64 (wrap64 (wrap64 (wrap64 (wrap64 (-x8) * 1000003) - x10) - 1))) := by rw [hy, hix, hx10.out, hx8.out, Int.toNat_natCast]; exact t2
           have hyy := hy.symm; have hyw : IntKind.i64.wrap ((n i : Int) + x10) = y := (i64_w _).trans hyy; clear hy hix s1 s2 s5 t2 hVi hnn
           go_region_held3 (fun w' => w'.cell? ⟨gl, x8.toNat, none⟩ = some (.slice Ai (n i) ci) ∧ w'.cell? ⟨gm, x8.toNat, none⟩ = some (.slice (some ⟨g2, 0, none⟩) (n i + 16) c) ∧ w'.cell? ⟨g2, y.toNat, none⟩ = some (.int .i64 (wrap64 (wrap64 (wrap64 (wrap64 (-x8) * 1000003) - x10) - 1)))) (go_keep) (fail)
           simp only [i64_w, bne_self_eq_false]
           go_wp2
           go_roundg gk0
           case measure => exact Nat.lt_succ_self _
           case rel => exact ⟨k + 1, _, rfl, ⟨wr_next hx10.out (by have := HK.out; omega)⟩, ⟨by have := hk10.out; omega⟩, H3d⟩
          ·have d10 : decide (x10 < 16) = false := decide_eq_false (by rw [hx10.out]; omega)
           clear hk
           go_wp2
           go_roundg ga
           case measure => exact Nat.lt_succ_self _
           case rel => exact ⟨i + 1, _, rfl, ⟨wr_next hx8.out (by have := HI.out; have := SS.out.mm; omega)⟩, ⟨by have := hk8.out; omega⟩, H3⟩
      ·have d8 : decide (x8 < (m : Int)) = false := decide_eq_false (by rw [hx8.out]; omega)
       clear hi
       go_wp2
       go_ret
       exact ⟨rfl, H3.out.fr⟩
theorem R_Ow {w : World} {base : Nat} {ok : Nat → Prop} {A : Option Addr} {c : Nat} {l : List Int} (h : Kd.R (Kd.int .i64) 3 w base ok (.slice A l.length c) l) {n : Nat} (hn : n ≤ l.length) : Ow w (.slice A n c) n (fun q => l.getD q 0) := by
 have ho := (Kd.own_of_R (enc := Value.int .i64) (h1 := fun _ => rfl) h)
 rcases ho.2 with ⟨he, h0⟩ | ⟨g, cap, cur, he, _, hg, hnc, hcm, hcs, ht⟩
 ·injection he with e1 e2 e3
  subst e1 e3
  obtain rfl : n = 0 := by omega
  exact .inl ⟨rfl, rfl⟩
 ·injection he with e1 e2 e3
  subst e1 e3; refine .inr ⟨g, c, cur, rfl, hg, by simpa using hcs, by omega, hcm, fun q hq => ?_⟩
  have h1 : (cur.toList.take (l.length * 1))[q]? = some (Value.int .i64 (l.getD q 0)) := by
   rw [ht]; have hql : q < l.length := by omega
   simp [encs, hql, List.getD]
  rw [List.getElem?_take, if_pos (by omega)] at h1
  simpa using h1
theorem slice_own (A : Option Addr) (n c n' c' : Nat) : (Value.slice A n c).ownBlock = (Value.slice A n' c').ownBlock := by cases A <;> rfl
/-- One list with room behind it. -/
theorem windhoverkeep_Apart.one {base : Nat} {ok : Nat → Prop} (w : World) {A : Option Addr} {c : Nat} {l : List Int} (h : Kd.R (Kd.int .i64) 3 w base ok (.slice A l.length c) l) {n : Nat} (hn : n ≤ l.length) (hs : n < 2147483648) :
  Calls Try.prog 12 #[.slice (some ⟨w.heap.size, 0, none⟩) 1 1] (w.alloc (.cells #[.slice A n c] 22 (0, 0))) fun e w' => e = .returned (.bool true) ∧ w.grownBy w' (Value.slice A n c).ownBlock := by
 have ho := R_Ow h hn
 have S : St 22 1 (fun _ => .slice A n c) (fun _ => n) w.heap.size #[.slice A n c] (w.alloc (.cells #[.slice A n c] 22 (0, 0))) := by
  refine ⟨heap_alloc_new w _, rfl, fun j hj => ?_, fun j hj => ⟨_, ho.heap (fun b hb => heap_alloc_old w _ (ho.lt b hb))⟩, fun j hj e => ?_, fun j l' hj hl hne => ?_, fun j hj => hs, by omega⟩
  ·obtain rfl : j = 0 := by omega
   rfl
  ·have := ho.lt _ e; omega
  ·omega
 refine (apart_calls _ S).mono ?_; rintro e w' ⟨rfl, hf⟩; refine ⟨rfl, hf.os, hf.tape, hf.output, Nat.le_trans (by simp) hf.size, fun k hk hne => (hf.block k (by simp; omega) (fun j hj e => hne e.symm)).trans (heap_alloc_old w _ hk)⟩
/-- Two lists. -/
theorem windhoverkeep_Apart.two {base1 base2 : Nat} {ok1 ok2 : Nat → Prop} (w : World) {A1 A2 : Option Addr} {c1 c2 : Nat} {l1 l2 : List Int} (h1 : Kd.R (Kd.int .i64) 3 w base1 ok1 (.slice A1 l1.length c1) l1) (h2 : Kd.R (Kd.int .i64) 3 w base2 ok2 (.slice A2 l2.length c2) l2)
  {n1 n2 : Nat} (hn1 : n1 ≤ l1.length) (hn2 : n2 ≤ l2.length) (hs1 : n1 < 2147483648) (hs2 : n2 < 2147483648) (hne : ∀ k, (Value.slice A1 n1 c1).ownBlock = some k → (Value.slice A2 n2 c2).ownBlock ≠ some k) :
  Calls Try.prog 12 #[.slice (some ⟨w.heap.size, 0, none⟩) 2 2] (w.alloc (.cells #[.slice A1 n1 c1, .slice A2 n2 c2] 22 (0, 0))) fun e w' => e = .returned (.bool true) ∧ w'.os = w.os ∧ w'.tape = w.tape ∧ w'.output = w.output ∧ w.heap.size ≤ w'.heap.size ∧
   ∀ k, k < w.heap.size → (Value.slice A1 n1 c1).ownBlock ≠ some k → (Value.slice A2 n2 c2).ownBlock ≠ some k → w'.heap[k]? = w.heap[k]? := by
 have o1 := R_Ow h1 hn1; have o2 := R_Ow h2 hn2
 have S : St 22 2 (fun j => if j = 0 then .slice A1 n1 c1 else .slice A2 n2 c2) (fun j => if j = 0 then n1 else n2) w.heap.size #[.slice A1 n1 c1, .slice A2 n2 c2] (w.alloc (.cells #[.slice A1 n1 c1, .slice A2 n2 c2] 22 (0, 0))) := by
  refine ⟨heap_alloc_new w _, rfl, fun j hj => ?_, fun j hj => ?_, fun j hj e => ?_, fun j l' hj hl hd b hb e => ?_, fun j hj => ?_, by omega⟩
  ·obtain rfl | rfl : j = 0 ∨ j = 1 := by omega
   ·rfl
   ·rfl
  ·by_cases hj0 : j = 0
   ·simp only [if_pos hj0]; exact ⟨_, o1.heap (fun b hb => heap_alloc_old w _ (o1.lt b hb))⟩
   ·simp only [if_neg hj0]; exact ⟨_, o2.heap (fun b hb => heap_alloc_old w _ (o2.lt b hb))⟩
  ·by_cases hj0 : j = 0
   ·simp only [if_pos hj0] at e; have := o1.lt _ e; omega
   ·simp only [if_neg hj0] at e; have := o2.lt _ e; omega
  ·by_cases hj0 : j = 0
   ·simp only [if_pos hj0] at hb
    simp only [if_neg (show ¬ l' = 0 by omega)] at e
    exact hne b hb e
   ·simp only [if_neg hj0] at hb
    simp only [if_pos (show l' = 0 by omega)] at e
    exact hne b e hb
  ·by_cases hj0 : j = 0
   ·simp only [if_pos hj0]; exact hs1
   ·simp only [if_neg hj0]; exact hs2
 refine (apart_calls _ S).mono ?_; rintro e w' ⟨rfl, hf⟩; refine ⟨rfl, hf.os, hf.tape, hf.output, Nat.le_trans (by simp) hf.size, fun k hk q1 q2 => (hf.block k (by simp; omega) (fun j hj e => ?_)).trans (heap_alloc_old w _ hk)⟩
 by_cases hj0 : j = 0
 ·simp only [if_pos hj0] at e; exact q1 e
 ·simp only [if_neg hj0] at e; exact q2 e
/-- Two lists, both of one call's own. -/
theorem windhoverkeep_Apart.both {ok1 ok2 : Nat → Prop} (w0 w : World) {A1 A2 : Option Addr} {c1 c2 : Nat} {l1 l2 : List Int} (HB : Below w0.heap.size w0 w) (h1 : Kd.R (Kd.int .i64) 3 w w0.heap.size ok1 (.slice A1 l1.length c1) l1) (h2 : Kd.R (Kd.int .i64) 3 w w0.heap.size ok2 (.slice A2 l2.length c2) l2)
  {n1 n2 : Nat} (hn1 : n1 ≤ l1.length) (hn2 : n2 ≤ l2.length) (hs1 : n1 < 2147483648) (hs2 : n2 < 2147483648) (hne : ∀ k, (Value.slice A1 n1 c1).ownBlock = some k → (Value.slice A2 n2 c2).ownBlock ≠ some k) :
  Calls Try.prog 12 #[.slice (some ⟨w.heap.size, 0, none⟩) 2 2] (w.alloc (.cells #[.slice A1 n1 c1, .slice A2 n2 c2] 22 (0, 0))) fun e w' => e = .returned (.bool true) ∧ Below w0.heap.size w0 w' := by
 refine (windhoverkeep_Apart.two w h1 h2 hn1 hn2 hs1 hs2 hne).mono ?_; rintro e w' ⟨rfl, a1, a2, a3, a4, a5⟩; refine ⟨rfl, a1.trans HB.os, a2.trans HB.tape, a3.trans HB.output, Nat.le_trans HB.size a4, fun k hk => (a5 k (Nat.lt_of_lt_of_le hk HB.size) (fun e => ?_) (fun e => ?_)).trans (HB.block k hk)⟩
 ·have := Kd.R_base h1 k (by rw [slice_own A1 l1.length c1 n1 c1]; exact e); omega
 ·have := Kd.R_base h2 k (by rw [slice_own A2 l2.length c2 n2 c2]; exact e); omega
/-- What the prints tell of it: its lists are told by their lengths alone. -/
def windhoverkeep_Apart.f (ls : List (List Int)) : Option Bool := if ls.all (fun l => decide (l.length < 2147483648)) = true then some true else none
theorem windhoverkeep_Apart.len2 {a b : List Int} {r : Bool} (h : windhoverkeep_Apart.f [a, b] = some r) : a.length < 2147483648 ∧ b.length < 2147483648 ∧ r = true := by
 unfold windhoverkeep_Apart.f at h
 split at h
 ·rename_i q
  simp only [Option.some.injEq] at h
  simp at q
  exact ⟨q.1, q.2, h.symm⟩
 ·cases h
theorem windhoverkeep_Apart.len1 {a : List Int} {r : Bool} (h : windhoverkeep_Apart.f [a] = some r) : a.length < 2147483648 ∧ r = true := by
 unfold windhoverkeep_Apart.f at h
 split at h
 ·rename_i q
  simp only [Option.some.injEq] at h
  simp at q
  exact ⟨q, h.symm⟩
 ·cases h


end Go.Proofs.Ytmmlahckcgjofaa.PPowerFollows
