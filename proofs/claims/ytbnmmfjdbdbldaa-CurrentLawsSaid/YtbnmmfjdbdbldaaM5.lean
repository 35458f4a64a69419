/-
  CurrentLaws returns true at every input, and its arguments read behind the call as they read before; no condition. Part 5 of 5.
-/
import Derived.Test.YtbnmmfjdbdbldaaM4
import Derived.Shelf.SlSortCmp.NoneTotal
import Derived.Shelf.SlicesE.Clone
import Derived.Shelf.SlGeneric
import Derived.Shelf.SlicesG.Cmp
import Derived.Ground.SlsfProg
import Derived.Ground.SlgnProg
import Derived.Ground.SlgcProg
import Derived.Test.YtbnmmfjdbdbldaaProg
import Derived.WalkKit
import Derived.Deep.LoopGhost
import Derived.StillTailTactics
import Derived.Lib.Walk
import Derived.Shelf.RegionOpenPlain
import Derived.Test.YtbnmmfjdbdbldaaRows
import Derived.ProofKit
import Derived.OpenShut

/-
  The abstract machine beside the kit's words on rows: rows of flat elements, slices.Clone, slices.SortFunc.
-/
namespace Go.Abs
open Go.Sort Go.Proofs

section
variable [D : Dom] [C : Coding] [O : Objs] {P : Program}
variable {w w' : World} {ok : Nat → Prop}

/-- Elements without places: their cells are plain values. -/
structure FlatT (t : D.Tag) (encV : D.El t → List Value) : Prop where
  enc : ∀ x, C.enc t x = (encV x).map AV.v
  len : ∀ x, (encV x).length = C.k t
  one : ∀ x, ∀ v ∈ encV x, v.oneCell' = true
  kpos : 0 < C.k t

variable {t : D.Tag} {encV : D.El t → List Value}

omit O C in
theorem flat_get {k : Nat} (hk : 0 < k) (hl : ∀ x, (encV x).length = k) : ∀ (xs : List (D.El t)) (j : Nat), (xs.flatMap encV)[j]? = (xs[j / k]?).bind fun x => (encV x)[j % k]?
  | [], j => by simp
  | x :: xs, j => by
    rw [List.flatMap_cons, List.getElem?_append, hl]
    by_cases h : j < k
    · rw [if_pos h, Nat.div_eq_of_lt h, Nat.mod_eq_of_lt h]; rfl
    · rw [if_neg h, flat_get hk hl xs (j - k)]
      obtain ⟨i, rfl⟩ : ∃ i, j = i + k := ⟨j - k, by omega⟩
      rw [Nat.add_sub_cancel, Nat.add_div_right _ hk, Nat.add_mod_right]
      rfl

omit O in
theorem flat_cell {μ : Nat → Pl} (F : FlatT t encV) {xs : List (D.El t)} {cur : Array Value} {o : Nat} (hc : ∀ (i : Nat) (x : D.El t), xs[i]? = some x → Cells w ok μ cur (o + i * C.k t) (C.enc t x))
    {j : Nat} {v : Value} (hj : (xs.flatMap encV)[j]? = some v) : cur[o + j]? = some v := by
  rw [flat_get F.kpos F.len] at hj
  cases hx : xs[j / C.k t]? with
  | none => rw [hx] at hj; simp at hj
  | some x =>
    rw [hx] at hj
    simp only [Option.bind_some] at hj
    obtain ⟨u, h1, _, h3⟩ := hc _ x hx (j % C.k t) (.v v) (by rw [F.enc, List.getElem?_map, hj]; rfl)
    cases h3
    rw [← h1, Nat.add_assoc, Nat.mul_comm, Nat.div_add_mod]

omit O in
theorem cells_flat {μ : Nat → Pl} (F : FlatT t encV) {xs : List (D.El t)} {cur : Array Value} {o : Nat} (h : ∀ (j : Nat) (v : Value), (xs.flatMap encV)[j]? = some v → cur[o + j]? = some v) :
    ∀ (i : Nat) (x : D.El t), xs[i]? = some x → Cells w ok μ cur (o + i * C.k t) (C.enc t x) := by
  intro i x hx j a ha
  rw [F.enc, List.getElem?_map] at ha
  cases hv : (encV x)[j]? with
  | none => rw [hv] at ha; simp at ha
  | some v =>
    rw [hv] at ha
    obtain rfl : AV.v v = a := by simpa using ha
    have hjk : j < C.k t := by rw [← F.len x]; exact (List.getElem?_eq_some_iff.1 hv).1
    refine ⟨v, ?_, F.one x v (List.mem_of_getElem? hv), .v v⟩
    rw [Nat.add_assoc]
    refine h (i * C.k t + j) v ?_
    rw [flat_get F.kpos F.len, Nat.mul_comm, Nat.mul_add_div F.kpos, Nat.div_eq_of_lt hjk, Nat.mul_add_mod, Nat.mod_eq_of_lt hjk, Nat.add_zero, hx]
    exact hv

omit O C in
theorem flatMap_len {k : Nat} (hl : ∀ x, (encV x).length = k) (xs : List (D.El t)) : (xs.flatMap encV).length = xs.length * k := by
  induction xs with
  | nil => simp
  | cons x xs ih => rw [List.flatMap_cons, List.length_append, hl, ih, List.length_cons, Nat.add_mul, Nat.one_mul, Nat.add_comm]

omit O in
theorem flatK_get [Inhabited (D.El t)] (F : FlatT t encV) (xs : List (D.El t)) (j : Nat) (hj : j < xs.length * C.k t) : (xs.flatMap encV)[j]? = some ((flatK encV (C.k t) xs.toArray)[j]!) := by
  have hi : j / C.k t < xs.length := by rw [Nat.div_lt_iff_lt_mul F.kpos]; exact hj
  have hm : j % C.k t < C.k t := Nat.mod_lt _ F.kpos
  rw [flat_get F.kpos F.len, get_flatK _ _ _ _ (by simpa using hj), List.getElem?_eq_getElem hi]
  simp only [Option.bind_some]
  have e : xs.toArray[j / C.k t]! = xs[j / C.k t] := by simp [hi]
  rw [e, List.getElem?_eq_getElem (by rw [F.len]; exact hm)]
  congr 1
  simp [F.len, hm]

omit O in
theorem holds_of [Inhabited (D.El t)] (F : FlatT t encV) {xs : List (D.El t)} {b o : Nat} {cur : Array Value} {e : TypeId} (hb : w.heap[b]? = some (.cells cur e (0, 0)))
    (h : ∀ (j : Nat) (v : Value), (xs.flatMap encV)[j]? = some v → cur[o + j]? = some v) : HoldsK encV (C.k t) w b o xs.toArray := by
  intro j hj
  rw [size_flatK] at hj
  have := flatK_get F xs j (by simpa using hj)
  refine ⟨?_, ?_⟩
  · simp only [World.cell?, hb]
    simpa using h j _ this
  · simp [World.frozen?, hb]

omit O in
theorem of_holds [Inhabited (D.El t)] (F : FlatT t encV) {xs : List (D.El t)} {b o : Nat} {cur : Array Value} {e : TypeId} (hb : w.heap[b]? = some (.cells cur e (0, 0)))
    (hh : HoldsK encV (C.k t) w b o xs.toArray) : ∀ (j : Nat) (v : Value), (xs.flatMap encV)[j]? = some v → cur[o + j]? = some v := by
  intro j v hv
  have hj : j < xs.length * C.k t := by rw [← flatMap_len F.len]; exact (List.getElem?_eq_some_iff.1 hv).1
  have h1 := (hh j (by rw [size_flatK]; simpa using hj)).1
  rw [flatK_get F xs j hj] at hv
  simp only [World.cell?, hb] at h1
  simp only [Option.isSome_none, Bool.false_eq_true, if_false, id_eq] at h1
  rw [h1]; exact hv


omit O in
theorem mrow_cases [O : Objs] {s : List (D.El t)} {v : Value} {fp : List Nat} (h : MRep w ok (.arr t s) v fp) :
    (s = [] ∧ v = .slice none 0 0 ∧ fp = []) ∨ ∃ b o cap cur e, v = .slice (some ⟨b, o, none⟩) s.length cap ∧ fp = [b] ∧ w.heap[b]? = some (.cells cur e (0, 0)) ∧ s.length ≤ cap ∧ o + cap * C.k t ≤ cur.size ∧
      (∀ (i : Nat) (x : D.El t), s[i]? = some x → Cells w ok NoPl cur (o + i * C.k t) (C.enc t x)) := by
  cases h with
  | arrNil => exact .inl ⟨rfl, rfl, rfl⟩
  | arr b o cap t xs cur e h1 h2 h3 h4 => exact .inr ⟨b, o, cap, cur, e, rfl, rfl, h1, h2, h3, h4⟩

/-- slices.Clone. -/
theorem good_clone (F : FlatT t encV) {c : Ctr} {g : Nat} {e1 : TypeId} {bytes : Nat} (he : ∀ args w, (callFunc g args).run P w = .ok (.enter g args) w) (hm : c.modes = [.row t])
    (hp : ∀ ms, c.pre ms = true → ∃ s, ms = [.arr t s] ∧ s.length ≤ 1000) (hf : ∀ s, c.f [.arr t s] = ([.arr t s], [.arr t s]))
    (hC : ∀ (b off n cap : Nat) (news : List Value) (w : World), news.length = n * C.k t → n ≤ maxLen → n * bytes ≤ 140737488355328 → (∀ j u, news[j]? = some u → w.cell? ⟨b, off + j, none⟩ = some u) → (∀ u ∈ news, u.oneCell' = true) →
      Calls P g #[.slice (some ⟨b, off, none⟩) n cap] w fun e w' => ∃ v', e = .returned v' ∧ w'.ownsRow w.heap.size e1 (C.k t) v' n news ∧ v' ≠ .slice none 0 0 ∧ Go.RowKit.Below w.heap.size w w')
    (hN : ∀ (n cap : Nat) (w : World), Calls P g #[.slice none n cap] w fun e w' => e = .returned (.slice none 0 0) ∧ w' = w) (hby : 1000 * bytes ≤ 140737488355328) : Good P g c := by
  refine ⟨he, fun ms vs us w ok hpre _ hlv hlu hnd hno hok hr => ?_⟩
  obtain ⟨s, rfl, hs⟩ := hp ms hpre
  match vs, us, hlv, hlu with
  | [v], [fp], _, _ =>
    have hv := hr 0 _ v fp rfl rfl rfl
    simp only [List.flatten_cons, List.flatten_nil, List.append_nil] at hno hnd ⊢
    have hfin : ∀ (w' : World) (ok' : Nat → Prop), MRep w' ok' (.arr t s) v fp → ∀ (j : Nat) (q : Mode) (x : MC) (v' : Value) (u : List Nat), c.modes[j]? = some q → (c.f [.arr t s]).2[j]? = some x → [v][j]? = some v' → [fp][j]? = some u → q.kept = true → MRep w' ok' x v' u := by
      intro w' ok' hk j q x v' u _ hx hv' hu _
      rw [hf] at hx
      match j with
      | 0 =>
        simp at hx hv' hu; subst hx; subst hv'; subst hu; exact hk
      | j + 1 => simp at hx
    have hfin0 : ∀ (j : Nat) (q : Mode) (u : List Nat), c.modes[j]? = some q → [fp][j]? = some u → q.kept = false → u = [] := by
      intro j q u hq hu hk
      rw [hm] at hq
      match j with
      | 0 => simp at hq; subst hq; simp [Mode.kept] at hk
      | j + 1 => simp at hq
    rcases mrow_cases hv with ⟨rfl, rfl, rfl⟩ | ⟨b, o, cap, cur, e, rfl, rfl, hb, hcap, hsz, hc⟩
    · refine (hN 0 0 w).mono ?_
      rintro e w' ⟨rfl, rfl⟩
      refine ⟨[.slice none 0 0], [[]], [[]], ok, ⟨rfl, ⟨rfl, rfl, rfl, Nat.le_refl _, fun _ _ _ => rfl⟩, fun _ h => h, fun _ h => .inl h, hok, by simp, by simp, rfl, by rw [hf]; rfl, by rw [hf]; rfl, hfin0, hfin _ _ (.arrNil t), ?_⟩⟩
      intro j x v u hx hv hu
      rw [hf] at hx
      match j with
      | 0 => simp at hx hv hu; subst hx; subst hv; subst hu; exact .arrNil t
      | j + 1 => simp at hx
    · have hbl : b < w.heap.size := (Array.getElem?_eq_some_iff.1 hb).1
      refine (hC b o s.length cap (s.flatMap encV) w (flatMap_len F.len s) (by unfold maxLen; omega) (Nat.le_trans (Nat.mul_le_mul_right _ hs) hby) (fun j u hj => ?_) (fun u hu => ?_)).mono ?_
      · simp only [World.cell?, hb]
        simpa using flat_cell F hc hj
      · obtain ⟨x, _, hx⟩ := List.mem_flatMap.1 hu
        exact F.one x u hx
      rintro e w' ⟨v', rfl, ⟨_, hrow⟩, hne, hbel⟩
      rcases hrow with ⟨rfl, _⟩ | ⟨g', cap', cur', rfl, hbase, hg', hcap', _, hsz', htake⟩
      · exact absurd rfl hne
      · have hgl : g' < w'.heap.size := (Array.getElem?_eq_some_iff.1 hg').1
        have hbk : w'.heap[b]? = w.heap[b]? := hbel.block b hbl
        refine ⟨[_], [[b]], [[g']], ok, ⟨rfl, ⟨hbel.os, hbel.tape, hbel.output, hbel.size, fun k hk _ => hbel.block k hk⟩, fun _ h => h, fun _ h => .inl h, fun k h => Nat.lt_of_lt_of_le (hok k h) hbel.size, ?_, ?_, rfl, by rw [hf]; rfl, by rw [hf]; rfl, hfin0, hfin _ _ ?_, ?_⟩⟩
        · simp; omega
        · intro k hk
          simp at hk
          rcases hk with rfl | rfl
          · exact ⟨hno _ (by simp), .inl (by simp)⟩
          · exact ⟨fun h => by have := hok _ h; omega, .inr hbase⟩
        · refine hv.mono (fun k hk o => by simp only [World.cell?, hbel.block k (hok _ hk)]) (fun _ h => h) fun k hk => ?_
          have e2 : k = b := by simpa using hk
          rw [e2]; exact hbk
        · intro j x v u hx hv hu
          rw [hf] at hx
          match j with
          | 0 =>
            simp at hx hv hu; subst hx; subst hv; subst hu
            refine .arr g' 0 cap' t s cur' e1 hg' hcap' (by omega) (cells_flat F fun j v hj => ?_)
            rw [← htake, List.getElem?_take] at hj
            split at hj
            · rw [Nat.zero_add, ← Array.getElem?_toList]; exact hj
            · simp at hj
          | j + 1 => simp at hx


omit O in
/-- The world behind a sort. -/
theorem sort_world [Inhabited (D.El t)] (F : FlatT t encV) {b o n cap : Nat} {s d : List (D.El t)} {os : Array Obj} {cur : Array Value} {e : TypeId} (hb : w.heap[b]? = some (.cells cur e (0, 0))) (hsz : o + cap * C.k t ≤ cur.size)
    (hh : HoldsK encV (C.k t) w b o s.toArray) (hl : d.length = s.length) (hw : w' = sortWorldK encV (C.k t) w b o n d.toArray os) :
    Kept (fun k => k ∈ [b]) w w' ∧ ∃ cur', w'.heap[b]? = some (.cells cur' e (0, 0)) ∧ o + cap * C.k t ≤ cur'.size ∧ ∀ (i : Nat) (x : D.El t), d[i]? = some x → Cells w' ok NoPl cur' (o + i * C.k t) (C.enc t x) := by
  have hbl : b < w.heap.size := (Array.getElem?_eq_some_iff.1 hb).1
  have hheap : w'.heap = (w.heap.modify b (onCells (putCells id o (flatK encV (C.k t) d.toArray)))) ++ os := by rw [hw]; rfl
  have hget : ∀ k, k < w.heap.size → w'.heap[k]? = (w.heap.modify b (onCells (putCells id o (flatK encV (C.k t) d.toArray))))[k]? := fun k hk => by
    rw [hheap, Array.getElem?_append_left (by simpa using hk)]
  have hbb : w'.heap[b]? = some (.cells (putCells id o (flatK encV (C.k t) d.toArray) cur) e (0, 0)) := by
    rw [hget b hbl, Array.getElem?_modify, if_pos rfl, hb]; rfl
  refine ⟨⟨by rw [hw]; rfl, by rw [hw]; rfl, by rw [hw]; rfl, by rw [hheap]; simp, fun k hk hne => ?_⟩, _, hbb, by simp [putCells]; exact hsz, ?_⟩
  · rw [hget k hk, Array.getElem?_modify, if_neg (fun x => hne (by simp [x]))]
  · have hH : HoldsK encV (C.k t) w' b o d.toArray := by
      rw [hw]
      refine holdsK_grow _ _ _ _ _ _ _ ?_ (holdsK_putRowK _ _ _ _ _ s.toArray _ (holdsK_ahead _ _ _ _ _ _ _ hh) (by simp [hl]))
      show b < ((Go.Sort.ahead w n).heap.modify _ _).size
      simpa using hbl
    exact cells_flat F (of_holds F hbb hH)

/-- slices.SortFunc by a closure that holds nothing. -/
theorem good_sort [Inhabited (D.El t)] (F : FlatT t encV) {c : Ctr} {g g0 : Nat} {srt : List (D.El t) → List (D.El t)} {pre : List (D.El t) → Prop} (he : ∀ args w, (callFunc g args).run P w = .ok (.enter g args) w) (hm : c.modes = [.row t, .val false [.flat]])
    (hp : ∀ ms, c.pre ms = true → ∃ s, ms = [.arr t s, .av (.fn g0 [])] ∧ pre s) (hf : ∀ s, c.f [.arr t s, .av (.fn g0 [])] = ([], [.arr t (srt s), .av (.v undef)])) (hsrt : ∀ s, (srt s).length = s.length)
    (hS : ∀ (b o cap : Nat) (s : List (D.El t)) (w : World), pre s → HoldsK encV (C.k t) w b o s.toArray → b < w.heap.size →
      Calls P g #[.slice (some ⟨b, o, none⟩) s.toArray.size cap, .func (.func g0) #[] #[]] w fun e w' => e = .returned (.tuple #[]) ∧ ∃ n os, w' = sortWorldK encV (C.k t) w b o n (srt s).toArray os)
    (hN : ∀ (p : Option Addr) (cap : Nat) (fv : Value) (w : World), Calls P g #[.slice p 0 cap, fv] w fun e w' => e = .returned (.tuple #[]) ∧ w' = w) : Good P g c := by
  refine ⟨he, fun ms vs us w ok hpre _ hlv hlu hnd hno hok hr => ?_⟩
  obtain ⟨s, rfl, hs⟩ := hp ms hpre
  match vs, us, hlv, hlu with
  | [v, u], [fp, fq], _, _ =>
    have hv := hr 0 _ v fp rfl rfl rfl
    have hu := hr 1 _ u fq rfl rfl rfl
    cases hu with
    | av _ _ hu =>
      cases hu with
      | fn f cs vs' hl' hr' =>
        obtain rfl : vs' = [] := by simpa using hl'
        simp only [List.flatten_cons, List.flatten_nil, List.append_nil] at hno hnd ⊢
        have hfin : ∀ (w' : World) (ok' : Nat → Prop), MRep w' ok' (.arr t (srt s)) v fp → ∀ (j : Nat) (q : Mode) (x : MC) (v' : Value) (u : List Nat), c.modes[j]? = some q → (c.f [.arr t s, .av (.fn g0 [])]).2[j]? = some x → [v, Value.func (.func g0) #[] [].toArray][j]? = some v' → [fp, []][j]? = some u → q.kept = true → MRep w' ok' x v' u := by
          intro w' ok' hk j q x v' u hq hx hv' hu hkp
          rw [hf] at hx
          rw [hm] at hq
          match j with
          | 0 => simp at hx hv' hu; subst hx; subst hv'; subst hu; exact hk
          | 1 => simp at hq; subst hq; simp [Mode.kept] at hkp
          | j + 2 => simp at hx
        have hfin0 : ∀ (j : Nat) (q : Mode) (u : List Nat), c.modes[j]? = some q → [fp, []][j]? = some u → q.kept = false → u = [] := by
          intro j q u hq hu hk
          rw [hm] at hq
          match j with
          | 0 => simp at hq; subst hq; simp [Mode.kept] at hk
          | 1 => simp at hu; exact hu
          | j + 2 => simp at hq
        have hres : ∀ (w' : World) (ok' : Nat → Prop) (j : Nat) (x : MC) (v : Value) (u : List Nat), (c.f [.arr t s, .av (.fn g0 [])]).1[j]? = some x → ([] : List Value)[j]? = some v → ([] : List (List Nat))[j]? = some u → MRep w' ok' x v u := by
          intro w' ok' j x v u _ hv _
          simp at hv
        rcases mrow_cases hv with ⟨rfl, rfl, rfl⟩ | ⟨b, o, cap, cur, e, rfl, rfl, hb, hcap, hsz, hc⟩
        · refine (hN none 0 _ w).mono ?_
          rintro e w' ⟨rfl, rfl⟩
          have h0 : srt [] = [] := List.length_eq_zero_iff.1 (by rw [hsrt]; rfl)
          refine ⟨[], [[], []], [], ok, ⟨rfl, ⟨rfl, rfl, rfl, Nat.le_refl _, fun _ _ _ => rfl⟩, fun _ h => h, fun _ h => .inl h, hok, by simp, by simp, rfl, by rw [hf]; rfl, by rw [hf]; rfl, hfin0, hfin _ _ (by rw [h0]; exact .arrNil t), hres _ _⟩⟩
        · have hbl : b < w.heap.size := (Array.getElem?_eq_some_iff.1 hb).1
          have hH := holds_of F hb fun j v hj => flat_cell F hc hj
          have := hS b o cap s w hs hH hbl
          rw [List.size_toArray] at this
          refine this.mono ?_
          rintro e' w' ⟨rfl, n, os, hw⟩
          obtain ⟨hk, cur', h1, h2, h3⟩ := sort_world (ok := ok) F hb hsz hH (hsrt s) hw
          refine ⟨[], [[b], []], [], ok, ⟨rfl, hk, fun _ h => h, fun _ h => .inl h, fun k h => Nat.lt_of_lt_of_le (hok k h) hk.size, by simp, ?_, rfl, by rw [hf]; rfl, by rw [hf]; rfl, hfin0, hfin _ _ ?_, hres _ _⟩⟩
          · intro k hk
            simp at hk
            subst hk
            exact ⟨hno _ (by simp), .inl (by simp)⟩
          · rw [← hsrt s]
            exact .arr b o cap t (srt s) cur' e h1 (by rw [hsrt]; exact hcap) h2 h3

end
end Go.Abs

/-
  The contracts of the shelf at this program, as the kit's lay-plain.mjs printed them.
-/
namespace Go.Proofs
open Go.Shelf
def Try.sortV_ren : Go.Shelf.Ren := ⟨fun | 6 => 29 | 15 => 41 | 14 => 40 | 28 => 51 | 29 => 52 | 20 => 43 | 21 => 44 | 22 => 45 | 23 => 46 | 24 => 47 | 25 => 48 | 26 => 49 | 27 => 50 | 46 => 53 | 47 => 54 | 48 => 55 | 49 => 56 | 50 => 57 | 57 => 58 | n => n, fun | 22 => 37 | 24 => 41 | 25 => 58 | 3 => 3 | 39 => 64 | 0 => 0 | 53 => 73 | 55 => 75 | 4 => 4 | 46 => 67 | 45 => 66 | 50 => 45 | 5 => 5 | 9 => 9 | 66 => 76 | 70 => 80 | 76 => 82 | 77 => 83 | n => n, fun | n => n⟩
theorem Try.sortV : Go.Proofs.SlLaysF0.n6 Try.prog Try.sortV_ren := {
  mixed := by kernel_rfl
  f6 := ⟨Try.f29.name, by decide, Try.func29.trans (congrArg some (by kernel_rfl))⟩
  f14 := ⟨Try.f40.name, by decide, Try.func40.trans (congrArg some (by kernel_rfl))⟩
  f15 := Try.func41.trans (congrArg some (by kernel_rfl))
  f20 := ⟨Try.f43.name, by decide, Try.func43.trans (congrArg some (by kernel_rfl))⟩
  f21 := ⟨Try.f44.name, by decide, Try.func44.trans (congrArg some (by kernel_rfl))⟩
  f22 := ⟨Try.f45.name, by decide, Try.func45.trans (congrArg some (by kernel_rfl))⟩
  f23 := ⟨Try.f46.name, by decide, Try.func46.trans (congrArg some (by kernel_rfl))⟩
  f24 := ⟨Try.f47.name, by decide, Try.func47.trans (congrArg some (by kernel_rfl))⟩
  f25 := ⟨Try.f48.name, by decide, Try.func48.trans (congrArg some (by kernel_rfl))⟩
  f26 := ⟨Try.f49.name, by decide, Try.func49.trans (congrArg some (by kernel_rfl))⟩
  f27 := ⟨Try.f50.name, by decide, Try.func50.trans (congrArg some (by kernel_rfl))⟩
  f28 := Try.func51.trans (congrArg some (by kernel_rfl))
  f29 := Try.func52.trans (congrArg some (by kernel_rfl))
  f46 := ⟨Try.f53.name, by decide, Try.func53.trans (congrArg some (by kernel_rfl))⟩
  f47 := Try.func54.trans (congrArg some (by kernel_rfl))
  f48 := Try.func55.trans (congrArg some (by kernel_rfl))
  f49 := ⟨Try.f56.name, by decide, Try.func56.trans (congrArg some (by kernel_rfl))⟩
  f50 := ⟨Try.f57.name, by decide, Try.func57.trans (congrArg some (by kernel_rfl))⟩
  f57 := ⟨Try.f58.name, by decide, Try.func58.trans (congrArg some (by kernel_rfl))⟩
  t0 := Try.underlying0
  a0 := Try.isAgg0
  z0 := Try.sizeOf0
  v0 := Try.zeroValue0
  t3 := Try.underlying3
  a3 := Try.isAgg3
  z3 := Try.sizeOf3
  v3 := Try.zeroValue3
  t4 := Try.underlying4
  a4 := Try.isAgg4
  z4 := Try.sizeOf4
  v4 := Try.zeroValue4
  t5 := Try.underlying5
  a5 := Try.isAgg5
  z5 := Try.sizeOf5
  v5 := Try.zeroValue5
  t9 := Try.underlying9
  a9 := Try.isAgg9
  z9 := Try.sizeOf9
  v9 := Try.zeroValue9
  t22 := Try.underlying37
  a22 := Try.isAgg37
  z22 := Try.sizeOf37
  v22 := Try.zeroValue37
  t25 := Try.underlying58
  a25 := Try.isAgg58
  z25 := Try.sizeOf58
  v25 := Try.zeroValue58
  t39 := Try.underlying64
  a39 := Try.isAgg64
  z39 := Try.sizeOf64
  v39 := Try.zeroValue64
  t45 := Try.underlying66
  a45 := Try.isAgg66
  z45 := Try.sizeOf66
  v45 := Try.zeroValue66
  t46 := Try.underlying67
  a46 := Try.isAgg67
  z46 := Try.sizeOf67
  v46 := Try.zeroValue67
  t50 := Try.underlying45
  a50 := Try.isAgg45
  z50 := Try.sizeOf45
  v50 := Try.zeroValue45
  t53 := Try.underlying73
  a53 := Try.isAgg73
  z53 := Try.sizeOf73
  v53 := Try.zeroValue73
  t55 := Try.underlying75
  a55 := Try.isAgg75
  z55 := Try.sizeOf75
  v55 := Try.zeroValue75
  t66 := Try.underlying76
  a66 := Try.isAgg76
  z66 := Try.sizeOf76
  v66 := Try.zeroValue76
  t70 := Try.underlying80
  a70 := Try.isAgg80
  z70 := Try.sizeOf80
  v70 := Try.zeroValue80
  t76 := Try.underlying82
  a76 := Try.isAgg82
  z76 := Try.sizeOf82
  v76 := Try.zeroValue82
  t77 := Try.underlying83
  a77 := Try.isAgg83
  z77 := Try.sizeOf83
  v77 := Try.zeroValue83 }
def Try.cloneV_ren : Go.Shelf.Ren := ⟨fun | 41 => 36 | n => n, fun | 22 => 37 | 23 => 41 | 4 => 4 | n => n, fun | n => n⟩
theorem Try.cloneV : Go.Proofs.SlLaysE0.n41 Try.prog Try.cloneV_ren := {
  mixed := by kernel_rfl
  f41 := ⟨Try.f36.name, by decide, Try.func36.trans (congrArg some (by kernel_rfl))⟩
  t4 := Try.underlying4
  a4 := Try.isAgg4
  z4 := Try.sizeOf4
  v4 := Try.zeroValue4
  t22 := Try.underlying37
  a22 := Try.isAgg37
  z22 := Try.sizeOf37
  v22 := Try.zeroValue37 }
def Try.cmpInt_ren : Go.Shelf.Ren := ⟨fun | 5 => 32 | 7 => 42 | n => n, fun | 22 => 3 | 3 => 3 | 4 => 4 | n => n, fun | n => n⟩
theorem Try.cmpInt : Go.Proofs.SlLaysC2.n5 Try.prog Try.cmpInt_ren := {
  mixed := by kernel_rfl
  f5 := ⟨Try.f32.name, by decide, Try.func32.trans (congrArg some (by kernel_rfl))⟩
  f7 := ⟨Try.f42.name, by decide, Try.func42.trans (congrArg some (by kernel_rfl))⟩
  t3 := Try.underlying3
  a3 := Try.isAgg3
  z3 := Try.sizeOf3
  v3 := Try.zeroValue3
  t4 := Try.underlying4
  a4 := Try.isAgg4
  z4 := Try.sizeOf4
  v4 := Try.zeroValue4
  t22 := Try.underlying3
  a22 := Try.isAgg3
  z22 := Try.sizeOf3
  v22 := Try.zeroValue3 }
end Go.Proofs

/-
  The sort of a row of vintages: the closure's contract, by the kit's walk.
-/
namespace Go.Proofs
open Go.Shelf Go.RowKit Go.Lib Go.Sort

set_option maxHeartbeats 4000000 in
/-- cmp.Or of two. -/
theorem Try.or2 (b : Nat) (x y : Int) (c : Nat) (W : World) (h0 : W.cell? ⟨b, 0, none⟩ = some (.int .i64 x)) (h1 : W.cell? ⟨b, 1, none⟩ = some (.int .i64 y)) :
    Calls Try.prog 31 #[.slice (some ⟨b, 0, none⟩) 2 c] W fun e w' => e = .returned (.int .i64 (if x = 0 then y else x)) ∧ w' = W := by
  by_cases hx : x = 0
  · subst hx
    by_cases hy : y = 0
    · subst hy
      go_enter Try.func31, Try.ntmps31
      go_wp2
      refine wp_loop_rounds 3 ?_
      rw [rounds_succ]
      go_wp2
      try rw [rounds_succ]
      try go_wp2
      try rw [rounds_succ]
      try go_wp2
      go_ret
      exact ⟨rfl, rfl⟩
    · have hb : (y != 0) = true := by simp [hy]
      go_enter Try.func31, Try.ntmps31
      go_wp2
      refine wp_loop_rounds 3 ?_
      rw [rounds_succ]
      go_wp2
      try rw [rounds_succ]
      try go_wp2
      try rw [rounds_succ]
      try go_wp2
      go_ret
      exact ⟨by simp, rfl⟩
  · have hb : (x != 0) = true := by simp [hx]
    go_enter Try.func31, Try.ntmps31
    go_wp2
    refine wp_loop_rounds 3 ?_
    rw [rounds_succ]
    go_wp2
    go_ret
    exact ⟨by simp, rfl⟩

set_option maxHeartbeats 4000000 in
/-- The closure. -/
theorem Try.cmpV (a1 a2 a3 b1 b2 b3 : Int) (W : World) : Calls Try.prog 30 #[.agg #[.int .i64 a1, .int .i64 a2, .int .i64 a3], .agg #[.int .i64 b1, .int .i64 b2, .int .i64 b3]] W fun e w' =>
    e = .returned (.int .i64 (if Lib.compareInt a2 b2 = 0 then Lib.compareInt a1 b1 else Lib.compareInt a2 b2)) ∧ ∃ q os', w' = grow (W.drewN q) os' := by
  have hc1 := fun W' => AnyG.cmp_Compare_int Try.cmpInt a2 b2 W'
  change ∀ W', Calls Try.prog 32 _ _ _ at hc1
  have hc2 := fun W' => AnyG.cmp_Compare_int Try.cmpInt a1 b1 W'
  change ∀ W', Calls Try.prog 32 _ _ _ at hc2
  have hor := fun b c W' h0 h1 => Try.or2 b (Lib.compareInt a2 b2) (Lib.compareInt a1 b1) c W' h0 h1
  generalize (if Lib.compareInt a2 b2 = 0 then Lib.compareInt a1 b1 else Lib.compareInt a2 b2) = z at *
  generalize Lib.compareInt a2 b2 = r2 at *
  generalize Lib.compareInt a1 b1 = r1 at *
  go_enter Try.func30, Try.ntmps30
  go_wp2_with fail
  generalize hW2 : (W.alloc (Obj.cells #[Value.int IntKind.i64 a1, Value.int IntKind.i64 a2, Value.int IntKind.i64 a3] 41)).alloc (Obj.cells #[Value.int IntKind.i64 b1, Value.int IntKind.i64 b2, Value.int IntKind.i64 b3] 41) = W2
  have hg : W2 = grow W #[Obj.cells #[Value.int IntKind.i64 a1, Value.int IntKind.i64 a2, Value.int IntKind.i64 a3] 41, Obj.cells #[Value.int IntKind.i64 b1, Value.int IntKind.i64 b2, Value.int IntKind.i64 b3] 41] := by
    rw [← hW2, alloc_eq_grow, alloc_eq_grow, grow_grow]; rfl
  have x0 : W2.drew.cell? ⟨W.heap.size, 0, none⟩ = some (.int .i64 a1) := by subst hW2; exact Lib.cell?_alloc_some _ (World.cell?_alloc_new W _ _ 0)
  have x1 : W2.drew.cell? ⟨W.heap.size, 1, none⟩ = some (.int .i64 a2) := by subst hW2; exact Lib.cell?_alloc_some _ (World.cell?_alloc_new W _ _ 1)
  have y0 : W2.drew.cell? ⟨W.heap.size + 1, 0, none⟩ = some (.int .i64 b1) := by subst hW2; exact World.cell?_alloc_at _ _ _ 0 (by simp)
  have y1 : W2.drew.cell? ⟨W.heap.size + 1, 1, none⟩ = some (.int .i64 b2) := by subst hW2; exact World.cell?_alloc_at _ _ _ 1 (by simp)
  clear hW2
  refine wp_region_still_tail 10 (by kernel_rfl) (by kernel_rfl) ?_
  simp only [List.take_succ_cons, List.take_zero, List.drop_succ_cons, List.drop_zero]
  change wpStill _ _ W2.drew (fun a' => wpList _ _ _ _ a' W2.drew) _ _
  have hg' : ∃ q os', W2.drew = grow (W.drewN q) os' := ⟨1, _, by rw [hg]; rfl⟩
  generalize W2.drew = W3 at *
  clear hg
  repeat still_step
  still_call (hc1 _)
  repeat still_step
  still_call (hc2 _)
  refine wpStill_nil ?_
  go_wp2_with (go_at_call 31; refine (hor _ _ _ ?_ ?_).mono ?_)
  · exact World.cell?_alloc_new W3 _ _ _
  · exact World.cell?_alloc_new W3 _ _ _
  rintro e w' ⟨rfl, rfl⟩
  go_wp2
  go_ret
  obtain ⟨q, os, rfl⟩ := hg'
  exact ⟨rfl, q, _, by rw [alloc_eq_grow, grow_grow]⟩
end Go.Proofs

/-
  CurrentLaws: slices.Clone and slices.SortFunc at vintages.
-/
namespace Go.Proofs.Ytbnmmfjdbdbldaa
open Go.Abs Go.Proofs Go.Sort

def encV (x : Vintage) : List Value := [.int .i64 x.Origin, .int .i64 x.Expiry, .int .i64 x.Left]

theorem flatV : FlatT (C := cod) (t := (.vintage : Tg)) encV where
  enc x := rfl
  len x := rfl
  one x v hv := by simp [encV] at hv; rcases hv with rfl | rfl | rfl <;> rfl
  kpos := by decide

instance instV : Inhabited Vintage := ⟨⟨0, 0, 0⟩⟩
instance instE : Inhabited (dom.El (.vintage : Tg)) := instV

theorem gd36 : Abs.Good Try.prog 36 c36 := by
  refine good_clone (t := (.vintage : Tg)) (encV := encV) (e1 := 41) (bytes := 24) flatV (enters_of Try.func36 (by kernel_rfl) rfl) rfl (fun ms h => ?_) (fun s => rfl) ?_ ?_ (by decide)
  · simp only [c36] at h
    split at h
    · rename_i s; exact ⟨s, rfl, of_decide_eq_true h⟩
    · simp at h
  · intro b off n cap news w h1 h2 h3 h4 h5
    have := AnyE.slices_Clone Try.cloneV _ _ 3 24 rfl rfl rfl rfl rfl (by decide) (fun w => Try.sizeOf41 w) b off n cap news w h1 h2 h3 h4 h5
    exact this
  · intro n cap w
    exact AnyE.slices_Clone_nil Try.cloneV n cap w

/-- Who comes first. -/
def cfV (x y : Vintage) : Int := if Lib.compareInt x.Expiry y.Expiry = 0 then Lib.compareInt x.Origin y.Origin else Lib.compareInt x.Expiry y.Expiry

theorem cfV_iff (x y : Vintage) : ltOf cfV x y = true ↔ x.Expiry < y.Expiry ∨ x.Expiry = y.Expiry ∧ x.Origin < y.Origin := by
  simp only [ltOf, cfV, Lib.compareInt, decide_eq_true_eq]
  by_cases a : x.Expiry < y.Expiry
  · simp [a]
  · by_cases b : y.Expiry < x.Expiry
    · simp [a, b]; omega
    · by_cases c : x.Origin < y.Origin
      · simp [a, b, c]; omega
      · by_cases d : y.Origin < x.Origin
        · simp [a, b, c, d]
        · simp [a, b, c, d]

theorem cfV_swo : SWO (ltOf cfV) where
  irrefl x := by rw [← Bool.not_eq_true, cfV_iff]; omega
  trans x y z h1 h2 := by rw [cfV_iff] at *; omega
  ntrans x y z h1 h2 := by rw [← Bool.not_eq_true, cfV_iff] at *; omega

theorem sortV_of {s : List Vintage} {d' : Array Vintage} (hd : distinct s = true) (hp : PermIn 0 s.toArray.size s.toArray d') (hs : SortedIn (ltOf cfV) 0 s.toArray.size d') : d' = (sortV s).toArray := by
  obtain ⟨hsz, _, hperm⟩ := hp
  have e1 : d'.extract 0 s.toArray.size = d' := by rw [← hsz]; exact Array.extract_size
  rw [e1, Array.extract_size] at hperm
  simp only at hperm
  have : d'.toList = sortV s := by
    refine List.Perm.eq_of_pairwise (le := fun a b => leV a b = true) (fun a b ha hb h1 h2 => ?_) ?_ (List.pairwise_mergeSort leV_trans leV_total _) (hperm.trans (List.mergeSort_perm _ _).symm)
    · refine distinct_eq hd a ((hperm.mem_iff).1 ha) b (((List.mergeSort_perm s leV).mem_iff).1 hb) ?_
      have := leV_iff.1 h1; have := leV_iff.1 h2
      exact sameKey_iff.2 (by omega)
    · rw [List.pairwise_iff_getElem]
      intro i j hi hj hij
      have hi' : i < d'.size := by simpa using hi
      have hj' : j < d'.size := by simpa using hj
      have h := hs i j (Nat.zero_le _) hij (by omega)
      rw [getElem!_pos d' j hj', getElem!_pos d' i hi', ← Bool.not_eq_true, cfV_iff] at h
      rw [leV_iff]
      simp only [Array.getElem_toList]
      omega
  rw [← this]

theorem gd29 : Abs.Good Try.prog 29 c29 := by
  refine good_sort (t := (.vintage : Tg)) (encV := encV) (g0 := 30) (srt := sortV) (pre := fun s => s.length ≤ 1000 ∧ distinct s = true) flatV (enters_of Try.func29 (by kernel_rfl) rfl) rfl (fun ms h => ?_) (fun s => rfl) (fun s => (List.mergeSort_perm s leV).length_eq) ?_ ?_
  · simp only [c29] at h
    split at h
    · rename_i s
      simp only [Bool.and_eq_true, decide_eq_true_eq] at h
      exact ⟨s, rfl, h⟩
    · simp at h
  · intro b o cap s w hs hH hb
    have hcmp : CmpLays Try.prog 30 #[] encV 3 cfV b o s.toArray.size w := fun _ _ _ _ x y => Try.cmpV x.Origin x.Expiry x.Left y.Origin y.Expiry y.Left _
    have := AnyQ.slices_SortFunc Try.sortV 3 Try.isAgg41 Try.sizeOf41 encV (fun x => rfl) flatV.one cfV cfV_swo 30 #[] b o cap s.toArray w (enters_of Try.func30 (by kernel_rfl) rfl) hcmp hH hb (by simp; omega)
    refine this.mono ?_
    rintro e w' ⟨he, d', n, os, hp, hso, hw⟩
    exact ⟨he, n, os, by rw [← sortV_of hs.2 hp hso]; exact hw⟩
  · intro p cap fv w
    exact AnyF.slices_SortFunc_none Try.sortV p cap fv w

end Go.Proofs.Ytbnmmfjdbdbldaa

/-
  CurrentLaws: every function's contract holds.
-/
namespace Go.Proofs.Ytbnmmfjdbdbldaa
open Go.Abs

theorem gd6 : Abs.Good Try.prog 6 c6 := good6 lookC_nil said6

theorem gd13 : Abs.Good Try.prog 13 c13 := good13 (lookC_cons gd6 lookC_nil) said13

theorem gd33 : Abs.Good Try.prog 33 c33 := good33 lookC_nil said33

theorem gd34 : Abs.Good Try.prog 34 c34 := good34 lookC_nil said34

theorem gd12 : Abs.Good Try.prog 12 c12 := good12 (lookC_cons gd33 (lookC_cons gd34 lookC_nil)) said12

theorem gd5 : Abs.Good Try.prog 5 c5 := good5 (lookC_cons gd6 (lookC_cons gd13 (lookC_cons gd12 lookC_nil))) said5

theorem gd10 : Abs.Good Try.prog 10 c10 := good10 lookC_nil said10

theorem gd27 : Abs.Good Try.prog 27 c27 := good27 lookC_nil said27

theorem gd28 : Abs.Good Try.prog 28 c28 := good28 lookC_nil said28

theorem gd9 : Abs.Good Try.prog 9 c9 := good9 lookC_nil said9

theorem gd11 : Abs.Good Try.prog 11 c11 := good11 (lookC_cons gd27 (lookC_cons gd28 (lookC_cons gd9 (lookC_cons gd29 lookC_nil)))) said11

theorem gd4 : Abs.Good Try.prog 4 c4 := good4 (lookC_cons gd10 (lookC_cons gd11 lookC_nil)) said4

theorem gd14 : Abs.Good Try.prog 14 c14 := good14 lookC_nil said14

theorem gd15 : Abs.Good Try.prog 15 c15 := good15 lookC_nil said15

theorem gd35 : Abs.Good Try.prog 35 c35 := good35 (lookC_cons gd28 lookC_nil) said35

theorem gd16 : Abs.Good Try.prog 16 c16 := good16 (lookC_cons gd28 (lookC_cons gd35 lookC_nil)) said16

theorem gd20 : Abs.Good Try.prog 20 c20 := good20 (lookC_cons gd36 lookC_nil) said20

theorem gd17 : Abs.Good Try.prog 17 c17 := good17 (lookC_cons gd20 lookC_nil) said17

theorem gd18 : Abs.Good Try.prog 18 c18 := good18 lookC_nil said18

theorem gd37 : Abs.Good Try.prog 37 c37 := good37 (lookC_cons gd28 (lookC_cons gd14 lookC_nil)) said37

theorem gd21 : Abs.Good Try.prog 21 c21 := good21 (lookC_cons gd37 lookC_nil) said21

theorem gd19 : Abs.Good Try.prog 19 c19 := good19 lookC_nil said19

theorem gd22 : Abs.Good Try.prog 22 c22 := good22 lookC_nil said22

theorem gd38 : Abs.Good Try.prog 38 c38 := good38 lookC_nil said38

theorem gd23 : Abs.Good Try.prog 23 c23 := good23 (lookC_cons gd20 (lookC_cons gd38 lookC_nil)) said23

theorem gd24 : Abs.Good Try.prog 24 c24 := good24 lookC_nil said24

theorem gd7 : Abs.Good Try.prog 7 c7 := good7 (lookC_cons gd14 (lookC_cons gd15 (lookC_cons gd16 (lookC_cons gd17 (lookC_cons gd18 (lookC_cons gd20 (lookC_cons gd21 (lookC_cons gd19 (lookC_cons gd22 (lookC_cons gd23 (lookC_cons gd24 (lookC_cons gd11 lookC_nil)))))))))))) said7

theorem gd8 : Abs.Good Try.prog 8 c8 := good8 (lookC_cons gd10 (lookC_cons gd7 lookC_nil)) said8

theorem gd3 : Abs.Good Try.prog 3 c3 := good3 (lookC_cons gd5 (lookC_cons gd4 (lookC_cons gd6 (lookC_cons gd7 (lookC_cons gd9 (lookC_cons gd8 lookC_nil)))))) said3

end Go.Proofs.Ytbnmmfjdbdbldaa

/-
  The row of CurrentLaws.
-/
namespace Go.Proofs.Ytbnmmfjdbdbldaa
open Go.ChangeShapes Go.WideShapes Go.ChangeAt Go.RowKit

theorem Try.own : ownKnob Try.prog.godebug = none := by kernel_rfl
theorem Try.laidOut : laidOutB Try.prog = true := by kernel_rfl
theorem Try.cells3 : Try.prog.cellsOf 3 = 1 := by kernel_rfl

theorem has_lt {P : Program} {w : World} {r : Reach} {base : Nat} {a : Addr} {e : TypeId} {n : Nat} (h : w.has P r base a e n) : a.spot = none ∧ a.block < w.heap.size := by
  obtain ⟨_, h1, row, cells, h2, _⟩ := h
  refine ⟨h1, ?_⟩
  unfold World.shape? at h2
  by_cases hlt : a.block < w.heap.size
  · exact hlt
  · rw [Array.getElem?_eq_none (by omega)] at h2
    simp at h2

theorem wf_i64 {n : Int} (h : (Lit.int .i64 n).wf = true) : -9223372036854775808 ≤ n ∧ n ≤ 9223372036854775807 := by
  simp [Lit.wf, IntKind.min, IntKind.max, IntKind.signed, IntKind.bits] at h
  omega

theorem mint {w : World} {ok : Nat → Prop} (n : Int) : Abs.MRep w ok (.av (.v (.int .i64 n))) (.int .i64 n) [] := .av _ _ (.v _)

/-- What the call does. -/
theorem f_any (l : List Int) (v0 : Value) (x1 x2 x3 x4 x5 x6 x7 : Int) (W : World) (hl : allI64 l = true) (hv : Abs.MRep W (fun b => b < W.heap.size) (.av (.imm (D := dom) .int l)) v0 []) :
    Calls Try.prog 3 #[v0, .int .i64 x1, .int .i64 x2, .int .i64 x3, .int .i64 x4, .int .i64 x5, .int .i64 x6, .int .i64 x7] W fun e W' => e = .returned (.bool true) ∧ Below W.heap.size W W' := by
  have := gd3.2 [.av (.imm .int l), .av (.v (.int .i64 x1)), .av (.v (.int .i64 x2)), .av (.v (.int .i64 x3)), .av (.v (.int .i64 x4)), .av (.v (.int .i64 x5)), .av (.v (.int .i64 x6)), .av (.v (.int .i64 x7))]
    [v0, .int .i64 x1, .int .i64 x2, .int .i64 x3, .int .i64 x4, .int .i64 x5, .int .i64 x6, .int .i64 x7] [[], [], [], [], [], [], [], []] W (fun b => b < W.heap.size) hl rfl rfl rfl (by simp) (by simp) (fun b h => h) ?_
  · refine Calls.mono this ?_
    rintro e W' ⟨rs, us1, us2, ok', hL⟩
    have hf : c3.f [.av (.imm .int l), .av (.v (.int .i64 x1)), .av (.v (.int .i64 x2)), .av (.v (.int .i64 x3)), .av (.v (.int .i64 x4)), .av (.v (.int .i64 x5)), .av (.v (.int .i64 x6)), .av (.v (.int .i64 x7))] = ([.av (.v (.bool true))], [.av (.v undef), .av (.v undef), .av (.v undef), .av (.v undef), .av (.v undef), .av (.v undef), .av (.v undef), .av (.v undef)]) := rfl
    have l2 := hL.l2; have l3 := hL.l3
    rw [hf] at l2 l3
    match rs, us2, l2, l3, hL with
    | [r], [u], _, _, hL =>
      have hr := hL.res 0 (.av (.v (.bool true))) r u (by rw [hf]; rfl) rfl rfl
      cases hr with
      | av _ _ hr =>
        cases hr
        refine ⟨hL.ret, hL.kept.os, hL.kept.tape, hL.kept.output, hL.kept.size, fun k hk => hL.kept.block k hk (by simp)⟩
  · intro j m v fp hm hv' hfp
    match j with
    | 0 => simp at hm hv' hfp; subst hm; subst hv'; subst hfp; exact hv
    | 1 => simp at hm hv' hfp; subst hm; subst hv'; subst hfp; exact mint _
    | 2 => simp at hm hv' hfp; subst hm; subst hv'; subst hfp; exact mint _
    | 3 => simp at hm hv' hfp; subst hm; subst hv'; subst hfp; exact mint _
    | 4 => simp at hm hv' hfp; subst hm; subst hv'; subst hfp; exact mint _
    | 5 => simp at hm hv' hfp; subst hm; subst hv'; subst hfp; exact mint _
    | 6 => simp at hm hv' hfp; subst hm; subst hv'; subst hfp; exact mint _
    | 7 => simp at hm hv' hfp; subst hm; subst hv'; subst hfp; exact mint _
    | j + 8 => simp at hm

set_option maxRecDepth 100000 in
theorem currentLaws_lifted (os : Os) (started : os.Started) (H : Type) (enc : TypeId × Value → H) :
    ReturnsInHanded {} Try.checked os 3 .any (Rows.currentLawsSpec.pre6 enc Try.prog Try.f3 Rows.currentLawsRow.domain false) (Rows.currentLawsSpec.post enc Try.prog Try.f3 false true false false) := by
  refine returnsInHanded_of_change (C := Try.checked) Try.own started (by kernel_rfl) Try.func3
    (ChangeSpec.witness6 (enc := enc) (C := Try.checked) false ⟨#[], #[.slice none 0 0, .int .i64 0, .int .i64 0, .int .i64 0, .int .i64 0, .int .i64 0, .int .i64 0, .int .i64 0], []⟩ 8 (by kernel_rfl) (by kernel_rfl) (by kernel_rfl) (by kernel_rfl)) ?_
  intro W base args ds gs before hval0 hW hcnd _
  have hval : ∀ (j : Nat) t v, Try.f3.params[j]? = some t → args[j]? = some v → Value.okWide Try.prog W .any base t v := hval0
  have hW' := hW
  obtain ⟨p, q, hA0, hV, rfl, hfz, hnd⟩ := hW
  have hA : DataW.TrodAll enc Try.prog W 0 (fun _ => true) true Try.f3.params.toList args.toList ds p := hA0
  rw [Try.params3] at hA hval
  obtain ⟨v0, vs0, d0, ds0, p0, q0, ha0, rfl, rfl, h0, hA⟩ := trodAll_cons hA
  obtain ⟨v1, vs1, d1, ds1, p1, q1, rfl, rfl, rfl, h1, hA⟩ := trodAll_cons hA
  obtain ⟨v2, vs2, d2, ds2, p2, q2, rfl, rfl, rfl, h2, hA⟩ := trodAll_cons hA
  obtain ⟨v3, vs3, d3, ds3, p3, q3, rfl, rfl, rfl, h3, hA⟩ := trodAll_cons hA
  obtain ⟨v4, vs4, d4, ds4, p4, q4, rfl, rfl, rfl, h4, hA⟩ := trodAll_cons hA
  obtain ⟨v5, vs5, d5, ds5, p5, q5, rfl, rfl, rfl, h5, hA⟩ := trodAll_cons hA
  obtain ⟨v6, vs6, d6, ds6, p6, q6, rfl, rfl, rfl, h6, hA⟩ := trodAll_cons hA
  obtain ⟨v7, vs7, d7, ds7, p7, q7, rfl, rfl, rfl, h7, hA⟩ := trodAll_cons hA
  obtain ⟨rfl, rfl, rfl⟩ := trodAll_nil hA
  obtain rfl : args = #[v0, v1, v2, v3, v4, v5, v6, v7] := by cases args; simp_all
  obtain ⟨rfl, rfl⟩ := trodVars_none hV
  obtain ⟨x1, rfl, rfl, rfl, w1⟩ := open_int Try.underlying3 (hval 1 3 v1 rfl rfl) h1
  obtain ⟨x2, rfl, rfl, rfl, w2⟩ := open_int Try.underlying3 (hval 2 3 v2 rfl rfl) h2
  obtain ⟨x3, rfl, rfl, rfl, w3⟩ := open_int Try.underlying3 (hval 3 3 v3 rfl rfl) h3
  obtain ⟨x4, rfl, rfl, rfl, w4⟩ := open_int Try.underlying3 (hval 4 3 v4 rfl rfl) h4
  obtain ⟨x5, rfl, rfl, rfl, w5⟩ := open_int Try.underlying3 (hval 5 3 v5 rfl rfl) h5
  obtain ⟨x6, rfl, rfl, rfl, w6⟩ := open_int Try.underlying3 (hval 6 3 v6 rfl rfl) h6
  obtain ⟨x7, rfl, rfl, rfl, w7⟩ := open_int Try.underlying3 (hval 7 3 v7 rfl rfl) h7
  clear hA0 hval0
  simp only [List.append_nil] at hW'
  have hlt : ∀ x ∈ p0, x.block < W.heap.size := fun x hx => by simpa using hW'.lt x hx
  have hkey : ∃ l : List Int, allI64 l = true ∧ Abs.MRep W (fun b => b < W.heap.size) (.av (.imm (D := dom) .int l)) v0 [] := by
    have hok := hval 0 22 v0 rfl rfl
    obtain ⟨a0, len, cap, rfl⟩ := okWide_slice Try.underlying22 hok
    obtain ⟨fuel, hf⟩ := h0
    rcases open_ints Try.underlying22 Try.underlying3 Try.cells3 hf with ⟨hcs, _⟩ | ⟨a, len', cap', zs, hcs, _, hl, hm, hz, _, hcell, hwz⟩
    · simp [Value.cells] at hcs
      obtain ⟨rfl, rfl, rfl⟩ := hcs
      exact ⟨[], rfl, .av _ _ (.immNil _)⟩
    · simp [Value.cells] at hcs
      obtain ⟨rfl, rfl, rfl⟩ := hcs
      simp only [if_true] at hz
      have hh : World.has Try.prog W .any base a 3 cap := by
        simp only [Value.okWide, Try.underlying22, Cell.okWide, Cell.ok] at hok
        exact hok.2.2
      obtain ⟨hs, hb⟩ := has_lt hh
      obtain ⟨b, o, spot⟩ := a
      obtain rfl : spot = none := hs
      refine ⟨zs.take len, ?_, ?_⟩
      · simp only [allI64, List.all_eq_true]
        intro n hn
        have := wf_i64 (hwz n (List.mem_of_mem_take hn))
        simp only [i64, Bool.and_eq_true, decide_eq_true_eq]
        omega
      · have e : len = (zs.take len).length := by rw [List.length_take]; omega
        refine .av _ _ ?_
        have hrep := Abs.VRep.imm (C := cod) (w := W) (ok := fun b => b < W.heap.size) (μ := Abs.NoPl) (.int : Tg) (zs.take len) b o cap hb (by rw [← e]; exact hl) (fun i _ => .int .i64 (zs.getD i 0)) ?_ ?_
        · rw [← e] at hrep; exact hrep
        · intro i x hx j a ha
          have hi : i < zs.length := by
            have := (List.getElem?_eq_some_iff.1 hx).1
            rw [List.length_take] at this; omega
          match j with
          | 0 =>
            have := hcell i hi
            rw [Addr.add_lit] at this
            simpa [Abs.Coding.k, cod] using this
          | j + 1 => simp [Abs.Coding.enc, cod] at ha
        · intro i x hx j a ha
          match j with
          | 0 =>
            obtain rfl : Abs.AV.v (.int .i64 x) = a := by simpa [Abs.Coding.enc, cod] using ha
            have : zs.getD i 0 = x := by
              rw [List.getElem?_take] at hx
              split at hx
              · rw [List.getD_eq_getElem?_getD, hx]; rfl
              · simp at hx
            rw [this]
            exact .v _
          | j + 1 => simp [Abs.Coding.enc, cod] at ha
  obtain ⟨l, hl, hv⟩ := hkey
  refine (f_any l v0 x1 x2 x3 x4 x5 x6 x7 W hl hv).mono fun e W' ⟨he, hb⟩ => ?_
  subst he
  refine ⟨_, rfl, _, _, _, [], p0, [], hW', ?_, ?_, ?_, hb.frame _, fun h => by cases h⟩
  · exact trodAll_mk1 (shut_bool Try.underlying4 true)
  · have := Below.trod Try.laidOut (by kernel_rfl) (of_decide_eq_true (by kernel_rfl)) h0 hb hlt
    have hall := trodAll_cons_mk this (trodAll_cons_mk (shut_int Try.underlying3 w1) (trodAll_cons_mk (shut_int Try.underlying3 w2) (trodAll_cons_mk (shut_int Try.underlying3 w3) (trodAll_cons_mk (shut_int Try.underlying3 w4) (trodAll_cons_mk (shut_int Try.underlying3 w5) (trodAll_cons_mk (shut_int Try.underlying3 w6) (trodAll_mk1 (shut_int Try.underlying3 w7))))))))
    simp only [List.append_nil] at hall
    exact hall
  · rfl

theorem currentLaws_holds : Rows.CurrentLawsSaid :=
  OpenClaim.holds_of_wide 3 Try.f3 rfl rfl rfl rfl rfl rfl rfl ⟨rfl, rfl, rfl, rfl, rfl⟩ rfl rfl rfl rfl rfl (by kernel_rfl) Try.func3 (by kernel_rfl)
    (of_decide_eq_true (by kernel_rfl)) (by unfold Func.isWrapper; first | (rw [if_pos (by decide +kernel)]; kernel_rfl) | (rw [if_neg (by decide +kernel)]; exact ⟨rfl, rfl⟩))
    (fun os started H enc _ => currentLaws_lifted os started H enc)

end Go.Proofs.Ytbnmmfjdbdbldaa
