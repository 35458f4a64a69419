/-
  CurrentLaws returns true at every input, and its arguments read behind the call as they read before; no condition. Part 2 of 5.
-/
import Derived.Test.YtbnmmfjdbdbldaaM1
import Derived.LoopN
import Derived.ScopeJumps
import Derived.Calls
import Derived.KernelRfl

/-
  Soundness of the abstract machine: giving up places and numbering them anew.
-/
namespace Go.Abs

section
variable [D : Dom] [C : Coding] {P : Program}
variable {B : Base} {w w' : World} {ok ok' : Nat → Prop} {μ μ' : Nat → Pl} {F F' : FS} {h : Hp} {cfs : List (Array Value)} {st : St} {tmps : Array Value}

def renP (μ : Nat → Pl) (rs : List Nat) : Nat → Pl := fun i => match nth rs i with | some l => μ l | none => .gone

omit D C in
theorem idxN_some {l : Nat} : ∀ {rs : List Nat} {i0 i : Nat}, idxN l rs i0 = some i → i0 ≤ i ∧ nth rs (i - i0) = some l
  | [], i0, i, h => by simp [idxN] at h
  | x :: rs, i0, i, h => by
    simp only [idxN] at h
    cases hx : Nat.beq x l <;> rw [hx] at h
    · simp only [cond_false] at h
      obtain ⟨h1, h2⟩ := idxN_some h
      refine ⟨by omega, ?_⟩
      rw [show i - i0 = (i - (i0 + 1)) + 1 by omega]
      exact h2
    · simp at h; subst h
      have := Nat.eq_of_beq_eq_true hx
      subst this
      exact ⟨Nat.le_refl _, by rw [Nat.sub_self]; rfl⟩

omit D C in
theorem place_some {l i : Nat} {rs : List Nat} (h : place? rs l = some i) : renP μ rs i = μ l := by
  obtain ⟨_, h2⟩ := idxN_some h
  simp only [Nat.sub_zero] at h2
  simp [renP, h2]

omit C in
theorem renL_get {rs : List Nat} : ∀ {cs cs' : List AV}, renL rs cs = some cs' → cs'.length = cs.length ∧ ∀ (i : Nat) (a' : AV), cs'[i]? = some a' → ∃ a, cs[i]? = some a ∧ ren rs a = some a'
  | [], cs', h => by simp [renL] at h; subst h; exact ⟨rfl, fun i a' h => by simp at h⟩
  | c :: cs, cs', h => by
    simp only [renL] at h
    split at h
    · rename_i a ha
      split at h
      · rename_i as has
        simp at h; subst h
        obtain ⟨h1, h2⟩ := renL_get has
        refine ⟨by simp [h1], fun i a' hi => ?_⟩
        cases i with
        | zero => simp at hi; subst hi; exact ⟨c, rfl, ha⟩
        | succ i => exact h2 i a' (by simpa using hi)
      · simp at h
    · simp at h

theorem ren_rep (L : Lawful P) {rs : List Nat} {a : AV} {v : Value} (hv : VRep w ok μ a v) : ∀ {a' : AV}, ren rs a = some a' → VRep w ok (renP μ rs) a' v := by
  have list : ∀ {cs : List AV} {vs : List Value} (_ : vs.length = cs.length) (_ : ∀ (i : Nat) (a : AV) (v : Value), cs[i]? = some a → vs[i]? = some v → ∀ {a' : AV}, ren rs a = some a' → VRep w ok (renP μ rs) a' v) {cs' : List AV},
      renL rs cs = some cs' → vs.length = cs'.length ∧ ∀ (i : Nat) (a : AV) (v : Value), cs'[i]? = some a → vs[i]? = some v → VRep w ok (renP μ rs) a v := by
    intro cs vs hl ih cs' h
    obtain ⟨h1, h2⟩ := renL_get h
    exact ⟨by omega, fun i a v ha hvi => let ⟨b, b1, b2⟩ := h2 i a ha; ih i b v b1 hvi b2⟩
  induction hv with
  | v x => intro a' h; simp [ren] at h; subst h; exact .v x
  | ptr l off b hμ =>
    intro a' h; simp only [ren] at h
    split at h
    · rename_i i hi; simp at h; subst h; exact .ptr i off b ((place_some hi).trans hμ)
    · simp at h
  | ept l i off b o n cap k hμ =>
    intro a' h; simp only [ren] at h
    split at h
    · rename_i j hj; simp at h; subst h; exact .ept j i off b o n cap k ((place_some hj).trans hμ)
    · simp at h
  | sl l b o n cap k hμ =>
    intro a' h; simp only [ren] at h
    split at h
    · rename_i j hj; simp at h; subst h; exact .sl j b o n cap k ((place_some hj).trans hμ)
    · simp at h
  | slNil l hμ =>
    intro a' h; simp only [ren] at h
    split at h
    · rename_i j hj; simp at h; subst h; exact .slNil j ((place_some hj).trans hμ)
    · simp at h
  | fsl l n k b hμ =>
    intro a' h; simp only [ren] at h
    split at h
    · rename_i j hj; simp at h; subst h; exact .fsl j n k b ((place_some hj).trans hμ)
    · simp at h
  | immNil t => intro a' h; simp [ren] at h; subst h; exact .immNil t
  | imm t xs b o cap h1 h2 u h3 h4 => intro a' h; simp [ren] at h; subst h; exact (VRep.imm t xs b o cap h1 h2 u h3 h4).free L rfl
  | imp t x off b o h1 u h2 h3 => intro a' h; simp [ren] at h; subst h; exact (VRep.imp t x off b o h1 u h2 h3).free L rfl
  | fn f cs vs hl hr ih =>
    intro a' h; simp only [ren] at h
    split at h
    · rename_i cs' hc; simp at h; subst h
      obtain ⟨l1, l2⟩ := list hl (fun i a v ha hv => ih i a v ha hv) hc
      exact .fn f cs' vs l1 l2
    · simp at h
  | agg cs vs hl h1 hr ih =>
    intro a' h; simp only [ren] at h
    split at h
    · rename_i cs' hc; simp at h; subst h
      obtain ⟨l1, l2⟩ := list hl (fun i a v ha hv => ih i a v ha hv) hc
      exact .agg cs' vs l1 h1 l2
    · simp at h
  | tup cs vs hl hr ih =>
    intro a' h; simp only [ren] at h
    split at h
    · rename_i cs' hc; simp at h; subst h
      obtain ⟨l1, l2⟩ := list hl (fun i a v ha hv => ih i a v ha hv) hc
      exact .tup cs' vs l1 l2
    · simp at h

omit C in
theorem keepT_get {keep : List Nat} : ∀ {tm : List (Option AV)} {i t : Nat} {a : AV}, get? (keepT keep i tm) t = some a → get? tm t = some a
  | [], i, t, a, h => by simp [keepT, get?, nth] at h
  | x :: tm, i, 0, a, h => by
    unfold get? at h ⊢
    simp only [keepT, nth] at h ⊢
    cases hk : memN i keep <;> rw [hk] at h <;> simp at h ⊢ <;> exact h
  | x :: tm, i, t + 1, a, h => by
    have := keepT_get (keep := keep) (tm := tm) (i := i + 1) (t := t) (a := a)
    unfold get? at this h ⊢
    simp only [keepT, nth] at h ⊢
    exact this h

omit C in
theorem keepT_len {keep : List Nat} : ∀ {tm : List (Option AV)} {i : Nat}, (keepT keep i tm).length = tm.length
  | [], i => rfl
  | x :: tm, i => by simp [keepT, keepT_len (tm := tm)]

omit C in
theorem renT_len {rs : List Nat} : ∀ {tm : List (Option AV)}, (renT rs tm).length = tm.length
  | [] => rfl
  | none :: tm => by simp [renT, renT_len (tm := tm)]
  | some a :: tm => by simp [renT, renT_len (tm := tm)]

omit C in
theorem renT_get {rs : List Nat} : ∀ {tm : List (Option AV)} {t : Nat} {a' : AV}, get? (renT rs tm) t = some a' → ∃ a, get? tm t = some a ∧ ren rs a = some a'
  | [], t, a', h => by simp [renT, get?, nth] at h
  | none :: tm, 0, a', h => by simp [renT, get?, nth] at h
  | some a :: tm, 0, a', h => by
    unfold get? at h ⊢
    simp only [renT, nth] at h ⊢
    cases hr : ren rs a <;> rw [hr] at h <;> simp at h
    subst h
    exact ⟨a, rfl, hr⟩
  | none :: tm, t + 1, a', h => renT_get (tm := tm) (t := t) h
  | some a :: tm, t + 1, a', h => renT_get (tm := tm) (t := t) h

theorem TRep.ren (L : Lawful P) {tm : List (Option AV)} (ht : TRep w ok μ tm tmps) (rs : List Nat) : TRep w ok (renP μ rs) (renT rs tm) tmps :=
  ⟨by rw [renT_len, ht.len], fun t a' h => let ⟨a, h1, h2⟩ := renT_get h; ren_rep L (ht.rep t a h1) h2⟩

theorem FRep.ren (L : Lawful P) (rs : List Nat) : ∀ {fs : List (List (Option AV))} {cfs : List (Array Value)}, FRep w ok μ fs cfs → FRep w ok (renP μ rs) (fs.map (renT rs)) cfs
  | [], [], _ => trivial
  | _ :: _, _ :: _, h => ⟨h.1.ren L rs, FRep.ren L rs h.2⟩
  | [], _ :: _, h => h.elim
  | _ :: _, [], h => h.elim

theorem BRep.ren (L : Lawful P) (rs : List Nat) {p : Pl} {b : Blk} (hr : BRep w ok μ p b) : BRep w ok (renP μ rs) p (renB rs b) := by
  have free : ∀ {t : D.Tag} {x : D.El t} {j : Nat} {a : AV}, (C.enc t x)[j]? = some a → locfree a = true := fun ha => allA_get (L.enc_free _ _) ha
  cases hr with
  | dead => exact .dead _
  | cells b cs cur e h1 h2 =>
    show BRep w ok (renP μ rs) (.at b) (match renL rs cs with | some cs => .cells cs | none => .dead)
    cases hc : renL rs cs with
    | some cs' =>
      obtain ⟨l1, l2⟩ := renL_get hc
      refine .cells b cs' cur e h1 fun j a ha => ?_
      obtain ⟨a0, a1, a2⟩ := l2 j a ha
      obtain ⟨u, u1, u2, u3⟩ := h2 j a0 a1
      exact ⟨u, u1, u2, ren_rep L u3 a2⟩
    | none => exact .dead _
  | arrNil t => exact .arrNil t
  | arr b o cap t xs cur e h1 h2 h3 h4 => exact .arr b o cap t xs cur e h1 h2 h3 fun i x hx j a ha => let ⟨u, u1, u2, u3⟩ := h4 i x hx j a ha; ⟨u, u1, u2, u3.free L (free ha)⟩
  | fzNil t => exact .fzNil t
  | fz b o cap t xs h1 h2 u h3 h4 => exact .fz b o cap t xs h1 h2 u h3 fun i x hx j a ha => (h4 i x hx j a ha).free L (free ha)

omit C in
theorem renB_live {rs : List Nat} {b : Blk} (h : live (renB rs b) = true) : live b = true := by
  cases b <;> simp_all [renB, live]

omit D C in
theorem memN_iff {l : Nat} : ∀ {xs : List Nat}, memN l xs = true ↔ l ∈ xs
  | [] => by simp [memN]
  | x :: xs => by
    simp only [memN]
    cases hx : Nat.beq x l
    · simp only [cond_false, memN_iff (xs := xs), List.mem_cons]
      have : l ≠ x := fun e => by subst e; simp [Nat.beq_refl] at hx
      simp [this]
    · have := Nat.eq_of_beq_eq_true hx
      simp [this]

omit C in
theorem reach_nodup (h : Hp) : ∀ (n : Nat) (ls seen : List Nat), seen.Nodup → (reach h n ls seen).Nodup
  | 0, _, _, hs => hs
  | _ + 1, [], _, hs => hs
  | n + 1, l :: ls, seen, hs => by
    simp only [reach]
    cases hm : memN l seen
    · simp only [cond_false]
      refine reach_nodup h n _ _ ?_
      rw [List.nodup_append]
      refine ⟨hs, by simp, fun a ha b hb e => ?_⟩
      simp at hb; subst hb; subst e
      rw [memN_iff.2 ha] at hm
      simp at hm
    · simp only [cond_true]
      exact reach_nodup h n _ _ hs

omit D C in
theorem nth_map {α β : Type} (f : α → β) : ∀ (l : List α) (i : Nat), nth (l.map f) i = (nth l i).map f
  | [], i => rfl
  | x :: l, 0 => rfl
  | x :: l, i + 1 => nth_map f l i

theorem Sim.gc (L : Lawful P) (hs : Sim B F cfs ok μ st tmps w) (keep : List Nat) : ∃ μ', Sim B All cfs ok μ' (gcA keep st) tmps w := by
  let tm := keepT keep 0 st.tm
  let rs := reach st.hp 1000 (locsT tm ++ st.fs.flatMap locsT) []
  have hnd : rs.Nodup := reach_nodup st.hp 1000 _ _ (by simp)
  have hkeep : TRep w ok μ tm tmps := ⟨by show (keepT keep 0 st.tm).length = _; rw [keepT_len, hs.tm.len], fun t a ha => hs.tm.rep t a (keepT_get ha)⟩
  have hhp : ∀ i, (gcA keep st).hp i = match nth rs i with | some l => renB rs (st.hp l) | none => .dead := by
    intro i
    show hpL (rs.map fun l => renB rs (st.hp l)) i = _
    unfold hpL
    rw [nth_map]
    cases nth rs i <;> rfl
  have hlive : ∀ i, live ((gcA keep st).hp i) = true → ∃ l, nth rs i = some l ∧ live (st.hp l) = true := by
    intro i hi
    rw [hhp i] at hi
    cases hn : nth rs i with
    | none => rw [hn] at hi; simp [live] at hi
    | some l => rw [hn] at hi; exact ⟨l, rfl, renB_live hi⟩
  have hpl : ∀ i l, nth rs i = some l → renP μ rs i = μ l := fun i l h => by simp [renP, h]
  refine ⟨renP μ rs, ⟨hs.heap.goes, fun i => ?_, fun i j b hij hi hj hbi hbj => ?_, fun i b hi hb => ?_, hs.heap.okb, hs.heap.okm, hs.heap.oko⟩, hkeep.ren L rs, hs.fs.ren L rs, Nat.zero_le _, fun l hl _ => ?_⟩
  · rw [hhp i]
    cases hn : nth rs i with
    | none => exact .dead _
    | some l => rw [hpl i l hn]; exact (hs.heap.rep l).ren L rs
  · obtain ⟨l, l1, l2⟩ := hlive i hi
    obtain ⟨m, m1, m2⟩ := hlive j hj
    rw [hpl i l l1] at hbi
    rw [hpl j m m1] at hbj
    refine hs.heap.inj l m b (fun e => hij ?_) l2 m2 hbi hbj
    subst e
    rw [nth_eq] at l1 m1
    obtain ⟨li, l1⟩ := List.getElem?_eq_some_iff.1 l1
    obtain ⟨mi, m1⟩ := List.getElem?_eq_some_iff.1 m1
    exact (List.getElem_inj hnd).1 (l1.trans m1.symm)
  · obtain ⟨l, l1, l2⟩ := hlive i hi
    rw [hpl i l l1] at hb
    exact hs.heap.nok l b l2 hb
  · have hl : rs.length ≤ l := hl.resolve_right (Nat.not_lt_zero l)
    have hn : nth rs l = none := by rw [nth_eq]; exact List.getElem?_eq_none hl
    exact ⟨by rw [hhp l, hn], by simp [renP, hn]⟩

end
end Go.Abs

/-
  Soundness of the abstract machine: code.
-/
namespace Go.Abs

section
variable [D : Dom] [C : Coding] {P : Program}
variable {B : Base} {w w' : World} {ok ok' : Nat → Prop} {μ μ' : Nat → Pl} {F F' : FS} {h : Hp} {cfs : List (Array Value)} {st : St} {tmps : Array Value}

def exOf : Ex → Exit
  | .normal => .normal
  | .exit id => .exit id
  | .ret => .ret
  | .goto l => .goto l

/-- A region that draws its order. -/
def DrawOK (P : Program) {α : Type} (call : Nat → List AV → St → (AV → St → Lg → Option α) → Option α) (r : α) : Prop :=
  ∀ (B : Base) (cfs : List (Array Value)) (ops : Array Oper) (id : Nat) (st : St) (K : St → Option α) (ok : Nat → Prop) (μ : Nat → Pl) (tmps : Array Value) (w : World) (ds : List Deferred) (Q : Exit → Act → World → Prop),
    (drawA P call ops.toList st.nx 0 ops.toList st [] fun st' gs => bif backA 0 ops.toList && okA ops.toList (aheadA ops.toList []) [] gs then K { st' with nx := st.nx + 64 * gs.length } else none) = some r →
    Sim B All cfs ok μ st tmps w → (∀ st' ok' μ' t w', K st' = some r → Sim B All cfs ok' μ' st' t w' → Q .normal ⟨t, ds⟩ w') → (Code.region id ops true).wp P Q ⟨tmps, ds⟩ w

theorem iterA_sound {α : Type} (L : Lawful P) {r : α} {c : Code} {f : St → (Ex → St → Option α) → Option α} (keep : List Nat) (ds : List Deferred) {Q : Exit → Act → World → Prop} {K : Ex → St → Option α}
    (hf : ∀ (st : St) (K : Ex → St → Option α) (ok : Nat → Prop) (μ : Nat → Pl) (tmps : Array Value) (w : World) (Q : Exit → Act → World → Prop), f st K = some r → Sim B All cfs ok μ st tmps w →
      (∀ e st' ok' μ' t w', K e st' = some r → Sim B All cfs ok' μ' st' t w' → Q (exOf e) ⟨t, ds⟩ w') → c.wp P Q ⟨tmps, ds⟩ w)
    (hK : ∀ e st' ok' μ' t w', K e st' = some r → Sim B All cfs ok' μ' st' t w' → Q (exOf e) ⟨t, ds⟩ w') :
    ∀ (n : Nat) (st : St) (ok : Nat → Prop) (μ : Nat → Pl) (tmps : Array Value) (w : World), iterA keep f n st K = some r → Sim B All cfs ok μ st tmps w → Code.rounds P c Q n ⟨tmps, ds⟩ w
  | 0, st, ok, μ, tmps, w, h, _ => by simp [iterA] at h
  | n + 1, st, ok, μ, tmps, w, h, hs => by
    rw [rounds_succ]
    refine (hf st _ ok μ tmps w _ h hs fun e st' ok' μ' t w' hk hs' => ?_)
    cases e with
    | normal =>
      obtain ⟨μ2, hs2⟩ := hs'.gc L keep
      exact iterA_sound L keep ds hf hK n _ ok' μ2 t w' hk hs2
    | exit id =>
      obtain ⟨μ2, hs2⟩ := hs'.gc L keep
      exact hK _ _ _ _ _ _ hk hs2
    | ret =>
      obtain ⟨μ2, hs2⟩ := hs'.gc L keep
      exact hK _ _ _ _ _ _ hk hs2
    | goto l =>
      obtain ⟨μ2, hs2⟩ := hs'.gc L keep
      exact hK _ _ _ _ _ _ hk hs2

theorem runA_sound {α : Type} (L : Lawful P) {call dcall : Nat → List AV → St → (AV → St → Lg → Option α) → Option α} {r : α} (hcall : CallOK P All call r) (hdraw : DrawOK P dcall r) (fuel : Nat → Nat) (keep : Nat → List Nat) (ds : List Deferred) :
    ∀ (c : Code) (st : St) (K : Ex → St → Option α) (ok : Nat → Prop) (μ : Nat → Pl) (tmps : Array Value) (w : World) (Q : Exit → Act → World → Prop), runA P call dcall fuel keep c st K = some r → Sim B All cfs ok μ st tmps w →
      (∀ e st' ok' μ' t w', K e st' = some r → Sim B All cfs ok' μ' st' t w' → Q (exOf e) ⟨t, ds⟩ w') → c.wp P Q ⟨tmps, ds⟩ w := by
  intro c
  induction c with
  | skip => intro st K ok μ tmps w Q h hs hK; exact wp_skip (hK .normal _ _ _ _ _ h hs)
  | region id ops draw =>
    intro st K ok μ tmps w Q h hs hK
    simp only [runA] at h
    cases draw with
    | true => exact hdraw B cfs ops id st _ ok μ tmps w ds Q h hs fun st' ok' μ' t w' hk hs' => hK .normal _ _ _ _ _ hk hs'
    | false => exact wp_region_list (opsA_sound hcall ds ops.toList st ok μ tmps w h hs fun st' ok' μ' t w' hk hs' => hK .normal _ _ _ _ _ hk hs')
  | seq a b iha ihb =>
    intro st K ok μ tmps w Q h hs hK
    simp only [runA] at h
    refine wp_seq (iha st _ ok μ tmps w _ h hs fun e st' ok' μ' t w' hk hs' => ?_)
    cases e with
    | normal => exact ihb st' K ok' μ' t w' Q hk hs' hK
    | exit id => exact hK _ _ _ _ _ _ hk hs'
    | ret => exact hK _ _ _ _ _ _ hk hs'
    | goto l => exact hK _ _ _ _ _ _ hk hs'
  | cond x a b iha ihb =>
    intro st K ok μ tmps w Q h hs hK
    simp only [runA] at h
    split at h
    · rename_i c hc
      have hv := (evalA_rep hs.tm hc ds).eqv
      cases c with
      | true => exact wp_cond_true hv (iha st K ok μ tmps w Q h hs hK)
      | false => exact wp_cond_false hv (ihb st K ok μ tmps w Q h hs hK)
    · simp at h
  | block id b ih =>
    intro st K ok μ tmps w Q h hs hK
    simp only [runA] at h
    refine wp_block (ih st _ ok μ tmps w _ h hs fun e st' ok' μ' t w' hk hs' => ?_)
    cases e with
    | normal => exact hK .normal _ _ _ _ _ hk hs'
    | exit i =>
      simp only [exOf, Exit.inBlock]
      simp only at hk
      cases hi : Nat.beq i id <;> rw [hi] at hk
      · have hne : i ≠ id := fun e => by subst e; simp [Nat.beq_refl] at hi
        rw [if_neg hne]
        exact hK (.exit i) _ _ _ _ _ hk hs'
      · rw [if_pos (Nat.eq_of_beq_eq_true hi)]
        exact hK .normal _ _ _ _ _ hk hs'
    | ret => exact hK .ret _ _ _ _ _ hk hs'
    | goto l => exact hK (.goto l) _ _ _ _ _ hk hs'
  | loop b ih =>
    intro st K ok μ tmps w Q h hs hK
    simp only [runA] at h
    obtain ⟨μ2, hs2⟩ := hs.gc L (keep ((keyC b).getD 0))
    exact wp_loop_rounds _ (iterA_sound L _ ds (fun st K ok μ tmps w Q h hs hK => ih st K ok μ tmps w Q h hs hK) hK _ _ ok μ2 tmps w h hs2)
  | exit id => intro st K ok μ tmps w Q h hs hK; exact wp_exit (hK (.exit id) _ _ _ _ _ h hs)
  | ret => intro st K ok μ tmps w Q h hs hK; exact wp_ret (hK .ret _ _ _ _ _ h hs)
  | label l => intro st K ok μ tmps w Q h hs hK; exact wp_label (hK .normal _ _ _ _ _ h hs)
  | goto l => intro st K ok μ tmps w Q h hs hK; exact wp_goto (hK (.goto l) _ _ _ _ _ h hs)
  | _ => intro st K ok μ tmps w Q h; simp [runA] at h

omit D C in
theorem least {p : Nat → Prop} : ∀ n, p n → ∃ m, p m ∧ ∀ k, p k → m ≤ k := by
  intro n
  induction n using Nat.strongRecOn with
  | ind n ih =>
    intro hn
    by_cases h : ∃ k, k < n ∧ p k
    · obtain ⟨k, hk, hp⟩ := h
      exact ih k hk hp
    · exact ⟨n, hn, fun k hk => Nat.le_of_not_lt fun hlt => h ⟨k, hlt, hk⟩⟩

theorem runSc_sound {α : Type} (L : Lawful P) {call dcall : Nat → List AV → St → (AV → St → Lg → Option α) → Option α} {r : α} (hcall : CallOK P All call r) (hdraw : DrawOK P dcall r) (fuel : Nat → Nat) (keep : Nat → List Nat) (ds : List Deferred)
    (c : Code) (st : St) (K : Ex → St → Option α) (ok : Nat → Prop) (μ : Nat → Pl) (tmps : Array Value) (w : World) (Q : Exit → Act → World → Prop) (h : runSc P call dcall fuel keep c st K = some r) (hs : Sim B All cfs ok μ st tmps w)
    (hg : ∀ l st', K (.goto l) st' ≠ some r)
    (hK : ∀ e st' ok' μ' t w', K e st' = some r → Sim B All cfs ok' μ' st' t w' → Q (exOf e) ⟨t, ds⟩ w') : c.wp P Q ⟨tmps, ds⟩ w := by
  unfold runSc at h
  split at h
  · rename_i a b
    generalize hl : labelOf b = l at h
    split at h
    · rename_i rest hf
      refine wp_seq (runA_sound L hcall hdraw fuel keep ds a st _ ok μ tmps w _ h hs fun e st' ok' μ' t w' hk hs' => ?_)
      cases e with
      | normal =>
        let Jn : Nat → Act → World → Prop := fun n a w => ∃ st2 ok2 μ2 t2, a = ⟨t2, ds⟩ ∧ jumpA (keep 1000) l (runA P call dcall fuel keep rest) n st2 K = some r ∧ Sim B All cfs ok2 μ2 st2 t2 w
        let J : Act → World → Prop := fun a w => ∃ n, Jn n a w
        have ex : ∀ a w, ∃ k, J a w → Jn k a w ∧ ∀ j, Jn j a w → k ≤ j := fun a w => by
          by_cases hx : J a w
          · obtain ⟨n, hn⟩ := hx
            obtain ⟨k, k1, k2⟩ := least (p := fun n => Jn n a w) n hn
            exact ⟨k, fun _ => ⟨k1, k2⟩⟩
          · exact ⟨0, fun h => absurd h hx⟩
        let m : Act → World → Nat := fun a w => (ex a w).choose
        have hm : ∀ a w, J a w → Jn (m a w) a w ∧ ∀ k, Jn k a w → m a w ≤ k := fun a w => (ex a w).choose_spec
        refine wp_scope_jumps l J m hf (runA_sound L hcall hdraw fuel keep ds b st' _ ok' μ' t w' _ hk hs' fun e st2 ok2 μ2 t2 w2 hk2 hs2 => ?_) ?_
        · cases e with
          | normal => exact hK _ _ _ _ _ _ hk2 hs2
          | exit id => exact hK _ _ _ _ _ _ hk2 hs2
          | ret => exact hK _ _ _ _ _ _ hk2 hs2
          | goto l' =>
            simp only [Bool.cond_eq_ite] at hk2
            split at hk2
            · rename_i hb
              obtain ⟨μ3, hs3⟩ := hs2.gc L (keep 1000)
              exact ⟨Nat.eq_of_beq_eq_true hb, _, _, _, _, _, rfl, hk2, hs3⟩
            · simp at hk2
        · intro a1 w1 hJ
          obtain ⟨⟨st2, ok2, μ2, t2, rfl, hj, hs2⟩, hmin⟩ := hm a1 w1 hJ
          generalize hn : m ⟨t2, ds⟩ w1 = n at hj hmin
          cases n with
          | zero => simp [jumpA] at hj
          | succ n =>
            simp only [jumpA] at hj
            refine runA_sound L hcall hdraw fuel keep ds rest st2 _ ok2 μ2 t2 w1 _ hj hs2 fun e st3 ok3 μ3 t3 w3 hk3 hs3 => ?_
            cases e with
            | normal => exact hK _ _ _ _ _ _ hk3 hs3
            | exit id => exact hK _ _ _ _ _ _ hk3 hs3
            | ret => exact hK _ _ _ _ _ _ hk3 hs3
            | goto l' =>
              simp only [Bool.cond_eq_ite] at hk3
              split at hk3
              · rename_i hb
                obtain ⟨μ4, hs4⟩ := hs3.gc L (keep 1000)
                have hJ' : Jn n ⟨t3, ds⟩ w3 := ⟨_, _, _, _, rfl, hk3, hs4⟩
                exact ⟨Nat.eq_of_beq_eq_true hb, ⟨n, hJ'⟩, Nat.lt_succ_of_le ((hm _ _ ⟨n, hJ'⟩).2 n hJ')⟩
              · simp at hk3
      | exit id => exact hK _ _ _ _ _ _ hk hs'
      | ret => exact hK _ _ _ _ _ _ hk hs'
      | goto l => exact absurd hk (hg l st')
    · simp at h
  · exact runA_sound L hcall hdraw fuel keep ds _ st K ok μ tmps w Q h hs hK

end
end Go.Abs

/-
  Soundness of the abstract machine: what is handed to a call.
-/
namespace Go.Abs

section
variable [D : Dom] [C : Coding] [O : Objs] {P : Program}

/-- What is asked of the objects' coding. -/
class LawfulO : Prop where
  mdec_menc : ∀ t ms x, O.mdec t ms = some x → O.menc t x = ms

abbrev NoPl : Nat → Pl := fun _ => .gone

/-- A value with what it owns: the blocks fp. -/
inductive MRep (w : World) (ok : Nat → Prop) : MC → Value → List Nat → Prop
  | av (a : AV) (v : Value) (h : VRep w ok NoPl a v) : MRep w ok (.av a) v []
  | arrNil (t : D.Tag) : MRep w ok (.arr t []) (.slice none 0 0) []
  | arr (b o cap : Nat) (t : D.Tag) (xs : List (D.El t)) (cur : Array Value) (e : TypeId) (hb : w.heap[b]? = some (.cells cur e (0, 0))) (hcap : xs.length ≤ cap) (hsz : o + cap * C.k t ≤ cur.size)
      (hc : ∀ (i : Nat) (x : D.El t), xs[i]? = some x → Cells w ok NoPl cur (o + i * C.k t) (C.enc t x)) : MRep w ok (.arr t xs) (.slice (some ⟨b, o, none⟩) xs.length cap) [b]
  | ptr (b : Nat) (t : D.Tag) (x : D.El t) (cur : Array Value) (e : TypeId) (us : List (List Nat)) (hb : w.heap[b]? = some (.cells cur e (0, 0))) (hl : us.length = (O.menc t x).length)
      (h1 : ∀ j, j < (O.menc t x).length → ∃ u, cur[j]? = some u ∧ u.oneCell' = true) (hc : ∀ (j : Nat) (m : MC) (fp : List Nat), (O.menc t x)[j]? = some m → us[j]? = some fp → MRep w ok m (cur.getD j undef) fp) :
      MRep w ok (.ptr t x) (.pointer (some ⟨b, 0, none⟩)) (b :: us.flatten)

variable {B : Base} {w w' : World} {ok ok' ok1 ok2 : Nat → Prop} {μ μ' : Nat → Pl} {F F' : FS} {h h' h1 h2 : Hp} {cfs : List (Array Value)} {st : St} {tmps : Array Value}

/-- It is kept where its blocks are. -/
theorem MRep.mono {m : MC} {v : Value} {fp : List Nat} (hr : MRep w ok m v fp) (hk : Keeps ok w w') (hok : ∀ b, ok b → ok' b) (hb : ∀ b ∈ fp, w'.heap[b]? = w.heap[b]?) : MRep w' ok' m v fp := by
  induction hr with
  | av a v h => exact .av a v (h.mono hk hok fun _ _ => rfl)
  | arrNil t => exact .arrNil t
  | arr b o cap t xs cur e h1 h2 h3 h4 => exact .arr b o cap t xs cur e ((hb b (by simp)).trans h1) h2 h3 fun i x hx => (h4 i x hx).mono hk hok fun _ _ => rfl
  | ptr b t x cur e us h1 hl h2 hc ih =>
    refine .ptr b t x cur e us ((hb b (by simp)).trans h1) hl h2 fun j m fp hm hfp => ih j m fp hm hfp fun g hg => hb g ?_
    simp only [List.mem_cons, List.mem_flatten]
    exact .inr ⟨fp, List.mem_of_getElem? hfp, hg⟩

/-- Out of the heap h what lies in the blocks fp is taken. -/
structure Take (B : Base) (μ : Nat → Pl) (w : World) (ok : Nat → Prop) (h : Hp) (ok' : Nat → Prop) (h' : Hp) (fp : List Nat) : Prop where
  hs : HSim B ok' μ h' w
  okm : ∀ b, ok b → ok' b
  nd : fp.Nodup
  src : ∀ b ∈ fp, ∃ l, live (h l) = true ∧ (μ l).blk? = some b
  liv : ∀ l, live (h' l) = true → live (h l) = true ∧ ∀ b, (μ l).blk? = some b → b ∉ fp
  dd : ∀ l, h l = .dead → h' l = .dead
  okn : ∀ b, ok' b → ok b ∨ ∃ l, live (h l) = true ∧ (μ l).blk? = some b
  nok : ∀ b ∈ fp, ¬ ok' b

omit O in
theorem Take.refl (hs : HSim B ok μ h w) : Take B μ w ok h ok h [] :=
  ⟨hs, fun _ x => x, by simp, fun b hb => by simp at hb, fun l hl => ⟨hl, fun b _ => by simp⟩, fun _ x => x, fun _ x => .inl x, fun b hb => by simp at hb⟩

omit O in
theorem Take.trans {fp1 fp2 : List Nat} (a : Take B μ w ok h ok1 h1 fp1) (b : Take B μ w ok1 h1 ok2 h2 fp2) : Take B μ w ok h ok2 h2 (fp1 ++ fp2) := by
  have hnok : ∀ g ∈ fp1, ¬ ok2 g := fun g hg hx => by
    rcases b.okn g hx with h' | ⟨l, l1, l2⟩
    · exact a.nok g hg h'
    · exact (a.liv l l1).2 g l2 hg
  refine ⟨b.hs, fun g hg => b.okm g (a.okm g hg), ?_, fun g hg => ?_, fun l hl => ?_, fun l hl => b.dd l (a.dd l hl), fun g hg => ?_, fun g hg => ?_⟩
  · rw [List.nodup_append]
    refine ⟨a.nd, b.nd, fun x hx y hy e => ?_⟩
    subst e
    obtain ⟨l, l1, l2⟩ := b.src x hy
    exact (a.liv l l1).2 x l2 hx
  · rcases List.mem_append.1 hg with hg | hg
    · exact a.src g hg
    · obtain ⟨l, l1, l2⟩ := b.src g hg
      exact ⟨l, (a.liv l l1).1, l2⟩
  · obtain ⟨l1, l2⟩ := b.liv l hl
    obtain ⟨l3, l4⟩ := a.liv l l1
    exact ⟨l3, fun g hg hx => by rcases List.mem_append.1 hx with hx | hx
                                 · exact l4 g hg hx
                                 · exact l2 g hg hx⟩
  · rcases b.okn g hg with h' | ⟨l, l1, l2⟩
    · exact a.okn g h'
    · exact .inr ⟨l, (a.liv l l1).1, l2⟩
  · rcases List.mem_append.1 hg with hg | hg
    · exact hnok g hg
    · exact b.nok g hg

omit O in
theorem Take.step {fp : List Nat} (a : Take B μ w ok h ok1 h1 fp) : Step ok μ w ok1 μ w := ⟨Keeps.refl _ _, a.okm, fun _ _ => rfl⟩

omit O in
omit C in
theorem coerce1_cases {q : CK} {a b : AV} {g : Lg} (hc : coerce1 q a h = some (b, h', g)) :
    (h' = h ∧ (b = a ∨ (∃ t, a = .v (.slice none 0 0) ∧ b = .imm t []) ∨ ∃ l t xs, a = .sl l ∧ b = .imm t xs ∧ h l = .fz t xs)) ∨ ∃ l t xs, a = .sl l ∧ b = .imm t xs ∧ h l = .arr t xs ∧ h' = upd h l (.fz t xs) := by
  unfold coerce1 at hc
  simp only [Bool.cond_eq_ite] at hc
  split at hc
  · obtain ⟨rfl, rfl, _⟩ : _ = b ∧ h = h' ∧ _ := by simpa using hc
    exact .inl ⟨rfl, .inr (.inl ⟨_, rfl, rfl⟩)⟩
  · split at hc
    · obtain ⟨rfl, rfl, _⟩ : _ = b ∧ h = h' ∧ _ := by simpa using hc
      exact .inl ⟨rfl, .inl rfl⟩
    · simp at hc
  · rename_i l
    split at hc
    · rename_i t' xs hl
      split at hc
      · obtain ⟨rfl, rfl, _⟩ : _ = b ∧ _ = h' ∧ _ := by simpa using hc
        exact .inr ⟨l, t', xs, rfl, rfl, hl, rfl⟩
      · simp at hc
    · rename_i t' xs hl
      split at hc
      · obtain ⟨rfl, rfl, _⟩ : _ = b ∧ h = h' ∧ _ := by simpa using hc
        exact .inl ⟨rfl, .inr (.inr ⟨l, t', xs, rfl, rfl, hl⟩)⟩
      · simp at hc
    · simp at hc
  · split at hc
    · obtain ⟨rfl, rfl, _⟩ : _ = b ∧ h = h' ∧ _ := by simpa using hc
      exact .inl ⟨rfl, .inl rfl⟩
    · simp at hc
  · obtain ⟨rfl, rfl, _⟩ : _ = b ∧ h = h' ∧ _ := by simpa using hc
    exact .inl ⟨rfl, .inl rfl⟩
  · split at hc
    · obtain ⟨rfl, rfl, _⟩ : _ = b ∧ h = h' ∧ _ := by simpa using hc
      exact .inl ⟨rfl, .inl rfl⟩
    · simp at hc
  · simp at hc

omit O in
theorem coerce1_take {q : CK} {a b : AV} {g : Lg} (hc : coerce1 q a h = some (b, h', g)) (hs : HSim B ok μ h w) :
    ∃ ok', Take B μ w ok h ok' h' [] ∧ ∀ u, VRep w ok μ a u → VRep w ok' μ b u := by
  rcases coerce1_cases hc with ⟨rfl, rfl | ⟨t, rfl, rfl⟩ | ⟨l, t, xs, rfl, rfl, hl⟩⟩ | ⟨l, t, xs, rfl, rfl, hl, rfl⟩
  · exact ⟨ok, Take.refl hs, fun _ x => x⟩
  · exact ⟨ok, Take.refl hs, fun u hu => by cases hu; exact .immNil _⟩
  · refine ⟨ok, Take.refl hs, fun u hu => ?_⟩
    have k3 := hs.rep l
    rw [hl] at k3
    cases hu with
    | sl l b o n cap k hμ =>
      rw [hμ] at k3
      cases k3 with
      | fz b o cap t xs h1 h2 u h3 h4 => exact .imm _ _ b o cap h1 h2 u h3 h4
    | slNil l hμ =>
      rw [hμ] at k3
      cases k3
      exact .immNil _
  · obtain ⟨ok', k1, k2, k3, k4⟩ := hs.freeze hl
    refine ⟨ok', ⟨k2, k1, by simp, fun b hb => by simp at hb, fun i hi => ⟨?_, fun b _ => by simp⟩, fun i hi => ?_, fun b hb => ?_, fun b hb => by simp at hb⟩, fun u hu => ?_⟩
    · by_cases e : i = l
      · subst e; rw [upd_same] at hi; simp [live] at hi
      · rwa [upd_ne h _ e] at hi
    · by_cases e : i = l
      · subst e; rw [hl] at hi; simp at hi
      · rw [upd_ne h _ e]; exact hi
    · rcases k4 b hb with h' | h'
      · exact .inl h'
      · exact .inr ⟨l, by rw [hl]; rfl, h'⟩
    · cases hu with
      | sl l b o n cap k hμ =>
        rw [hμ] at k3
        cases k3 with
        | fz b o cap t xs h1 h2 u h3 h4 => exact .imm _ _ b o cap h1 h2 u h3 h4
      | slNil l hμ =>
        rw [hμ] at k3
        cases k3
        exact .immNil _

omit O in
theorem coerce_take : ∀ {qs : List CK} {as bs : List AV} {h h' : Hp} {ok : Nat → Prop} {g : Lg}, coerce qs as h = some (bs, h', g) → HSim B ok μ h w →
    ∃ ok', Take B μ w ok h ok' h' [] ∧ bs.length = as.length ∧ ∀ (j : Nat) (b : AV), bs[j]? = some b → ∃ a, as[j]? = some a ∧ ∀ u, VRep w ok μ a u → VRep w ok' μ b u
  | [], [], bs, h, h', ok, g, hc, hs => by
    obtain ⟨rfl, rfl, rfl⟩ : [] = bs ∧ h = h' ∧ _ = g := by simpa [coerce] using hc
    exact ⟨ok, Take.refl hs, rfl, fun j b hb => by simp at hb⟩
  | q :: qs, a :: as, bs, h, h', ok, g, hc, hs => by
    simp only [coerce] at hc
    split at hc
    · rename_i b h1 g1 hc1
      split at hc
      · rename_i bs' h2 g2 hc2
        obtain ⟨rfl, rfl, rfl⟩ : _ = bs ∧ _ = h' ∧ _ = g := by simpa using hc
        obtain ⟨ok1, a1, a2⟩ := coerce1_take hc1 hs
        obtain ⟨ok2, b1, b2, b3⟩ := coerce_take hc2 a1.hs
        refine ⟨ok2, a1.trans b1, by simp [b2], fun j b' hb => ?_⟩
        cases j with
        | zero => simp at hb; subst hb; exact ⟨a, rfl, fun u hu => (a2 u hu).step b1.step⟩
        | succ j =>
          obtain ⟨c, c1, c2⟩ := b3 j b' (by simpa using hb)
          exact ⟨c, by simpa using c1, fun u hu => c2 u (hu.step a1.step)⟩
      · simp at hc
    · simp at hc
  | [], _ :: _, _, _, _, _, _, hc, _ => by simp [coerce] at hc
  | _ :: _, [], _, _, _, _, _, hc, _ => by simp [coerce] at hc

end
end Go.Abs

/-
  Soundness of the abstract machine: what is handed to a call, taken out of the heap.
-/
namespace Go.Abs

section
variable [D : Dom] [C : Coding] [O : Objs] {P : Program}
variable {B : Base} {w w' : World} {ok ok' ok1 ok2 : Nat → Prop} {μ μ' : Nat → Pl} {F F' : FS} {h h' h1 h2 : Hp} {cfs : List (Array Value)} {st : St} {tmps : Array Value}

omit O in
theorem kill_take (hs : HSim B ok μ h w) {l b : Nat} (hl : live (h l) = true) (hb : (μ l).blk? = some b) : Take B μ w ok h ok (upd h l .dead) [b] := by
  refine ⟨hs.kill l, fun _ x => x, by simp, fun g hg => ?_, fun i hi => ?_, kill_dead h l, fun _ x => .inl x, fun g hg => ?_⟩
  · simp at hg; subst hg; exact ⟨l, hl, hb⟩
  · have hne : i ≠ l := fun e => by subst e; rw [upd_same] at hi; simp [live] at hi
    rw [upd_ne h _ hne] at hi
    refine ⟨hi, fun g hg hx => ?_⟩
    simp at hx; subst hx
    exact hs.inj i l g hne hi hl hg hb
  · simp at hg; subst hg; exact (hs.nok l g hl hb).1

omit O in
theorem kill_take0 (hs : HSim B ok μ h w) (l : Nat) : Take B μ w ok h ok (upd h l .dead) [] := by
  refine ⟨hs.kill l, fun _ x => x, by simp, fun g hg => by simp at hg, fun i hi => ?_, kill_dead h l, fun _ x => .inl x, fun g hg => by simp at hg⟩
  have hne : i ≠ l := fun e => by subst e; rw [upd_same] at hi; simp [live] at hi
  rw [upd_ne h _ hne] at hi
  exact ⟨hi, fun g hg => by simp⟩

/-- Taken as it stands: whatever value it has. -/
def Gets (w : World) (ok : Nat → Prop) (μ : Nat → Pl) (ok' : Nat → Prop) (a : AV) (m : MC) (fp : List Nat) : Prop := ∀ v, VRep w ok μ a v → MRep w ok' m v fp

theorem Gets.mono {a : AV} {m : MC} {fp : List Nat} (hg : Gets w ok μ ok1 a m fp) (hok : ∀ b, ok1 b → ok2 b) : Gets w ok μ ok2 a m fp := fun v hv => (hg v hv).mono (Keeps.refl _ _) hok fun _ _ => rfl

theorem takeArr_take (L : Lawful P) {t : D.Tag} {a : AV} {m : MC} {g : Lg} (ht : takeArr t a h = some (m, h', g)) (hs : HSim B ok μ h w) : ∃ fp, Take B μ w ok h ok h' fp ∧ Gets w ok μ ok a m fp := by
  unfold takeArr at ht
  split at ht
  · obtain ⟨rfl, rfl, _⟩ : _ = m ∧ h = h' ∧ _ := by simpa using ht
    exact ⟨[], Take.refl hs, fun v hv => by cases hv; exact .arrNil _⟩
  · rename_i l
    split at ht
    · rename_i t' xs hl
      cases hsm : same t t' <;> rw [hsm] at ht
      · simp at ht
      · obtain ⟨rfl, rfl, _⟩ : _ = m ∧ _ = h' ∧ _ := by simpa using ht
        have hr := hs.rep l
        rw [hl] at hr
        generalize hp : μ l = p at hr
        cases hr with
        | arrNil t =>
          refine ⟨[], kill_take0 hs l, fun v hv => ?_⟩
          cases hv with
          | sl l b o n cap k hμ => rw [hp] at hμ; simp at hμ
          | slNil l hμ => exact .arrNil _
        | arr b o cap t xs cur e b1 b2 b3 b4 =>
          refine ⟨[b], kill_take hs (by rw [hl]; rfl) (by rw [hp]; rfl), fun v hv => ?_⟩
          cases hv with
          | slNil l hμ => rw [hp] at hμ; simp at hμ
          | sl l b o n cap k hμ =>
            rw [hp] at hμ
            simp only [Pl.row.injEq] at hμ
            obtain ⟨rfl, rfl, rfl, rfl, rfl⟩ := hμ
            exact .arr b o cap _ _ cur e b1 b2 b3 fun i x hx j a ha => let ⟨u, u1, u2, u3⟩ := b4 i x hx j a ha; ⟨u, u1, u2, u3.free L (allA_get (L.enc_free _ x) ha)⟩
    · simp at ht
  · simp at ht

theorem takeCell_take (L : Lawful P) {rec : D.Tag → AV → Hp → Option (MC × Hp × Lg)}
    (hrec : ∀ (t : D.Tag) (a : AV) (h h' : Hp) (ok : Nat → Prop) (m : MC) (g : Lg), rec t a h = some (m, h', g) → HSim B ok μ h w → ∃ ok' fp, Take B μ w ok h ok' h' fp ∧ Gets w ok μ ok' a m fp)
    {q : MK} {a : AV} {m : MC} {g : Lg} (ht : takeCell rec q a h = some (m, h', g)) (hs : HSim B ok μ h w) : ∃ ok' fp, Take B μ w ok h ok' h' fp ∧ Gets w ok μ ok' a m fp := by
  unfold takeCell at ht
  split at ht
  · split at ht
    · rename_i b h1 g1 hc
      obtain ⟨rfl, rfl, _⟩ : _ = m ∧ h1 = h' ∧ _ := by simpa using ht
      obtain ⟨ok1, k1, k2⟩ := coerce1_take hc hs
      exact ⟨ok1, [], k1, fun v hv => .av _ _ ((k2 v hv).free L (coerce1_free hc))⟩
    · simp at ht
  · obtain ⟨fp, k1, k2⟩ := takeArr_take L ht hs
    exact ⟨ok, fp, k1, k2⟩
  · exact hrec _ _ _ _ _ _ _ ht hs

theorem takeCells_take (L : Lawful P) {rec : D.Tag → AV → Hp → Option (MC × Hp × Lg)}
    (hrec : ∀ (t : D.Tag) (a : AV) (h h' : Hp) (ok : Nat → Prop) (m : MC) (g : Lg), rec t a h = some (m, h', g) → HSim B ok μ h w → ∃ ok' fp, Take B μ w ok h ok' h' fp ∧ Gets w ok μ ok' a m fp) :
    ∀ {qs : List MK} {as : List AV} {ms : List MC} {h h' : Hp} {ok : Nat → Prop} {g : Lg}, takeCells rec qs as h = some (ms, h', g) → HSim B ok μ h w →
      ∃ (ok' : Nat → Prop) (us : List (List Nat)), Take B μ w ok h ok' h' us.flatten ∧ us.length = ms.length ∧ ms.length = as.length ∧ ∀ (j : Nat) (m : MC) (fp : List Nat), ms[j]? = some m → us[j]? = some fp → ∃ a, as[j]? = some a ∧ Gets w ok μ ok' a m fp
  | [], [], ms, h, h', ok, g, ht, hs => by
    obtain ⟨rfl, rfl, _⟩ : [] = ms ∧ h = h' ∧ _ := by simpa [takeCells] using ht
    exact ⟨ok, [], Take.refl hs, rfl, rfl, fun j m fp hm => by simp at hm⟩
  | q :: qs, a :: as, ms, h, h', ok, g, ht, hs => by
    simp only [takeCells] at ht
    split at ht
    · rename_i m h1 g1 h1t
      split at ht
      · rename_i ms' h2 g2 h2t
        obtain ⟨rfl, rfl, _⟩ : _ = ms ∧ h2 = h' ∧ _ := by simpa using ht
        obtain ⟨ok1, fp, a1, a2⟩ := takeCell_take L hrec h1t hs
        obtain ⟨ok2, us, b1, b2, b3, b4⟩ := takeCells_take L hrec h2t a1.hs
        refine ⟨ok2, fp :: us, by rw [List.flatten_cons]; exact a1.trans b1, by simp [b2], by simp [b3], fun j m' fp' hm hfp => ?_⟩
        cases j with
        | zero => simp at hm hfp; subst hm; subst hfp; exact ⟨a, rfl, a2.mono b1.okm⟩
        | succ j =>
          obtain ⟨c, c1, c2⟩ := b4 j m' fp' (by simpa using hm) (by simpa using hfp)
          exact ⟨c, by simpa using c1, fun v hv => c2 v (hv.step a1.step)⟩
      · simp at ht
    · simp at ht
  | [], _ :: _, _, _, _, _, _, ht, _ => by simp [takeCells] at ht
  | _ :: _, [], _, _, _, _, _, ht, _ => by simp [takeCells] at ht

theorem takePtr_take (L : Lawful P) (LO : LawfulO) : ∀ (n : Nat) (t : D.Tag) (a : AV) (h h' : Hp) (ok : Nat → Prop) (m : MC) (g : Lg), takePtr n t a h = some (m, h', g) → HSim B ok μ h w → ∃ ok' fp, Take B μ w ok h ok' h' fp ∧ Gets w ok μ ok' a m fp
  | 0, t, a, h, h', ok, m, g, ht, hs => by simp [takePtr] at ht
  | n + 1, t, a, h, h', ok, m, g, ht, hs => by
    simp only [takePtr] at ht
    split at ht
    · rename_i l
      split at ht
      · rename_i cs hl
        split at ht
        · rename_i ms h1 g1 hc
          split at ht
          · rename_i x hx
            obtain ⟨rfl, rfl, _⟩ : _ = m ∧ h1 = h' ∧ _ := by simpa using ht
            have hr := hs.rep l
            rw [hl] at hr
            generalize hp : μ l = p at hr
            cases hr with
            | cells b cs cur e b1 b2 =>
              have k0 := kill_take hs (l := l) (b := b) (by rw [hl]; rfl) (by rw [hp]; rfl)
              obtain ⟨ok1, us, k1, k2, k3, k4⟩ := takeCells_take L (takePtr_take L LO n) hc k0.hs
              have hms := LO.mdec_menc t ms x hx
              refine ⟨ok1, b :: us.flatten, k0.trans k1, fun v hv => ?_⟩
              cases hv with
              | ptr _ _ b' hμ =>
                rw [hp] at hμ
                simp only [Pl.at.injEq] at hμ
                subst hμ
                have hcell : ∀ j, j < (O.menc t x).length → ∃ a u, cs[j]? = some a ∧ cur[j]? = some u ∧ u.oneCell' = true ∧ VRep w ok μ a u := fun j hj => by
                  rw [hms, k3] at hj
                  obtain ⟨u, u1, u2, u3⟩ := b2 j _ (List.getElem?_eq_getElem hj)
                  exact ⟨_, u, List.getElem?_eq_getElem hj, by rw [Nat.zero_add] at u1; exact u1, u2, u3⟩
                refine .ptr b t x cur e us b1 (by rw [hms, k2]) (fun j hj => let ⟨_, u, _, u1, u2, _⟩ := hcell j hj; ⟨u, u1, u2⟩) fun j m fp hm hfp => ?_
                have hj : j < (O.menc t x).length := (List.getElem?_eq_some_iff.1 hm).1
                obtain ⟨a, u, a1, a2, a3, a4⟩ := hcell j hj
                rw [hms] at hm
                obtain ⟨a', a1', a5⟩ := k4 j m fp hm hfp
                rw [a1] at a1'
                simp at a1'; subst a1'
                rw [Array.getD_eq_getD_getElem?, a2]
                exact a5 u a4
          · simp at ht
        · simp at ht
      · simp at ht
    · obtain ⟨rfl, rfl, _⟩ : _ = m ∧ h = h' ∧ _ := by simpa using ht
      exact ⟨ok, [], Take.refl hs, fun v hv => by cases hv; exact .av _ _ (.v _)⟩
    · simp at ht

theorem takeVal_take (L : Lawful P) {agg : Bool} {qs : List CK} {a : AV} {m : MC} {g : Lg} (ht : takeVal agg qs a h = some (m, h', g)) (hs : HSim B ok μ h w) : ∃ ok' fp, Take B μ w ok h ok' h' fp ∧ Gets w ok μ ok' a m fp := by
  unfold takeVal at ht
  split at ht
  · rename_i cs h1 g1 hc
    obtain ⟨ok1, k1, k2, k3⟩ := coerce_take hc hs
    have hfree : allA locfree cs = true := by
      obtain ⟨_, _, _, _, _, _, hf, _⟩ := coerce_sound hc hs
      exact hf
    have hone := coerce_one hc
    split at ht
    · split at ht
      · rename_i cs0 hagg
        obtain ⟨rfl, rfl, _⟩ : _ = m ∧ h1 = h' ∧ _ := by simpa using ht
        refine ⟨ok1, [], k1, fun v hv => .av _ _ ?_⟩
        obtain ⟨xs, rfl, _⟩ := aggCells_rep hagg hv
        obtain ⟨c1, c2, c3⟩ := cells_list hv hone
        simp only [Value.cells] at c1 c2 c3
        have := VRep.agg (w := w) (ok := ok1) (μ := NoPl) cs xs.toList (by omega) c2 (fun i b u hb hu => by
          obtain ⟨a0, a1, a2⟩ := k3 i b hb
          obtain ⟨u', u1, _, u3⟩ := c3 i a0 a1
          rw [u1] at hu
          simp at hu; subst hu
          exact (a2 u' u3).free L (allA_get hfree hb))
        simpa using this
      · simp at ht
    · split at ht
      · rename_i _ _ _ c hagg
        obtain ⟨rfl, rfl, _⟩ : _ = m ∧ h1 = h' ∧ _ := by simpa using ht
        refine ⟨ok1, [], k1, fun v hv => .av _ _ ?_⟩
        obtain ⟨a0, a1, a2⟩ := k3 0 c rfl
        have hcell : cellsOf a = [a] := by
          cases a <;> simp [cellsOf, aggCells] at hagg ⊢
          rename_i x
          cases x <;> simp [aggCells] at hagg ⊢
        rw [hcell] at a1
        simp at a1; subst a1
        exact (a2 v hv).free L (by simpa [allA] using hfree)
      · simp at ht
  · simp at ht

theorem takeM_take (L : Lawful P) (LO : LawfulO) {q : Mode} {a : AV} {m : MC} {g : Lg} (ht : takeM q a h = some (m, h', g)) (hs : HSim B ok μ h w) : ∃ ok' fp, Take B μ w ok h ok' h' fp ∧ Gets w ok μ ok' a m fp := by
  cases q with
  | val agg qs => exact takeVal_take L ht hs
  | own t => exact takePtr_take L LO 6 t a h h' ok m g ht hs
  | row t => obtain ⟨fp, k1, k2⟩ := takeArr_take L ht hs; exact ⟨ok, fp, k1, k2⟩
  | mov t => obtain ⟨fp, k1, k2⟩ := takeArr_take L ht hs; exact ⟨ok, fp, k1, k2⟩

theorem takeMs_take (L : Lawful P) (LO : LawfulO) : ∀ {qs : List Mode} {as : List AV} {ms : List MC} {h h' : Hp} {ok : Nat → Prop} {g : Lg}, takeMs qs as h = some (ms, h', g) → HSim B ok μ h w →
      ∃ (ok' : Nat → Prop) (us : List (List Nat)), Take B μ w ok h ok' h' us.flatten ∧ us.length = ms.length ∧ ms.length = as.length ∧ as.length = qs.length ∧ ∀ (j : Nat) (m : MC) (fp : List Nat), ms[j]? = some m → us[j]? = some fp → ∃ a, as[j]? = some a ∧ Gets w ok μ ok' a m fp
  | [], [], ms, h, h', ok, g, ht, hs => by
    obtain ⟨rfl, rfl, _⟩ : [] = ms ∧ h = h' ∧ _ := by simpa [takeMs] using ht
    exact ⟨ok, [], Take.refl hs, rfl, rfl, rfl, fun j m fp hm => by simp at hm⟩
  | q :: qs, a :: as, ms, h, h', ok, g, ht, hs => by
    simp only [takeMs] at ht
    split at ht
    · rename_i m h1 g1 h1t
      split at ht
      · rename_i ms' h2 g2 h2t
        obtain ⟨rfl, rfl, _⟩ : _ = ms ∧ h2 = h' ∧ _ := by simpa using ht
        obtain ⟨ok1, fp, a1, a2⟩ := takeM_take L LO h1t hs
        obtain ⟨ok2, us, b1, b2, b3, b4, b5⟩ := takeMs_take L LO h2t a1.hs
        refine ⟨ok2, fp :: us, by rw [List.flatten_cons]; exact a1.trans b1, by simp [b2], by simp [b3], by simp [b4], fun j m' fp' hm hfp => ?_⟩
        cases j with
        | zero => simp at hm hfp; subst hm; subst hfp; exact ⟨a, rfl, a2.mono b1.okm⟩
        | succ j =>
          obtain ⟨c, c1, c2⟩ := b5 j m' fp' (by simpa using hm) (by simpa using hfp)
          exact ⟨c, by simpa using c1, fun v hv => c2 v (hv.step a1.step)⟩
      · simp at ht
    · simp at ht
  | [], _ :: _, _, _, _, _, _, ht, _ => by simp [takeMs] at ht
  | _ :: _, [], _, _, _, _, _, ht, _ => by simp [takeMs] at ht

end
end Go.Abs

/-
  Soundness of the abstract machine: what a call gives, put into the heap.
-/
namespace Go.Abs

section
variable [D : Dom] [C : Coding] [O : Objs] {P : Program}
variable {B : Base} {w w' : World} {ok ok' ok1 ok2 : Nat → Prop} {μ μ' : Nat → Pl} {F F' : FS} {h h' h1 h2 : Hp}

/-- Blocks that no place has. -/
def Unowned (B : Base) (ok : Nat → Prop) (μ : Nat → Pl) (h : Hp) (fp : List Nat) : Prop :=
  ∀ b ∈ fp, (∀ l, live (h l) = true → (μ l).blk? ≠ some b) ∧ ¬ ok b ∧ (B.w0.heap.size ≤ b ∨ B.M b)

/-- New places from n to n' for the blocks of fp. -/
structure Give (B : Base) (ok : Nat → Prop) (w : World) (n : Nat) (μ : Nat → Pl) (h : Hp) (n' : Nat) (μ' : Nat → Pl) (h' : Hp) (fp : List Nat) : Prop where
  hs : HSim B ok μ' h' w
  le : n ≤ n'
  pl : ∀ l, μ l ≠ .gone → μ' l = μ l
  out : ∀ l, (l < n ∨ n' ≤ l) → μ' l = μ l ∧ h' l = h l
  own : ∀ l b, live (h' l) = true → (μ' l).blk? = some b → (live (h l) = true ∧ (μ l).blk? = some b) ∨ b ∈ fp

omit O in
theorem Give.refl (hs : HSim B ok μ h w) (n : Nat) : Give B ok w n μ h n μ h [] :=
  ⟨hs, Nat.le_refl _, fun _ _ => rfl, fun _ _ => ⟨rfl, rfl⟩, fun _ _ x y => .inl ⟨x, y⟩⟩

omit O in
theorem Give.trans {n n1 n2 : Nat} {μ1 μ2 : Nat → Pl} {fp1 fp2 : List Nat} (a : Give B ok w n μ h n1 μ1 h1 fp1) (b : Give B ok w n1 μ1 h1 n2 μ2 h2 fp2) : Give B ok w n μ h n2 μ2 h2 (fp1 ++ fp2) := by
  refine ⟨b.hs, Nat.le_trans a.le b.le, fun l hl => ?_, fun l hl => ?_, fun l g hl hg => ?_⟩
  · have := a.pl l hl
    exact (b.pl l (by rw [this]; exact hl)).trans this
  · have h1 := a.out l (hl.imp id (Nat.le_trans b.le))
    have h2 := b.out l (hl.imp (fun x => Nat.lt_of_lt_of_le x a.le) id)
    exact ⟨h2.1.trans h1.1, h2.2.trans h1.2⟩
  · rcases b.own l g hl hg with ⟨x, y⟩ | x
    · rcases a.own l g x y with z | z
      · exact .inl z
      · exact .inr (by simp [z])
    · exact .inr (by simp [x])

omit O in
theorem Give.unowned {n n1 : Nat} {μ1 : Nat → Pl} {fp1 fp2 : List Nat} (a : Give B ok w n μ h n1 μ1 h1 fp1) (hu : Unowned B ok μ h fp2) (hd : ∀ b ∈ fp2, b ∉ fp1) : Unowned B ok μ1 h1 fp2 :=
  fun b hb => ⟨fun l hl hg => by
    rcases a.own l b hl hg with ⟨x, y⟩ | x
    · exact (hu b hb).1 l x y
    · exact hd b hb x, (hu b hb).2⟩


omit O in
theorem Give.fresh {n n1 : Nat} {μ1 : Nat → Pl} {fp1 : List Nat} (a : Give B ok w n μ h n1 μ1 h1 fp1) (hf : Fresh F n μ h) : Fresh F n1 μ1 h1 := ⟨Nat.le_trans hf.1 a.le, fun l hl hF => by
  have hlo := hf.1
  have hle := a.le
  have h1 := a.out l (by omega)
  have h2 := hf.2 l (by omega) hF
  exact ⟨h1.2.trans h2.1, h1.1.trans h2.2⟩⟩

omit O in
theorem Give.step {n n1 : Nat} {μ1 : Nat → Pl} {fp1 : List Nat} (a : Give B ok w n μ h n1 μ1 h1 fp1) : Step ok μ w ok μ1 w := ⟨Keeps.refl _ _, fun _ x => x, a.pl⟩

def GivesOK (rec : MC → Hp → Nat → Option (AV × Hp × Nat)) : Prop :=
  ∀ (m : MC) (h h' : Hp) (n n' : Nat) (a : AV), rec m h n = some (a, h', n') → n ≤ n' ∧
    ∀ (B : Base) (F : FS) (ok : Nat → Prop) (w : World) (μ : Nat → Pl) (v : Value) (fp : List Nat), (HSim B ok μ h w → (∀ l, n ≤ l → l < n' → F l) → Fresh F n μ h → MRep w ok m v fp → fp.Nodup → Unowned B ok μ h fp → ∃ μ', Give B ok w n μ h n' μ' h' fp ∧ VRep w ok μ' a v)

omit O in
theorem noPl_rep {a : AV} {v : Value} (hv : VRep w ok NoPl a v) : VRep w ok μ a v := hv.mono (Keeps.refl _ _) (fun _ x => x) fun _ hl => absurd rfl hl

theorem give_arr {t : D.Tag} {xs : List (D.El t)} {n : Nat} {v : Value} {fp : List Nat} (hs : HSim B ok μ h w) (hF : F n) (hf : Fresh F n μ h) (hr : MRep w ok (.arr t xs) v fp) (hu : Unowned B ok μ h fp) :
    ∃ μ', Give B ok w n μ h (n + 1) μ' (upd h n (.arr t xs)) fp ∧ VRep w ok μ' (.sl n) v := by
  obtain ⟨hd, hg⟩ := hf.2 n (.inl (Nat.le_refl _)) hF
  have key : ∀ p, HSim B ok (updP μ n p) (upd h n (.arr t xs)) w → (∀ b, p.blk? = some b → b ∈ fp) → Give B ok w n μ h (n + 1) (updP μ n p) (upd h n (.arr t xs)) fp := fun p hp hb => by
    refine ⟨hp, by omega, fun l hl => updP_ne μ p (fun e => hl (e ▸ hg)), fun l hl => ?_, fun l b hl hb' => ?_⟩
    · have : l ≠ n := by omega
      exact ⟨updP_ne μ p this, upd_ne h _ this⟩
    · by_cases e : l = n
      · subst e; rw [updP_same] at hb'; exact .inr (hb b hb')
      · rw [updP_ne μ p e] at hb'; rw [upd_ne h _ e] at hl; exact .inl ⟨hl, hb'⟩
  cases hr with
  | arrNil =>
    exact ⟨_, key .nil (hs.place (.inl hg) (fun g hg => by simp [Pl.blk?] at hg) (.arrNil t)) (fun g hg => by simp [Pl.blk?] at hg), .slNil n (updP_same _ _ _)⟩
  | arr b o cap t xs cur e h1 h2 h3 h4 =>
    exact ⟨_, key (.row b o xs.length cap (C.k t)) (hs.place (.inl hg) (fun g hg => by simp [Pl.blk?] at hg; subst hg; exact hu b (by simp))
      (.arr b o cap t xs cur e h1 h2 h3 fun i x hx => (h4 i x hx).mono (Keeps.refl _ _) (fun _ x => x) fun _ hl => absurd rfl hl)) (fun g hg => by simp [Pl.blk?] at hg; simp [hg]), .sl n b o xs.length cap (C.k t) (updP_same _ _ _)⟩

theorem giveW_sound {rec : MC → Hp → Nat → Option (AV × Hp × Nat)} (hrec : GivesOK rec) : ∀ (ms : List MC) (h h' : Hp) (n n' : Nat) (as : List AV), giveW rec ms h n = some (as, h', n') → n ≤ n' ∧ as.length = ms.length ∧
    ∀ (B : Base) (F : FS) (ok : Nat → Prop) (w : World) (μ : Nat → Pl) (vs : List Value) (us : List (List Nat)), HSim B ok μ h w → (∀ l, n ≤ l → l < n' → F l) → Fresh F n μ h → vs.length = ms.length → us.length = ms.length →
      (∀ (j : Nat) (m : MC) (v : Value) (fp : List Nat), ms[j]? = some m → vs[j]? = some v → us[j]? = some fp → MRep w ok m v fp) → us.flatten.Nodup → Unowned B ok μ h us.flatten →
      ∃ μ', Give B ok w n μ h n' μ' h' us.flatten ∧ ∀ (j : Nat) (a : AV) (v : Value), as[j]? = some a → vs[j]? = some v → VRep w ok μ' a v
  | [], h, h', n, n', as, hg => by
    obtain ⟨rfl, rfl, rfl⟩ : [] = as ∧ h = h' ∧ n = n' := by simpa [giveW] using hg
    refine ⟨Nat.le_refl _, rfl, fun B F ok w μ vs us hs _ _ _ hul _ _ _ => ⟨μ, ?_, fun j a v ha => by simp at ha⟩⟩
    have : us = [] := by simpa using hul
    subst this
    exact Give.refl hs n
  | m :: ms, h, h', n, n', as, hg => by
    simp only [giveW] at hg
    split at hg
    · rename_i a h1 n1 hg1
      split at hg
      · rename_i as' h2 n2 hg2
        obtain ⟨rfl, rfl, rfl⟩ : a :: as' = as ∧ h2 = h' ∧ n2 = n' := by simpa using hg
        obtain ⟨i1, i2, i3⟩ := giveW_sound hrec ms h1 h2 n1 n2 as' hg2
        have i0 : n ≤ n1 := (hrec m h h1 n n1 a hg1).1
        refine ⟨Nat.le_trans i0 i1, by simp [i2], fun B F ok w μ vs us hs hF hf hvl hul hr hnd hu => ?_⟩
        cases vs with
        | nil => simp at hvl
        | cons v vs =>
          cases us with
          | nil => simp at hul
          | cons fp us =>
            rw [List.flatten_cons] at hnd hu ⊢
            rw [List.nodup_append] at hnd
            obtain ⟨μ1, g1, g2⟩ := (hrec m h h1 n n1 a hg1).2 B F ok w μ v fp hs (fun l x y => hF l x (by omega)) hf (hr 0 m v fp rfl rfl rfl) hnd.1 fun b hb => hu b (by simp [hb])
            obtain ⟨μ2, k1, k2⟩ := i3 B F ok w μ1 vs us g1.hs (fun l x y => hF l (by omega) y) (g1.fresh hf) (by simpa using hvl) (by simpa using hul)
              (fun j m v fp a b c => hr (j + 1) m v fp (by simpa using a) (by simpa using b) (by simpa using c)) hnd.2.1
              (g1.unowned (fun b hb => hu b (List.mem_append.2 (.inr hb))) fun b hb hb' => hnd.2.2 b hb' b hb rfl)
            refine ⟨μ2, g1.trans k1, fun j c u hc hu' => ?_⟩
            cases j with
            | zero => simp at hc hu'; subst hc; subst hu'; exact g2.step k1.step
            | succ j => exact k2 j c u (by simpa using hc) (by simpa using hu')
      · simp at hg
    · simp at hg

theorem giveM_sound : ∀ k, GivesOK (giveM (O := O) k)
  | 0 => fun m h h' n n' a hg => by
    cases m with
    | av a0 =>
      obtain ⟨rfl, rfl, rfl⟩ : a0 = a ∧ h = h' ∧ n = n' := by simpa [giveM] using hg
      refine ⟨Nat.le_refl _, fun B F ok w μ v fp hs _ _ hr _ _ => ?_⟩
      cases hr with
      | av _ _ hv => exact ⟨μ, Give.refl hs n, noPl_rep hv⟩
    | arr t xs =>
      obtain ⟨rfl, rfl, rfl⟩ : AV.sl n = a ∧ upd h n (.arr t xs) = h' ∧ n + 1 = n' := by simpa [giveM] using hg
      exact ⟨by omega, fun B F ok w μ v fp hs hF hf hr _ hu => give_arr hs (hF n (Nat.le_refl _) (by omega)) hf hr hu⟩
    | ptr t x => simp [giveM] at hg
  | k + 1 => fun m h h' n n' a hg => by
    cases m with
    | av a0 =>
      obtain ⟨rfl, rfl, rfl⟩ : a0 = a ∧ h = h' ∧ n = n' := by simpa [giveM] using hg
      refine ⟨Nat.le_refl _, fun B F ok w μ v fp hs _ _ hr _ _ => ?_⟩
      cases hr with
      | av _ _ hv => exact ⟨μ, Give.refl hs n, noPl_rep hv⟩
    | arr t xs =>
      obtain ⟨rfl, rfl, rfl⟩ : AV.sl n = a ∧ upd h n (.arr t xs) = h' ∧ n + 1 = n' := by simpa [giveM] using hg
      exact ⟨by omega, fun B F ok w μ v fp hs hF hf hr _ hu => give_arr hs (hF n (Nat.le_refl _) (by omega)) hf hr hu⟩
    | ptr t x =>
      simp only [giveM] at hg
      split at hg
      · rename_i as h1 n1 hw
        obtain ⟨rfl, rfl, rfl⟩ : AV.ptr n 0 = a ∧ upd h1 n (.cells as) = h' ∧ n1 = n' := by simpa using hg
        obtain ⟨i1, i2, i3⟩ := giveW_sound (giveM_sound k) (O.menc t x) h h1 (n + 1) n1 as hw
        refine ⟨by omega, fun B F ok w μ v fp hs hF hf hr hnd hu => ?_⟩
        cases hr with
        | ptr b t x cur e us hb hul h1c hc =>
          obtain ⟨hd, hgone⟩ := hf.2 n (.inl (Nat.le_refl _)) (hF n (Nat.le_refl _) (by omega))
          rw [List.nodup_cons] at hnd
          let vs : List Value := (List.range (O.menc t x).length).map fun j => cur.getD j undef
          have hvj : ∀ j u, vs[j]? = some u → j < (O.menc t x).length ∧ u = cur.getD j undef := fun j u hj => by
            simp only [vs, List.getElem?_map, Option.map_eq_some_iff, List.getElem?_range] at hj
            obtain ⟨i, hi, rfl⟩ := hj
            obtain ⟨hlt, hi⟩ := List.getElem?_eq_some_iff.1 hi
            simp at hi hlt
            exact ⟨hlt, by rw [hi]⟩
          obtain ⟨μ1, g1, g2⟩ := i3 B F ok w μ vs us hs (fun l x y => hF l (by omega) y) ⟨Nat.le_trans hf.1 (Nat.le_succ _), fun l x y => hf.2 l (by omega) y⟩ (by simp [vs]) hul
            (fun j m v fp a b c => by obtain ⟨_, rfl⟩ := hvj j v b; exact hc j m fp a c) hnd.2 fun g hg => hu g (by simp [hg])
          have o1 := g1.out n (.inl (by omega))
          have hpl : HSim B ok (updP μ1 n (.at b)) (upd h1 n (.cells as)) w := by
            refine g1.hs.place (.inl (o1.1.trans hgone)) (fun g hg => ?_) ?_
            · simp [Pl.blk?] at hg; subst hg
              exact g1.unowned (fp2 := [b]) (fun g hg => by simp at hg; subst hg; exact hu g (by simp)) (fun g hg => by simp at hg; subst hg; exact hnd.1) b (by simp)
            · refine .cells b as cur e hb fun j a ha => ?_
              have hj : j < (O.menc t x).length := by rw [← i2]; exact (List.getElem?_eq_some_iff.1 ha).1
              obtain ⟨u, u1, u2⟩ := h1c j hj
              have hvs : vs[j]? = some u := by
                simp only [vs, List.getElem?_map]
                rw [List.getElem?_range hj]
                simp [Array.getD_eq_getD_getElem?, u1]
              refine ⟨u, by rw [Nat.zero_add]; exact u1, u2, (g2 j a u ha hvs).mono (Keeps.refl _ _) (fun _ x => x) fun l hl => updP_ne μ1 _ fun e => hl ?_⟩
              rw [e, o1.1, hgone]
          refine ⟨updP μ1 n (.at b), ⟨hpl, by omega, fun l hl => ?_, fun l hl => ?_, fun l g hl hg => ?_⟩, .ptr n 0 b (updP_same _ _ _)⟩
          · rw [updP_ne μ1 _ (fun e => by rw [e] at hl; exact hl hgone)]; exact g1.pl l hl
          · have hne : l ≠ n := by omega
            rw [updP_ne μ1 _ hne, upd_ne h1 _ hne]
            exact g1.out l (by omega)
          · by_cases e : l = n
            · subst e; rw [updP_same] at hg; simp [Pl.blk?] at hg; exact .inr (by simp [hg])
            · rw [updP_ne μ1 _ e] at hg; rw [upd_ne h1 _ e] at hl
              rcases g1.own l g hl hg with z | z
              · exact .inl z
              · exact .inr (by simp [List.mem_flatten.1 z])
      · simp at hg

end
end Go.Abs

/-
  Soundness of the abstract machine: a call by its contract.
-/
namespace Go.Abs

section
variable [D : Dom] [C : Coding] [O : Objs] {P : Program}
variable {B : Base} {w w' : World} {ok ok' ok1 ok2 : Nat → Prop} {μ μ' : Nat → Pl} {F F' : FS} {h h' h1 h2 : Hp} {cfs : List (Array Value)} {st : St} {tmps : Array Value}

def valOf : List Value → Value
  | [v] => v
  | vs => .tuple vs.toArray

def Mode.kept : Mode → Bool
  | .own _ => true
  | .row _ => true
  | _ => false

/-- What a call leaves. -/
structure Left (P : Program) (c : Ctr) (ms : List MC) (vs : List Value) (fp : List Nat) (w : World) (ok : Nat → Prop) (e : Ending) (w' : World) (rs : List Value) (us1 us2 : List (List Nat)) (ok' : Nat → Prop) : Prop where
  ret : e = .returned (valOf rs)
  kept : Kept (fun b => b ∈ fp) w w'
  okm : ∀ b, ok b → ok' b
  okn : ∀ b, ok' b → ok b ∨ b ∈ fp ∨ w.heap.size ≤ b
  okb : ∀ b, ok' b → b < w'.heap.size
  nd : (us1.flatten ++ us2.flatten).Nodup
  own : ∀ b ∈ us1.flatten ++ us2.flatten, ¬ ok' b ∧ (b ∈ fp ∨ w.heap.size ≤ b)
  l1 : us1.length = vs.length
  l2 : rs.length = (c.f ms).1.length
  l3 : us2.length = (c.f ms).1.length
  fin0 : ∀ (j : Nat) (q : Mode) (u : List Nat), c.modes[j]? = some q → us1[j]? = some u → q.kept = false → u = []
  fin : ∀ (j : Nat) (q : Mode) (x : MC) (v : Value) (u : List Nat), c.modes[j]? = some q → (c.f ms).2[j]? = some x → vs[j]? = some v → us1[j]? = some u → q.kept = true → MRep w' ok' x v u
  res : ∀ (j : Nat) (x : MC) (v : Value) (u : List Nat), (c.f ms).1[j]? = some x → rs[j]? = some v → us2[j]? = some u → MRep w' ok' x v u

/-- The contract holds. -/
def Good (P : Program) (g : Nat) (c : Ctr) : Prop :=
  (∀ args w, (callFunc g args).run P w = .ok (.enter g args) w) ∧
  ∀ (ms : List MC) (vs : List Value) (us : List (List Nat)) (w : World) (ok : Nat → Prop), c.pre ms = true → ms.length = c.modes.length → vs.length = ms.length → us.length = ms.length → us.flatten.Nodup → (∀ b ∈ us.flatten, ¬ ok b) → (∀ b, ok b → b < w.heap.size) →
    (∀ (j : Nat) (m : MC) (v : Value) (fp : List Nat), ms[j]? = some m → vs[j]? = some v → us[j]? = some fp → MRep w ok m v fp) →
    Calls P g vs.toArray w fun e w' => ∃ rs us1 us2 ok', Left P c ms vs us.flatten w ok e w' rs us1 us2 ok'

omit O in
/-- The world is turned by a call in the blocks of fp. -/
theorem HSim.after (hs : HSim B ok μ h w) {fp : List Nat} (hl : ∀ l b, live (h l) = true → (μ l).blk? = some b → b ∉ fp) (hno : ∀ b ∈ fp, B.w0.heap.size ≤ b ∨ B.M b)
    (hk : Kept (fun b => b ∈ fp) w w') (h0 : ∀ b ∈ fp, ¬ ok b) (h1 : ∀ b, ok b → ok' b) (h2 : ∀ b, ok' b → ok b ∨ b ∈ fp ∨ w.heap.size ≤ b) (h3 : ∀ b, ok' b → b < w'.heap.size) : HSim B ok' μ h w' := by
  have hkeeps : Keeps ok w w' := hk.keeps fun b hb => ⟨hs.okb b hb, fun x => h0 b x hb⟩
  refine ⟨hs.goes.kept hk hno, fun i => (hs.rep i).mono hkeeps h1 (fun _ _ => rfl) fun hli g hg => hk.block g (hs.lt hli hg) (hl i g hli hg), hs.inj, fun l b hlb hb => ⟨fun x => ?_, (hs.nok l b hlb hb).2⟩, h3, fun b hb => h1 b (hs.okm b hb), fun b hb => ?_⟩
  · rcases h2 b x with h' | h' | h'
    · exact (hs.nok l b hlb hb).1 h'
    · exact hl l b hlb hb h'
    · have := hs.lt hlb hb; omega
  · rcases h2 b hb with h' | h' | h'
    · exact hs.oko b h'
    · exact .inr (hno b h').symm
    · exact .inr (.inr (Nat.le_trans hs.goes.size h'))

/-- The heap is turned: places get blocks of fp. -/
structure Turn (B : Base) (F : FS) (ok : Nat → Prop) (w : World) (n : Nat) (μ : Nat → Pl) (h : Hp) (n' : Nat) (μ' : Nat → Pl) (h' : Hp) (fp : List Nat) : Prop where
  hs : HSim B ok μ' h' w
  pl : ∀ l, μ l ≠ .gone → μ' l = μ l
  fresh : Fresh F n' μ' h'
  own : ∀ l b, live (h' l) = true → (μ' l).blk? = some b → (live (h l) = true ∧ (μ l).blk? = some b) ∨ b ∈ fp

omit O in
theorem Turn.refl (hs : HSim B ok μ h w) {n : Nat} (hf : Fresh F n μ h) : Turn B F ok w n μ h n μ h [] := ⟨hs, fun _ _ => rfl, hf, fun _ _ x y => .inl ⟨x, y⟩⟩

omit O in
theorem Turn.trans {n n1 n2 : Nat} {μ1 μ2 : Nat → Pl} {fp1 fp2 : List Nat} (a : Turn B F ok w n μ h n1 μ1 h1 fp1) (b : Turn B F ok w n1 μ1 h1 n2 μ2 h2 fp2) : Turn B F ok w n μ h n2 μ2 h2 (fp1 ++ fp2) := by
  refine ⟨b.hs, fun l hl => ?_, b.fresh, fun l g hl hg => ?_⟩
  · have := a.pl l hl
    exact (b.pl l (by rw [this]; exact hl)).trans this
  · rcases b.own l g hl hg with ⟨x, y⟩ | x
    · rcases a.own l g x y with z | z
      · exact .inl z
      · exact .inr (by simp [z])
    · exact .inr (by simp [x])

omit O in
theorem Turn.unowned {n n1 : Nat} {μ1 : Nat → Pl} {fp1 fp2 : List Nat} (a : Turn B F ok w n μ h n1 μ1 h1 fp1) (hu : Unowned B ok μ h fp2) (hd : ∀ b ∈ fp2, b ∉ fp1) : Unowned B ok μ1 h1 fp2 :=
  fun b hb => ⟨fun l hl hg => by
    rcases a.own l b hl hg with ⟨x, y⟩ | x
    · exact (hu b hb).1 l x y
    · exact hd b hb x, (hu b hb).2⟩

omit O in
theorem Turn.step {n n1 : Nat} {μ1 : Nat → Pl} {fp1 : List Nat} (a : Turn B F ok w n μ h n1 μ1 h1 fp1) : Step ok μ w ok μ1 w := ⟨Keeps.refl _ _, fun _ x => x, a.pl⟩

omit O in
theorem Give.turn {n n1 : Nat} {μ1 : Nat → Pl} {fp1 : List Nat} (a : Give B ok w n μ h n1 μ1 h1 fp1) (hf : Fresh F n μ h) : Turn B F ok w n μ h n1 μ1 h1 fp1 := ⟨a.hs, a.pl, a.fresh hf, a.own⟩

/-- The place of a row that is handed on. -/
def RowAt (μ : Nat → Pl) (q : Mode) (a : AV) : Prop := ∀ t l, q = .row t → a = .sl l → μ l = .nil ∨ ∃ b o n cap, μ l = .row b o n cap (C.k t)

theorem takeM_row {q : Mode} {a : AV} {m : MC} {g : Lg} (ht : takeM q a h = some (m, h', g)) (hs : HSim B ok μ h w) : RowAt μ q a := by
  rintro t l rfl rfl
  simp only [takeM, takeArr] at ht
  split at ht
  · rename_i t' xs hl
    cases hsm : same t t' <;> rw [hsm] at ht
    · simp at ht
    · have := same_eq hsm
      subst this
      have hr := hs.rep l
      rw [hl] at hr
      generalize μ l = p at hr
      cases hr with
      | arrNil => exact .inl rfl
      | arr b o cap t xs => exact .inr ⟨b, o, _, cap, rfl⟩
  · simp at ht

theorem takeMs_row (L : Lawful P) (LO : LawfulO) : ∀ {qs : List Mode} {as : List AV} {ms : List MC} {h h' : Hp} {ok : Nat → Prop} {g : Lg}, takeMs qs as h = some (ms, h', g) → HSim B ok μ h w → ∀ (j : Nat) (q : Mode) (a : AV), qs[j]? = some q → as[j]? = some a → RowAt μ q a
  | [], [], ms, h, h', ok, g, ht, hs => fun j q a hq => by simp at hq
  | q :: qs, a :: as, ms, h, h', ok, g, ht, hs => by
    simp only [takeMs] at ht
    split at ht
    · rename_i m h1 g1 h1t
      split at ht
      · rename_i ms' h2 g2 h2t
        obtain ⟨ok1, fp, a1, a2⟩ := takeM_take L LO h1t hs
        intro j q' a' hq ha
        cases j with
        | zero => simp at hq ha; subst hq; subst ha; exact takeM_row h1t hs
        | succ j => exact takeMs_row L LO h2t a1.hs j q' a' (by simpa using hq) (by simpa using ha)
      · simp at ht
    · simp at ht
  | [], _ :: _, _, _, _, _, _, ht, _ => by simp [takeMs] at ht
  | _ :: _, [], _, _, _, _, _, ht, _ => by simp [takeMs] at ht

theorem backM_le {q : Mode} {a : AV} {x : MC} {n n' : Nat} (hb : backM q a x h n = some (h', n')) : n ≤ n' := by
  unfold backM at hb
  split at hb
  · rename_i t l t' x
    cases hsm : same t t' <;> rw [hsm] at hb
    · simp at hb
    · simp only [cond_true] at hb
      split at hb
      · rename_i as h1 n1 hw
        obtain ⟨_, rfl⟩ : _ ∧ n1 = n' := by simpa using hb
        exact (giveW_sound (giveM_sound 6) _ _ _ _ _ _ hw).1
      · simp at hb
  · rename_i t l t' xs
    cases hsm : same t t' <;> rw [hsm] at hb <;> simp at hb
    omega
  all_goals (simp at hb; try omega)

theorem backM_sound {q : Mode} {a : AV} {x : MC} {n n' : Nat} {v : Value} {fp : List Nat} (hb : backM q a x h n = some (h', n')) (hs : HSim B ok μ h w) (hF : ∀ l, n ≤ l → l < n' → F l) (hf : Fresh F n μ h) (hv : VRep w ok μ a v) (hrow : RowAt μ q a)
    (h0 : q.kept = false → fp = []) (h1 : q.kept = true → MRep w ok x v fp) (hnd : fp.Nodup) (hu : Unowned B ok μ h fp) : ∃ μ', Turn B F ok w n μ h n' μ' h' fp := by
  have putback : ∀ {μ1 : Nat → Pl} {h1 : Hp} {n1 : Nat} {fp1 fp2 : List Nat} {l : Nat} {p : Pl} {b : Blk}, Turn B F ok w n μ h n1 μ1 h1 fp1 → μ1 l = p → p ≠ .gone → (∀ g, p.blk? = some g → g ∈ fp2) →
      Unowned B ok μ1 h1 fp2 → BRep w ok μ1 p b → Turn B F ok w n μ h n1 μ1 (upd h1 l b) (fp2 ++ fp1) := by
    intro μ1 h1 n1 fp1 fp2 l p b k1 k2 k3 k5 k6 k7
    have hself : updP μ1 l p = μ1 := by
      funext i
      by_cases e : i = l
      · subst e; rw [updP_same, k2]
      · exact updP_ne μ1 p e
    have hpl := k1.hs.place (l := l) (p := p) (b := b) (.inr k2) (fun g hg => k6 g (k5 g hg)) (by rw [hself]; exact k7)
    rw [hself] at hpl
    refine ⟨hpl, k1.pl, ⟨k1.fresh.1, fun i hi hFi => ?_⟩, fun i g hi hg => ?_⟩
    · have := k1.fresh.2 i hi hFi
      have hne : i ≠ l := fun e => by subst e; rw [k2] at this; exact k3 this.2
      rw [upd_ne h1 b hne]; exact this
    · by_cases e : i = l
      · subst e; rw [k2] at hg; exact .inr (by simp [k5 g hg])
      · rw [upd_ne h1 b e] at hi
        rcases k1.own i g hi hg with z | z
        · exact .inl z
        · exact .inr (by simp [z])
  unfold backM at hb
  split at hb
  · rename_i t l t' x
    cases hsm : same t t' <;> rw [hsm] at hb
    · simp at hb
    · simp only [cond_true] at hb
      split at hb
      · rename_i as h1' n1 hw
        obtain ⟨rfl, rfl⟩ : upd h1' l (.cells as) = h' ∧ n1 = n' := by simpa using hb
        cases hv with
        | ptr _ _ b hμ =>
          cases h1 rfl with
          | ptr _ _ _ cur e us hb hul h1c hc =>
            rw [List.nodup_cons] at hnd
            obtain ⟨i1, i2, i3⟩ := giveW_sound (giveM_sound 6) _ _ _ _ _ _ hw
            let vs : List Value := (List.range (O.menc t' x).length).map fun j => cur.getD j undef
            have hvj : ∀ j u, vs[j]? = some u → j < (O.menc t' x).length ∧ u = cur.getD j undef := fun j u hj => by
              simp only [vs, List.getElem?_map, Option.map_eq_some_iff, List.getElem?_range] at hj
              obtain ⟨i, hi, rfl⟩ := hj
              obtain ⟨hlt, hi⟩ := List.getElem?_eq_some_iff.1 hi
              simp at hi hlt
              exact ⟨hlt, by rw [hi]⟩
            obtain ⟨μ1, g1, g2⟩ := i3 B F ok w μ vs us hs hF hf (by simp [vs]) hul
              (fun j m v fp a b c => by obtain ⟨_, rfl⟩ := hvj j v b; exact hc j m fp a c) hnd.2 fun g hg => hu g (by simp [hg])
            have hpl : μ1 l = .at b := (g1.pl l (by rw [hμ]; simp)).trans hμ
            refine ⟨μ1, putback (fp2 := [b]) (g1.turn hf) hpl (by simp) (fun g hg => by simp [Pl.blk?] at hg; simp [hg]) (g1.unowned (fun g hg => by simp at hg; subst hg; exact hu g (by simp)) fun g hg => by simp at hg; subst hg; exact hnd.1) ?_⟩
            · refine .cells b as cur e hb fun j a ha => ?_
              have hj : j < (O.menc t' x).length := by rw [← i2]; exact (List.getElem?_eq_some_iff.1 ha).1
              obtain ⟨u, u1, u2⟩ := h1c j hj
              have hvs : vs[j]? = some u := by
                simp only [vs, List.getElem?_map]
                rw [List.getElem?_range hj]
                simp [Array.getD_eq_getD_getElem?, u1]
              exact ⟨u, by rw [Nat.zero_add]; exact u1, u2, g2 j a u ha hvs⟩
      · simp at hb
  · rename_i t l t' xs
    cases hsm : same t t' <;> rw [hsm] at hb
    · simp at hb
    · obtain ⟨rfl, rfl⟩ : upd h l (.arr t' xs) = h' ∧ n = n' := by simpa using hb
      have := same_eq hsm
      subst this
      have hr := h1 rfl
      cases hv with
      | sl _ b o m cap k hμ =>
        generalize hv' : Value.slice (some ⟨b, o, none⟩) m cap = v' at hr
        cases hr with
        | arrNil => simp at hv'
        | arr b' o' cap' t'' xs' cur e k1 k2 k3 k4 =>
          simp only [Value.slice.injEq, Option.some.injEq, Addr.mk.injEq] at hv'
          obtain ⟨⟨rfl, rfl, _⟩, rfl, rfl⟩ := hv'
          rcases hrow _ l rfl rfl with hrow | ⟨b2, o2, n2, c2, hrow⟩
          · rw [hμ] at hrow; simp at hrow
          · rw [hμ] at hrow
            simp only [Pl.row.injEq] at hrow
            obtain ⟨_, _, _, _, rfl⟩ := hrow
            exact ⟨μ, by simpa using putback (fp2 := [b]) (Turn.refl hs hf) hμ (by simp) (fun g hg => by simp [Pl.blk?] at hg; simp [hg]) hu (.arr b o cap _ xs cur e k1 k2 k3 fun i x hx => (k4 i x hx).mono (Keeps.refl _ _) (fun _ x => x) fun _ hl => absurd rfl hl)⟩
      | slNil _ hμ =>
        generalize hv' : Value.slice none 0 0 = v' at hr
        cases hr with
        | arr => simp at hv'
        | arrNil =>
          exact ⟨μ, by simpa using putback (fp2 := []) (Turn.refl hs hf) hμ (by simp) (fun g hg => by simp [Pl.blk?] at hg) hu (.arrNil _)⟩
  · obtain ⟨rfl, rfl⟩ : h = h' ∧ n = n' := by simpa using hb
    cases hv with
    | v _ =>
      have hr := h1 rfl
      generalize hv' : Value.slice none 0 0 = v' at hr
      cases hr with
      | arr => simp at hv'
      | arrNil => exact ⟨μ, Turn.refl hs hf⟩
  · obtain ⟨rfl, rfl⟩ : h = h' ∧ n = n' := by simpa using hb
    rw [h0 rfl]; exact ⟨μ, Turn.refl hs hf⟩
  · obtain ⟨rfl, rfl⟩ : h = h' ∧ n = n' := by simpa using hb
    rw [h0 rfl]; exact ⟨μ, Turn.refl hs hf⟩
  · simp at hb

end
end Go.Abs

/-
  Soundness of the abstract machine: a call by its contract, all of it.
-/
namespace Go.Abs

section
variable [D : Dom] [C : Coding] [O : Objs] {P : Program}
variable {B : Base} {w w' : World} {ok ok' ok1 ok2 : Nat → Prop} {μ μ' : Nat → Pl} {F F' : FS} {h h' h1 h2 : Hp} {cfs : List (Array Value)} {st : St} {tmps : Array Value}

theorem backMs_sound : ∀ (qs : List Mode) (as : List AV) (xs : List MC) (h h' : Hp) (n n' : Nat), backMs qs as xs h n = some (h', n') → n ≤ n' ∧ qs.length = as.length ∧ xs.length = as.length ∧
    ∀ (B : Base) (F : FS) (ok : Nat → Prop) (w : World) (μ : Nat → Pl) (vs : List Value) (us : List (List Nat)), HSim B ok μ h w → (∀ l, n ≤ l → l < n' → F l) → Fresh F n μ h → vs.length = as.length → us.length = as.length →
      (∀ (j : Nat) (a : AV) (v : Value), as[j]? = some a → vs[j]? = some v → VRep w ok μ a v) →
      (∀ (j : Nat) (q : Mode) (a : AV), qs[j]? = some q → as[j]? = some a → RowAt μ q a) →
      (∀ (j : Nat) (q : Mode) (u : List Nat), qs[j]? = some q → us[j]? = some u → q.kept = false → u = []) →
      (∀ (j : Nat) (q : Mode) (x : MC) (v : Value) (u : List Nat), qs[j]? = some q → xs[j]? = some x → vs[j]? = some v → us[j]? = some u → q.kept = true → MRep w ok x v u) →
      us.flatten.Nodup → Unowned B ok μ h us.flatten → ∃ μ', Turn B F ok w n μ h n' μ' h' us.flatten
  | [], [], [], h, h', n, n', hb => by
    obtain ⟨rfl, rfl⟩ : h = h' ∧ n = n' := by simpa [backMs] using hb
    refine ⟨Nat.le_refl _, rfl, rfl, fun B F ok w μ vs us hs _ hf _ hul _ _ _ _ _ _ => ⟨μ, ?_⟩⟩
    have : us = [] := by simpa using hul
    subst this
    exact Turn.refl hs hf
  | q :: qs, a :: as, x :: xs, h, h', n, n', hb => by
    simp only [backMs] at hb
    split at hb
    · rename_i h1 n1 hb1
      obtain ⟨i1, i2, i3, i4⟩ := backMs_sound qs as xs h1 h' n1 n' hb
      have i0 := backM_le hb1
      refine ⟨Nat.le_trans i0 i1, by simp [i2], by simp [i3], fun B F ok w μ vs us hs hF hf hvl hul hv hrow h0 hm hnd hu => ?_⟩
      cases vs with
      | nil => simp at hvl
      | cons v vs =>
        cases us with
        | nil => simp at hul
        | cons fp us =>
          rw [List.flatten_cons] at hnd hu ⊢
          rw [List.nodup_append] at hnd
          obtain ⟨μ1, k1⟩ := backM_sound hb1 hs (fun l x y => hF l x (by omega)) hf (hv 0 a v rfl rfl) (hrow 0 q a rfl rfl) (h0 0 q fp rfl rfl) (hm 0 q x v fp rfl rfl rfl rfl) hnd.1 fun b hb => hu b (by simp [hb])
          obtain ⟨μ2, k2⟩ := i4 B F ok w μ1 vs us k1.hs (fun l x y => hF l (by omega) y) k1.fresh (by simpa using hvl) (by simpa using hul)
            (fun j a v ha hv' => (hv (j + 1) a v (by simpa using ha) (by simpa using hv')).step k1.step)
            (fun j q a hq ha t l e1 e2 => by
              have := hrow (j + 1) q a (by simpa using hq) (by simpa using ha) t l e1 e2
              have hne : μ l ≠ .gone := by rcases this with e | ⟨_, _, _, _, e⟩ <;> rw [e] <;> simp
              rw [k1.pl l hne]; exact this)
            (fun j q u hq hu' => h0 (j + 1) q u (by simpa using hq) (by simpa using hu'))
            (fun j q x v u a b c d => hm (j + 1) q x v u (by simpa using a) (by simpa using b) (by simpa using c) (by simpa using d)) hnd.2.1
            (k1.unowned (fun b hb => hu b (List.mem_append.2 (.inr hb))) fun b hb hb' => hnd.2.2 b hb' b hb rfl)
          exact ⟨μ2, k1.trans k2⟩
    · simp at hb
  | [], [], _ :: _, _, _, _, _, hb => by simp [backMs] at hb
  | [], _ :: _, _, _, _, _, _, hb => by simp [backMs] at hb
  | _ :: _, [], _, _, _, _, _, hb => by simp [backMs] at hb
  | _ :: _, _ :: _, [], _, _, _, _, hb => by simp [backMs] at hb

omit O in
theorem oneOf_rep {as : List AV} {vs : List Value} (hl : vs.length = as.length) (hr : ∀ (j : Nat) (a : AV) (v : Value), as[j]? = some a → vs[j]? = some v → VRep w ok μ a v) : VRep w ok μ (oneOf as) (valOf vs) := by
  unfold oneOf valOf
  split
  · rename_i a
    match vs, hl with
    | [v], _ => exact hr 0 a v rfl rfl
  · rename_i hn
    split
    · rename_i v
      match as, hl with
      | [a], _ => exact absurd rfl (hn a)
    · exact .tup as vs hl hr

theorem callC_sound (L : Lawful P) (LO : LawfulO) {α : Type} {r : α} {g : Nat} {c : Ctr} (hg : Good P g c) {as : List AV} {vs : List Value} {K : AV → St → Lg → Option α} (hc : callC c as st K = some r) (hs : Sim B F cfs ok μ st tmps w)
    (hvl : vs.length = as.length) (hv : ∀ (i : Nat) (a : AV) (v : Value), as[i]? = some a → vs[i]? = some v → VRep w ok μ a v)
    (hF : ∀ av st' lg, K av st' lg = some r → ∀ l, st.nx ≤ l → l < st'.nx → F l) :
    (∀ args w, (callFunc g args).run P w = .ok (.enter g args) w) ∧ Calls P g vs.toArray w fun e w' => ∃ v av st' lg ok' μ', e = .returned v ∧ K av st' lg = some r ∧ VRep w' ok' μ' av v ∧ Sim B F cfs ok' μ' st' tmps w' := by
  refine ⟨hg.1, ?_⟩
  rw [callC_eq] at hc
  unfold callC0 at hc
  split at hc
  · rename_i ms h1 lg1 ht
    cases hpre : c.pre ms <;> rw [hpre] at hc
    · simp at hc
    · simp only [cond_true] at hc
      split at hc
      · rename_i h2 n2 hb
        split at hc
        · rename_i rs h3 n3 hgv
          obtain ⟨ok1, us, k1, k2, k3, k4, k5⟩ := takeMs_take L LO ht hs.heap
          obtain ⟨b1, b2, b3, b4⟩ := backMs_sound c.modes as (c.f ms).2 h1 h2 st.nx n2 hb
          obtain ⟨i1, i2, i3⟩ := giveW_sound (giveM_sound 6) (c.f ms).1 h2 h3 n2 n3 rs hgv
          have hF' := hF _ _ _ hc
          simp only at hF'
          refine Calls.mono (hg.2 ms vs us w ok1 hpre (by omega) (by omega) k2 k1.nd k1.nok k1.hs.okb fun j m v fp hm hv' hfp => ?_) fun e w' => ?_
          · obtain ⟨a, a1, a2⟩ := k5 j m fp hm hfp
            exact a2 v (hv j a v a1 hv')
          · rintro ⟨rvs, us1, us2, ok2, Q⟩
            have hunown : ∀ b ∈ us.flatten, B.w0.heap.size ≤ b ∨ B.M b := fun b hb => let ⟨l, l1, l2⟩ := k1.src b hb; (hs.heap.nok l b l1 l2).2
            have hs1 : HSim B ok2 μ h1 w' := k1.hs.after (fun l b hl hb => (k1.liv l hl).2 b hb) hunown Q.kept k1.nok Q.okm Q.okn Q.okb
            have hkeeps : Keeps ok1 w w' := Q.kept.keeps fun b hb => ⟨k1.hs.okb b hb, fun x => k1.nok b x hb⟩
            have hstep1 : Step ok μ w ok2 μ w' := ⟨fun b hb o => hkeeps b (k1.okm b hb) o, fun b hb => Q.okm b (k1.okm b hb), fun _ _ => rfl⟩
            have hun : Unowned B ok2 μ h1 (us1.flatten ++ us2.flatten) := fun b hb => by
              obtain ⟨o1, o2⟩ := Q.own b hb
              refine ⟨fun l hl hbl => ?_, o1, ?_⟩
              · have hlt := k1.hs.lt hl hbl
                rcases o2 with o2 | o2
                · exact (k1.liv l hl).2 b hbl o2
                · omega
              · rcases o2 with o2 | o2
                · exact hunown b o2
                · exact .inl (Nat.le_trans hs.heap.goes.size o2)
            have hfr1 : Fresh F st.nx μ h1 := ⟨hs.fresh.1, fun l hl hFl => let ⟨x, y⟩ := hs.fresh.2 l hl hFl; ⟨k1.dd l x, y⟩⟩
            have hnd := Q.nd
            rw [List.nodup_append] at hnd
            obtain ⟨μ1, t1⟩ := b4 B F ok2 w' μ vs us1 hs1 (fun l x y => hF' l x (by omega)) hfr1 hvl (by rw [Q.l1, hvl]) (fun j a v ha hv' => (hv j a v ha hv').step hstep1)
              (takeMs_row L LO ht hs.heap) Q.fin0 Q.fin hnd.1 fun b hb => hun b (by simp [hb])
            obtain ⟨μ2, t2, t3⟩ := i3 B F ok2 w' μ1 rvs us2 t1.hs (fun l x y => hF' l (by omega) y) t1.fresh Q.l2 Q.l3 Q.res hnd.2.1
              (t1.unowned (fun b hb => hun b (List.mem_append.2 (.inr hb))) fun b hb hb' => hnd.2.2 b hb' b hb rfl)
            have hpl : ∀ l, μ l ≠ .gone → μ2 l = μ l := fun l hl => by
              have h1 := t1.pl l hl
              exact (t2.pl l (by rw [h1]; exact hl)).trans h1
            refine ⟨valOf rvs, oneOf rs, _, _, ok2, μ2, Q.ret, hc, oneOf_rep (by rw [Q.l2, i2]) t3, ⟨t2.hs, ?_, ?_, t2.fresh t1.fresh⟩⟩
            · exact hs.tm.mono hstep1.keeps hstep1.ok hpl
            · exact hs.fs.mono hstep1.keeps hstep1.ok hpl
        · simp at hc
      · simp at hc
  · simp at hc

/-- Contracts that hold. -/
def AllGood (P : Program) (Γ : Nat → Option Ctr) : Prop := ∀ g c, Γ g = some c → Good P g c

theorem callD_ok (L : Lawful P) (LO : LawfulO) {Γ : Nat → Option Ctr} (hΓ : AllGood P Γ) {α : Type} (r : α) : CallOK P F (callD Γ) r := by
  intro B cfs ok μ st tmps w g as vs K hc hs hvl hv hF
  unfold callD at hc
  split at hc
  · rename_i c hg
    exact callC_sound L LO (hΓ g c hg) hc hs hvl hv hF
  · simp at hc

end
end Go.Abs

/-
  Soundness of the abstract machine: a call that is gone into.
-/
namespace Go.Abs

section
variable [D : Dom] [C : Coding] [O : Objs] {P : Program}
variable {B : Base} {w w' : World} {ok ok' ok1 ok2 : Nat → Prop} {μ μ' : Nat → Pl} {F F' : FS} {h h' h1 h2 : Hp} {cfs : List (Array Value)} {st : St} {tmps : Array Value}

def oneRes (tmps : Array Value) : ResultVar → Sem Value
  | .tmp t => pure (tmps.getD t undef)
  | .cell a t => do loadVar t (← asAddr (tmps.getD a undef))

omit O in
theorem resA_list [L : Lawful P] (hs : HSim B ok μ st.hp w) (ht : TRep w ok μ st.tm tmps) : ∀ {rs : List ResultVar} {as : List AV}, resA P st rs = some as → ∃ vs, (rs.mapM (oneRes tmps)).run P w = .ok vs w ∧ vs.length = as.length ∧ ∀ (j : Nat) (a : AV) (v : Value), as[j]? = some a → vs[j]? = some v → VRep w ok μ a v
  | [], as, hr => by
    obtain rfl : [] = as := by simpa [resA] using hr
    exact ⟨[], by simp, rfl, fun j a v ha => by simp at ha⟩
  | .tmp t :: rs, as, hr => by
    simp only [resA] at hr
    split at hr
    · rename_i a hg
      split at hr
      · rename_i as' hr'
        obtain rfl : a :: as' = as := by simpa using hr
        obtain ⟨vs, k1, k2, k3⟩ := resA_list hs ht hr'
        refine ⟨tmps.getD t undef :: vs, by simp [List.mapM_cons, oneRes, k1], by simp [k2], fun j b v hb hv => ?_⟩
        cases j with
        | zero => simp at hb hv; subst hb; subst hv; have := ht.rep t _ hg; rwa [Array.getD_eq_getD_getElem?] at this
        | succ j => exact k3 j b v (by simpa using hb) (by simpa using hv)
      · simp at hr
    · simp at hr
  | .cell t T :: rs, as, hr => by
    simp only [resA] at hr
    split at hr
    · rename_i a hg
      split at hr
      · rename_i v0 hl
        split at hr
        · rename_i as' hr'
          obtain rfl : v0 :: as' = as := by simpa using hr
          obtain ⟨vs, k1, k2, k3⟩ := resA_list hs ht hr'
          obtain ⟨av, g, u, e1, e2, e3⟩ := loadA_sound hl hs (ht.rep t a hg)
          obtain rfl : av = v0 := by simpa using e1
          have hcell : (oneRes tmps (.cell t T)).run P w = .ok u w := by
            simp only [oneRes]
            simp only [Instr.loadAt, Instr.sureAddr] at e2
            split at e2
            · rename_i x hx; rw [hx]; simpa [asAddr] using e2
            · simp [stuck] at e2
          refine ⟨u :: vs, by simp [List.mapM_cons, hcell, k1], by simp [k2], fun j b v hb hv => ?_⟩
          cases j with
          | zero => simp at hb hv; subst hb; subst hv; exact e3
          | succ j => exact k3 j b v (by simpa using hb) (by simpa using hv)
        · simp at hr
      · simp at hr
    · simp at hr

omit D C O in
theorem results_list (fn : Func) {w : World} {vs : List Value} (hm : (fn.results.toList.mapM (oneRes tmps)).run P w = .ok vs w) : (results fn tmps).run P w = .ok (valOf vs) w := by
  have e0 : results fn tmps = (fn.results.mapM (oneRes tmps)) >>= fun vs => (pure (if h : vs.size = 1 then vs[0] else .tuple vs) : Sem Value) := by
    unfold results
    congr 1
  have e1 : fn.results.mapM (oneRes tmps) = List.toArray <$> fn.results.toList.mapM (oneRes tmps) := by
    rw [← List.mapM_toArray]
  rw [e0, e1]
  simp only [Sem.run_bind, Sem.run_map, hm, Result.andThen_ok, Sem.run_pure]
  match vs with
  | [] => simp [valOf]
  | [v] => simp [valOf]
  | _ :: _ :: _ => simp [valOf]

/-- Functions that are entered. -/
def Enters (P : Program) (gs : List Nat) : Prop := ∀ g ∈ gs, ∀ args w, (callFunc g args).run P w = .ok (.enter g args) w

omit D C O in
theorem memN_mem : ∀ {g : Nat} {gs : List Nat}, memN g gs = true → g ∈ gs
  | g, [], h => by simp [memN] at h
  | g, x :: gs, h => by
    cases hx : Nat.beq x g with
    | true =>
      have := Nat.eq_of_beq_eq_true hx
      simp [this]
    | false => exact List.mem_cons_of_mem _ (memN_mem (by simpa [memN, hx] using h))

omit O in
/-- A frame at a call's entry. -/
theorem frame_rep {fn : Func} {as : List AV} {vs : List Value} (hl : vs.length = as.length) (hr : ∀ (j : Nat) (a : AV) (v : Value), as[j]? = some a → vs[j]? = some v → VRep w ok μ a v) :
    TRep w ok μ (frameOf fn as) (vs.toArray ++ Array.replicate (fn.ntmps - vs.toArray.size) undef) := by
  refine ⟨by simp [frameOf, hl], fun t av ha => ?_⟩
  unfold get? at ha
  rw [nth_eq] at ha
  split at ha
  · rename_i b hb
    obtain rfl : b = av := by simpa using ha
    unfold frameOf at hb
    rw [List.getElem?_append] at hb
    split at hb
    · rename_i hlt
      simp at hlt hb
      have hlt' : t < vs.length := by omega
      refine hr t b _ hb ?_
      rw [Array.getD_eq_getD_getElem?, Array.getElem?_append_left (by simpa using hlt')]
      simp [hlt']
    · rw [List.getElem?_replicate] at hb
      split at hb <;> simp at hb
  · simp at ha

theorem callA_ok (L : Lawful P) (LO : LawfulO) {Γ : Nat → Option Ctr} (hΓ : AllGood P Γ) (ann : Nat → Ann) {inl : List Nat} (hE : Enters P inl) {α : Type} (r : α) (hdraw : DrawOK P (callD Γ) r) : ∀ n, CallOK P All (callA P Γ ann inl n) r
  | 0 => callD_ok L LO hΓ r
  | n + 1 => by
    intro B cfs ok μ st tmps w g as vs K hc hs hvl hv hF
    simp only [callA] at hc
    split at hc
    · rename_i c hg
      exact callC_sound L LO (hΓ g c hg) hc hs hvl hv hF
    · cases hm : memN g inl <;> rw [hm] at hc
      · simp at hc
      · simp only [cond_true] at hc
        split at hc
        · rename_i fn hfn
          split at hc
          · rename_i b hb
            refine ⟨hE g (memN_mem hm), calls_of_wp hfn hb ?_⟩
            refine runA_sound L (callA_ok L LO hΓ ann hE r hdraw n) hdraw _ _ [] b _ _ ok μ _ w _ hc (cfs := tmps :: cfs) ⟨hs.heap, frame_rep hvl hv, ⟨hs.tm, hs.fs⟩, hs.fresh⟩ fun e st' ok' μ' t w' hk hs' => ?_
            have key : ∀ tm fs, st'.fs = tm :: fs → (match resA P st' fn.results.toList with | some rs => K (oneOf rs) { tm := tm, fs := fs, hp := st'.hp, nx := st'.nx } { opq := true } | none => none) = some r →
                ∃ v, (results fn t).run P w' = .ok v w' ∧ ∃ v' av st'' lg ok'' μ'', Ending.returned v = .returned v' ∧ K av st'' lg = some r ∧ VRep w' ok'' μ'' av v' ∧ Sim B All cfs ok'' μ'' st'' tmps w' := by
              intro tm fs hfs hk
              split at hk
              · rename_i rs hrs
                obtain ⟨rvs, k1, k2, k3⟩ := resA_list hs'.heap hs'.tm hrs
                have hfr := hs'.fs
                rw [hfs] at hfr
                exact ⟨valOf rvs, results_list fn k1, valOf rvs, oneOf rs, _, _, ok', μ', rfl, hk, oneOf_rep k2 k3, ⟨hs'.heap, hfr.1, hfr.2, hs'.fresh⟩⟩
              · simp at hk
            cases e with
            | exit id => simp at hk
            | goto l => simp at hk
            | normal =>
              cases hfs : st'.fs with
              | nil => rw [hfs] at hk; simp at hk
              | cons tm fs => rw [hfs] at hk; exact ⟨rfl, key tm fs hfs hk⟩
            | ret =>
              cases hfs : st'.fs with
              | nil => rw [hfs] at hk; simp at hk
              | cons tm fs => rw [hfs] at hk; exact ⟨rfl, key tm fs hfs hk⟩
          · simp at hc
        · simp at hc

end
end Go.Abs

/-
  Soundness of the abstract machine: a function that was gone through has its contract.
-/
namespace Go.Abs

section
variable [D : Dom] [C : Coding] [O : Objs] {P : Program}
variable {B : Base} {w w' : World} {ok ok' ok1 ok2 : Nat → Prop} {μ μ' : Nat → Pl} {F F' : FS} {h h' h1 h2 : Hp} {cfs : List (Array Value)} {st : St} {tmps : Array Value}

theorem finM_take (L : Lawful P) (LO : LawfulO) {q : Mode} {a : AV} {m : MC} (ht : finM q a h = some (m, h')) (hs : HSim B ok μ h w) : ∃ ok' fp, Take B μ w ok h ok' h' fp ∧ (q.kept = false → fp = []) ∧ (q.kept = true → Gets w ok μ ok' a m fp) := by
  unfold finM at ht
  split at ht
  · obtain ⟨_, rfl⟩ : _ ∧ h = h' := by simpa using ht
    exact ⟨ok, [], Take.refl hs, fun _ => rfl, fun x => by simp [Mode.kept] at x⟩
  · obtain ⟨_, rfl⟩ : _ ∧ h = h' := by simpa using ht
    exact ⟨ok, [], Take.refl hs, fun _ => rfl, fun x => by simp [Mode.kept] at x⟩
  · split at ht
    · rename_i m' h1 g hp
      obtain ⟨rfl, rfl⟩ : m' = m ∧ h1 = h' := by simpa using ht
      obtain ⟨ok', fp, k1, k2⟩ := takePtr_take L LO 6 _ _ _ _ _ _ _ hp hs
      exact ⟨ok', fp, k1, fun x => by simp [Mode.kept] at x, fun _ => k2⟩
    · simp at ht
  · split at ht
    · rename_i m' h1 g hp
      obtain ⟨rfl, rfl⟩ : m' = m ∧ h1 = h' := by simpa using ht
      obtain ⟨fp, k1, k2⟩ := takeArr_take L hp hs
      exact ⟨ok, fp, k1, fun x => by simp [Mode.kept] at x, fun _ => k2⟩
    · simp at ht

theorem finMs_take (L : Lawful P) (LO : LawfulO) : ∀ {qs : List Mode} {as : List AV} {ms : List MC} {h : Hp} {ok : Nat → Prop}, finMs qs as h = some ms → HSim B ok μ h w →
      ∃ (ok' : Nat → Prop) (h' : Hp) (us : List (List Nat)), Take B μ w ok h ok' h' us.flatten ∧ us.length = as.length ∧ ms.length = as.length ∧ as.length = qs.length ∧
        (∀ (j : Nat) (q : Mode) (u : List Nat), qs[j]? = some q → us[j]? = some u → q.kept = false → u = []) ∧
        ∀ (j : Nat) (q : Mode) (m : MC) (fp : List Nat), qs[j]? = some q → ms[j]? = some m → us[j]? = some fp → q.kept = true → ∃ a, as[j]? = some a ∧ Gets w ok μ ok' a m fp
  | [], [], ms, h, ok, ht, hs => by
    obtain rfl : [] = ms := by simpa [finMs] using ht
    exact ⟨ok, h, [], Take.refl hs, rfl, rfl, rfl, fun j q u hq => by simp at hq, fun j q m fp hq => by simp at hq⟩
  | q :: qs, a :: as, ms, h, ok, ht, hs => by
    simp only [finMs] at ht
    split at ht
    · rename_i m h1 h1t
      split at ht
      · rename_i ms' h2t
        obtain rfl : m :: ms' = ms := by simpa using ht
        obtain ⟨ok1, fp, a1, a2, a3⟩ := finM_take L LO h1t hs
        obtain ⟨ok2, h2, us, b1, b2, b3, b4, b5, b6⟩ := finMs_take L LO h2t a1.hs
        refine ⟨ok2, h2, fp :: us, by rw [List.flatten_cons]; exact a1.trans b1, by simp [b2], by simp [b3], by simp [b4], fun j q' u hq hu => ?_, fun j q' m' fp' hq hm hfp hk => ?_⟩
        · cases j with
          | zero => simp at hq hu; subst hq; subst hu; exact a2
          | succ j => exact b5 j q' u (by simpa using hq) (by simpa using hu)
        · cases j with
          | zero => simp at hq hm hfp; subst hq; subst hm; subst hfp; exact ⟨a, rfl, (a3 hk).mono b1.okm⟩
          | succ j =>
            obtain ⟨c, c1, c2⟩ := b6 j q' m' fp' (by simpa using hq) (by simpa using hm) (by simpa using hfp) hk
            exact ⟨c, by simpa using c1, fun v hv => c2 v (hv.step a1.step)⟩
      · simp at ht
    · simp at ht
  | [], _ :: _, _, _, _, ht, _ => by simp [finMs] at ht
  | _ :: _, [], _, _, _, ht, _ => by simp [finMs] at ht

omit C O in
theorem argsT_map : ∀ {tm : List (Option AV)} {as : List AV}, argsT tm = some as → tm = as.map some
  | [], as, h => by
    obtain rfl : [] = as := by simpa [argsT] using h
    rfl
  | some a :: r, as, h => by
    simp only [argsT] at h
    split at h
    · rename_i as' h'
      obtain rfl : a :: as' = as := by simpa using h
      simp [argsT_map h']
    · simp at h
  | none :: _, as, h => by simp [argsT] at h

omit O in
theorem args_rep {as : List AV} {vs : List Value} : TRep w ok μ (as.map some) vs.toArray ↔ vs.length = as.length ∧ ∀ (j : Nat) (a : AV) (v : Value), as[j]? = some a → vs[j]? = some v → VRep w ok μ a v := by
  constructor
  · intro ht
    have hl : vs.length = as.length := by have := ht.len; simp at this; omega
    refine ⟨hl, fun j a v ha hv => ?_⟩
    have := ht.rep j a (by unfold get?; rw [nth_eq]; simp [ha])
    rw [Array.getD_eq_getD_getElem?] at this
    simpa [hv] using this
  · rintro ⟨hl, hr⟩
    refine ⟨by simp [hl], fun t av ha => ?_⟩
    unfold get? at ha
    rw [nth_eq] at ha
    split at ha
    · rename_i b hb
      obtain rfl : b = av := by simpa using ha
      simp at hb
      have hlt : t < vs.length := by rw [hl]; exact (List.getElem?_eq_some_iff.1 hb).1
      refine hr t b _ hb ?_
      rw [Array.getD_eq_getD_getElem?]
      simp [hlt]
    · simp at ha

omit O in
theorem start_sim (ms : List MC) (us : List (List Nat)) {w : World} {ok : Nat → Prop} (hokb : ∀ b, ok b → b < w.heap.size) : HSim ⟨w, fun b => b ∈ us.flatten, ok⟩ ok NoPl (fun _ => .dead) w :=
  ⟨Goes.refl _ _, fun _ => .dead _, fun _ _ _ _ hl => by simp [live] at hl, fun _ _ hl => by simp [live] at hl, hokb, fun _ x => x, fun _ x => .inl x⟩

theorem runF_good (L : Lawful P) (LO : LawfulO) {Γ : Nat → Option Ctr} (hΓ : AllGood P Γ) (ann : Nat → Ann) {inl : List Nat} (hE : Enters P inl) {depth g : Nat} (hg : Enters P [g]) {c : Ctr} {rmodes : List Mode}
    (hdraw : ∀ r : List MC × List MC, DrawOK P (callD Γ) r)
    (hf : ∀ ms, c.pre ms = true → ms.length = c.modes.length → runF P Γ ann inl depth g c.modes rmodes ms = some (c.f ms)) : Good P g c := by
  refine ⟨hg g (by simp), fun ms vs us w ok hpre hml hvl hul hnd hno hokb hm => ?_⟩
  have hr := hf ms hpre hml
  unfold runF at hr
  split at hr
  · rename_i fn hfn
    split at hr
    · rename_i b hb
      split at hr
      · rename_i as h0 n0 hgv
        obtain ⟨i1, i2, i3⟩ := giveW_sound (giveM_sound 6) ms _ h0 0 n0 as hgv
        have hst := start_sim ms us hokb
        obtain ⟨μ, g1, g2⟩ := i3 _ All ok w NoPl vs us hst (fun _ _ _ => trivial) ⟨Nat.le_refl _, fun _ _ _ => ⟨rfl, rfl⟩⟩ hvl hul hm hnd fun b hb => ⟨fun l hl => by simp [live] at hl, hno b hb, .inr hb⟩
        have hvl' : vs.length = as.length := by omega
        refine calls_of_wp hfn hb ?_
        refine runSc_sound L (callA_ok L LO hΓ ann hE _ (hdraw _) depth) (hdraw _) _ _ [] b _ _ ok μ _ w _ hr (cfs := [vs.toArray]) ⟨g1.hs, frame_rep hvl' g2, ⟨args_rep.2 ⟨hvl', g2⟩, trivial⟩, g1.fresh ⟨Nat.le_refl _, fun _ _ _ => ⟨rfl, rfl⟩⟩⟩ (fun l st' => by simp) fun e st' ok' μ' t w' hk hs' => ?_
        have key : ∀ tm, st'.fs = [tm] → (match resA P st' fn.results.toList with
            | some rs => match takeMs rmodes rs st'.hp with
              | some (ms, h, _) => match argsT tm with
                | some as => match finMs c.modes as h with
                  | some fs => some (ms, fs)
                  | none => none
                | none => none
              | none => none
            | none => none) = some (c.f ms) → ∃ v, (results fn t).run P w' = .ok v w' ∧ ∃ rs us1 us2 ok', Left P c ms vs us.flatten w ok (.returned v) w' rs us1 us2 ok' := by
          intro tm hfs hk
          split at hk
          · rename_i rs hrs
            split at hk
            · rename_i ms' h2 lg ht
              split at hk
              · rename_i as' hat
                split at hk
                · rename_i fs hfin
                  have hcf : (ms', fs) = c.f ms := by simpa using hk
                  have hc1 : (c.f ms).1 = ms' := by rw [← hcf]
                  have hc2 : (c.f ms).2 = fs := by rw [← hcf]
                  obtain ⟨rvs, r1, r2, r3⟩ := resA_list hs'.heap hs'.tm hrs
                  have hfr := hs'.fs
                  rw [hfs] at hfr
                  have hta := hfr.1
                  rw [argsT_map hat] at hta
                  obtain ⟨a1, a2⟩ := args_rep.1 hta
                  obtain ⟨ok2, us2, t1, t2, t3, t4, t5⟩ := takeMs_take L LO ht hs'.heap
                  obtain ⟨ok3, h3, us1, u1, u2, u3, u4, u5, u6⟩ := finMs_take L LO hfin t1.hs
                  have tt := t1.trans u1
                  refine ⟨valOf rvs, results_list fn r1, rvs, us1, us2, ok3, rfl, ?_, fun b hb => ?_, fun b hb => ?_, tt.hs.okb, ?_, fun b hb => ?_, by omega, by rw [hc1]; omega, by rw [hc1]; exact t2, u5, fun j q x v u hq hx hv hu hkp => ?_, fun j x v u hx hv hu => ?_⟩
                  · have hgo := hs'.heap.goes
                    exact ⟨hgo.os, hgo.tape, hgo.output, hgo.size, hgo.block⟩
                  · exact tt.okm b (hs'.heap.okm b hb)
                  · exact tt.hs.oko b hb
                  · exact (List.perm_append_comm.nodup_iff).1 tt.nd
                  · have hb' : b ∈ us2.flatten ++ us1.flatten := by
                      rcases List.mem_append.1 hb with x | x
                      · exact List.mem_append.2 (.inr x)
                      · exact List.mem_append.2 (.inl x)
                    obtain ⟨l, l1, l2⟩ := tt.src b hb'
                    exact ⟨tt.nok b hb', (hs'.heap.nok l b l1 l2).2.symm⟩
                  · rw [hc2] at hx
                    obtain ⟨a, e1, e2⟩ := u6 j q x u hq hx hu hkp
                    exact e2 v ((a2 j a v e1 hv).step t1.step)
                  · rw [hc1] at hx
                    obtain ⟨a, e1, e2⟩ := t5 j x u hx hu
                    exact (e2 v (r3 j a v e1 hv)).mono (Keeps.refl _ _) u1.okm fun _ _ => rfl
                · simp at hk
              · simp at hk
            · simp at hk
          · simp at hk
        cases e with
        | exit id => simp at hk
        | goto l => simp at hk
        | normal =>
          match hfs : st'.fs, hk with
          | [tm], hk => exact ⟨rfl, key tm hfs hk⟩
          | [], hk => simp at hk
          | _ :: _ :: _, hk => simp at hk
        | ret =>
          match hfs : st'.fs, hk with
          | [tm], hk => exact ⟨rfl, key tm hfs hk⟩
          | [], hk => simp at hk
          | _ :: _ :: _, hk => simp at hk
      · simp at hr
    · simp at hr
  · simp at hr

end
end Go.Abs

/-
  The abstract machine looks at no more than its logs say, and turns no more: what is turned in one heap is turned alike in another.
-/
namespace Go.Abs

section
variable [D : Dom] [C : Coding] [O : Objs] {P : Program}
variable {h h' h1 h2 h2' h3 : Hp} {g g' : Lg}

/-- Alike where the log looks. -/
def Near (g : Lg) (h h2 : Hp) : Prop := ∀ l, (l ∈ g.rd ∨ l ∈ g.wr) → h2 l = h l

/-- Turned alike. -/
structure Over (g : Lg) (h h' h2 h2' : Hp) : Prop where
  out : ∀ l, l ∉ g.wr → l ∉ g.nw → h' l = h l ∧ h2' l = h2 l
  inn : ∀ l, (l ∈ g.wr ∨ l ∈ g.nw) → h2' l = h' l

omit C O in
theorem Over.refl (hw : g.wr = []) (hn : g.nw = []) : Over g h h h2 h2 := ⟨fun _ _ _ => ⟨rfl, rfl⟩, fun l hl => by simp [hw, hn] at hl⟩

omit C O in
theorem Over.trans {h3' : Hp} (a : Over g h h1 h2 h3) (b : Over g' h1 h' h3 h3') : Over (g.join g') h h' h2 h3' := by
  refine ⟨fun l hw hn => ?_, fun l hl => ?_⟩
  · simp only [Lg.join, List.mem_append, not_or] at hw hn
    have x := a.out l hw.1 hn.1
    have y := b.out l hw.2 hn.2
    exact ⟨y.1.trans x.1, y.2.trans x.2⟩
  · by_cases hb : l ∈ g'.wr ∨ l ∈ g'.nw
    · exact b.inn l hb
    · simp only [not_or] at hb
      have y := b.out l hb.1 hb.2
      simp only [Lg.join, List.mem_append] at hl
      rw [y.1, y.2]
      refine a.inn l ?_
      rcases hl with (x | x) | (x | x)
      · exact .inl x
      · exact absurd x hb.1
      · exact .inr x
      · exact absurd x hb.2

omit C O in
theorem Near.left (hn : Near (g.join g') h h2) : Near g h h2 := fun l hl => hn l (by simp only [Lg.join, List.mem_append]; rcases hl with x | x <;> simp [x])

omit C O in
theorem Near.right (hn : Near (g.join g') h h2) (ho : Over g h h1 h2 h3) : Near g' h1 h3 := fun l hl => by
  by_cases hb : l ∈ g.wr ∨ l ∈ g.nw
  · exact ho.inn l hb
  · simp only [not_or] at hb
    have y := ho.out l hb.1 hb.2
    rw [y.1, y.2]
    exact hn l (by simp only [Lg.join, List.mem_append]; rcases hl with x | x <;> simp [x])

omit C O in
theorem Over.upd (l : Nat) (b : Blk) {g : Lg} (hw : g.wr = [l]) (hn : g.nw = []) : Over g h (upd h l b) h2 (upd h2 l b) := by
  refine ⟨fun i hi _ => ?_, fun i hi => ?_⟩
  · have : i ≠ l := fun e => hi (by simp [hw, e])
    exact ⟨upd_ne h b this, upd_ne h2 b this⟩
  · have : i = l := by simpa [hw, hn] using hi
    subst this; rw [upd_same, upd_same]

omit O in
omit C in
theorem coerce1_loc {q : CK} {a b : AV} (hc : coerce1 q a h = some (b, h', g)) (hn : Near g h h2) : ∃ h2', coerce1 q a h2 = some (b, h2', g) ∧ Over g h h' h2 h2' := by
  unfold coerce1 at hc
  simp only [Bool.cond_eq_ite] at hc
  split at hc
  · obtain ⟨rfl, rfl, rfl⟩ : _ = b ∧ h = h' ∧ _ = g := by simpa using hc
    exact ⟨h2, by simp [coerce1], Over.refl rfl rfl⟩
  · rename_i t t' xs
    split at hc
    · rename_i hsm
      obtain ⟨rfl, rfl, rfl⟩ : _ = b ∧ h = h' ∧ _ = g := by simpa using hc
      exact ⟨h2, by simp [coerce1, hsm], Over.refl rfl rfl⟩
    · simp at hc
  · rename_i t l
    split at hc
    · rename_i t' xs hl
      split at hc
      · rename_i hsm
        obtain ⟨rfl, rfl, rfl⟩ : _ = b ∧ upd h l _ = h' ∧ _ = g := by simpa using hc
        have := hn l (by simp)
        exact ⟨upd h2 l (.fz t' xs), by simp [coerce1, this, hl, hsm], Over.upd l _ rfl rfl⟩
      · simp at hc
    · rename_i t' xs hl
      split at hc
      · rename_i hsm
        obtain ⟨rfl, rfl, rfl⟩ : _ = b ∧ h = h' ∧ _ = g := by simpa using hc
        have := hn l (by simp)
        exact ⟨h2, by simp [coerce1, this, hl, hsm], Over.refl rfl rfl⟩
      · simp at hc
    · simp at hc
  · split at hc
    · rename_i hsm
      obtain ⟨rfl, rfl, rfl⟩ : _ = b ∧ h = h' ∧ _ = g := by simpa using hc
      exact ⟨h2, by simp [coerce1, hsm], Over.refl rfl rfl⟩
    · simp at hc
  · obtain ⟨rfl, rfl, rfl⟩ : _ = b ∧ h = h' ∧ _ = g := by simpa using hc
    exact ⟨h2, by simp [coerce1], Over.refl rfl rfl⟩
  · split at hc
    · rename_i hsm
      obtain ⟨rfl, rfl, rfl⟩ : _ = b ∧ h = h' ∧ _ = g := by simpa using hc
      exact ⟨h2, by simp [coerce1, hsm], Over.refl rfl rfl⟩
    · simp at hc
  · simp at hc

omit O in
omit C in
theorem coerce_loc : ∀ {qs : List CK} {as bs : List AV} {h h' h2 : Hp} {g : Lg}, coerce qs as h = some (bs, h', g) → Near g h h2 → ∃ h2', coerce qs as h2 = some (bs, h2', g) ∧ Over g h h' h2 h2'
  | [], [], bs, h, h', h2, g, hc, hn => by
    obtain ⟨rfl, rfl, rfl⟩ : [] = bs ∧ h = h' ∧ _ = g := by simpa [coerce] using hc
    exact ⟨h2, by simp [coerce], Over.refl rfl rfl⟩
  | q :: qs, a :: as, bs, h, h', h2, g, hc, hn => by
    simp only [coerce] at hc
    split at hc
    · rename_i b h1 g1 hc1
      split at hc
      · rename_i bs' h1' g2 hc2
        obtain ⟨rfl, rfl, rfl⟩ : _ = bs ∧ h1' = h' ∧ _ = g := by simpa using hc
        obtain ⟨h3, a1, a2⟩ := coerce1_loc hc1 hn.left
        obtain ⟨h4, b1, b2⟩ := coerce_loc hc2 (hn.right a2)
        exact ⟨h4, by simp [coerce, a1, b1], a2.trans b2⟩
      · simp at hc
    · simp at hc
  | [], _ :: _, _, _, _, _, _, hc, _ => by simp [coerce] at hc
  | _ :: _, [], _, _, _, _, _, hc, _ => by simp [coerce] at hc

omit O in
theorem elOf_loc {t : D.Tag} {a : AV} {x : D.El t} (hc : elOf t a h = some (x, h', g)) (hn : Near g h h2) : ∃ h2', elOf t a h2 = some (x, h2', g) ∧ Over g h h' h2 h2' := by
  unfold elOf at hc
  split at hc
  · rename_i cs h1 g1 hc1
    split at hc
    · rename_i y hy
      obtain ⟨rfl, rfl, rfl⟩ : y = x ∧ h1 = h' ∧ g1 = g := by simpa using hc
      obtain ⟨h3, a1, a2⟩ := coerce_loc hc1 hn
      exact ⟨h3, by simp [elOf, a1, hy], a2⟩
    · simp at hc
  · simp at hc

/-- A log without turns. -/
def Lg.still (g : Lg) : Prop := g.wr = [] ∧ g.nw = []

omit O in
theorem loadA_loc {α : Type} {T : Nat} {a : AV} {K : AV → Lg → Option α} {r : α} (hl : loadA P h T a K = some r) :
    ∃ v g, K v g = some r ∧ g.still ∧ ∀ h2, Near g h h2 → ∀ {β : Type} (K2 : AV → Lg → Option β), loadA P h2 T a K2 = K2 v g := by
  unfold loadA at hl
  have part : ∀ {cs : List AV} {off : Nat} {g : Lg}, (match sz? P T with
      | some n => match piece cs off n with
        | some ds => match valueT P T ds with
          | some v => K v g
          | none => none
        | none => none
      | none => none) = some r → ∃ v, K v g = some r ∧ ∀ {β : Type} (K2 : AV → Lg → Option β), (match sz? P T with
      | some n => match piece cs off n with
        | some ds => match valueT P T ds with
          | some v => K2 v g
          | none => none
        | none => none
      | none => none) = K2 v g := by
    intro cs off g hm
    split at hm
    · rename_i n hn
      split at hm
      · rename_i ds hd
        split at hm
        · rename_i v hv
          exact ⟨v, hm, fun K2 => by simp [hn, hd, hv]⟩
        · simp at hm
      · simp at hm
    · simp at hm
  dsimp only at hl
  split at hl
  · rename_i l off
    split at hl
    · rename_i cs hcs
      obtain ⟨v, k1, k2⟩ := part hl
      refine ⟨v, _, k1, ⟨rfl, rfl⟩, fun h2 hn β K2 => ?_⟩
      have := hn l (by simp)
      simp only [loadA, this, hcs]
      exact k2 K2
    · simp at hl
  · rename_i l i off
    split at hl
    · rename_i t xs hcs
      split at hl
      · rename_i x hx
        obtain ⟨v, k1, k2⟩ := part hl
        refine ⟨v, _, k1, ⟨rfl, rfl⟩, fun h2 hn β K2 => ?_⟩
        have := hn l (by simp)
        simp only [loadA, this, hcs, hx]
        exact k2 K2
      · simp at hl
    · rename_i t xs hcs
      split at hl
      · rename_i x hx
        obtain ⟨v, k1, k2⟩ := part hl
        refine ⟨v, _, k1, ⟨rfl, rfl⟩, fun h2 hn β K2 => ?_⟩
        have := hn l (by simp)
        simp only [loadA, this, hcs, hx]
        exact k2 K2
      · simp at hl
    · simp at hl
  · obtain ⟨v, k1, k2⟩ := part hl
    refine ⟨v, _, k1, ⟨rfl, rfl⟩, fun h2 hn β K2 => ?_⟩
    simp only [loadA]
    exact k2 K2
  · simp at hl

end
end Go.Abs

/-
  The abstract machine looks at no more than its logs say: stores, lengths, appends, elements.
-/
namespace Go.Abs

section
variable [D : Dom] [C : Coding] [O : Objs] {P : Program}
variable {h h' h1 h2 h2' h3 : Hp} {g g' : Lg} {st st2 : St}

omit C O in
theorem unnil_skip {q : Option D.Tag} {c : AV} {qs : List (Option D.Tag)} {cs : List AV} {n : Nat} (hno : ∀ t, q = some t → c = .v (.slice none 0 0) → False) :
    unnil (q :: qs) (c :: cs) h n = match unnil qs cs h n with | (ds, h', ns) => (c :: ds, h', ns) := by
  rw [unnil]
  exact hno

omit C O in
theorem unnil_loc : ∀ (qs : List (Option D.Tag)) (cs ds : List AV) (h h' : Hp) (n : Nat) (ns : List Nat), unnil qs cs h n = (ds, h', ns) → ∀ h2, ∃ h2', unnil qs cs h2 n = (ds, h2', ns) ∧
    (∀ l, l ∉ ns → h' l = h l ∧ h2' l = h2 l) ∧ (∀ l, l ∈ ns → h2' l = h' l)
  | qs, [], ds, h, h', n, ns, hu, h2 => by
    have : (ds, h', ns) = ([], h, []) := by rw [← hu]; cases qs with
      | nil => rfl
      | cons q qs => cases q <;> rfl
    simp only [Prod.mk.injEq] at this
    obtain ⟨rfl, rfl, rfl⟩ := this
    refine ⟨h2, ?_, fun _ _ => ⟨rfl, rfl⟩, fun l hl => by simp at hl⟩
    cases qs with
    | nil => rfl
    | cons q qs => cases q <;> rfl
  | [], c :: cs, ds, h, h', n, ns, hu, h2 => by
    obtain ⟨rfl, rfl, rfl⟩ : c :: cs = ds ∧ h = h' ∧ [] = ns := by simpa [unnil] using hu
    exact ⟨h2, by simp [unnil], fun _ _ => ⟨rfl, rfl⟩, fun l hl => by simp at hl⟩
  | q :: qs, c :: cs, ds, h, h', n, ns, hu, h2 => by
    by_cases hq : ∃ t, q = some t ∧ c = .v (.slice none 0 0)
    · obtain ⟨t, rfl, rfl⟩ := hq
      generalize hr : unnil qs cs (upd h n (.arr t [])) (n + 1) = res
      obtain ⟨ds', h1, ns'⟩ := res
      obtain ⟨rfl, rfl, rfl⟩ : AV.sl n :: ds' = ds ∧ h1 = h' ∧ n :: ns' = ns := by simpa [unnil, hr] using hu
      obtain ⟨h3, k1, k2, k3⟩ := unnil_loc qs cs ds' _ h1 (n + 1) ns' hr (upd h2 n (.arr t []))
      refine ⟨h3, by simp [unnil, k1], fun l hl => ?_, fun l hl => ?_⟩
      · simp only [List.mem_cons, not_or] at hl
        have := k2 l hl.2
        rw [upd_ne h _ hl.1, upd_ne h2 _ hl.1] at this
        exact this
      · by_cases hm : l ∈ ns'
        · exact k3 l hm
        · have := k2 l hm
          simp only [List.mem_cons] at hl
          rcases hl with rfl | hl
          · rw [this.1, this.2, upd_same, upd_same]
          · exact absurd hl hm
    · have hno : ∀ t, q = some t → c = .v (.slice none 0 0) → False := fun t e1 e2 => hq ⟨t, e1, e2⟩
      rw [unnil_skip hno] at hu
      generalize hr : unnil qs cs h n = res at hu
      obtain ⟨ds', h1, ns'⟩ := res
      obtain ⟨rfl, rfl, rfl⟩ : _ = ds ∧ h1 = h' ∧ _ = ns := by simpa using hu
      obtain ⟨h3, k1, k2, k3⟩ := unnil_loc qs cs ds' _ h1 n ns' hr h2
      exact ⟨h3, by rw [unnil_skip hno, k1], k2, k3⟩

omit O in
omit C in
theorem lenA_loc {T : Nat} {a : AV} {n : Nat} (hl : lenA P T h a = some (n, g)) : g.still ∧ ∀ h2, Near g h h2 → lenA P T h2 a = some (n, g) := by
  unfold lenA at hl
  simp only [Bool.cond_eq_ite] at hl
  split at hl
  · split at hl
    · rename_i hs
      obtain ⟨rfl, rfl⟩ : _ = n ∧ _ = g := by simpa using hl
      exact ⟨⟨rfl, rfl⟩, fun h2 _ => by simp [lenA, hs]⟩
    · simp at hl
  · rename_i hno
    split at hl
    · rename_i hs
      split at hl
      · obtain ⟨rfl, rfl⟩ : _ = n ∧ _ = g := by simpa using hl
        exact ⟨⟨rfl, rfl⟩, fun h2 _ => by simp [lenA, hs]⟩
      · obtain ⟨rfl, rfl⟩ : _ = n ∧ _ = g := by simpa using hl
        exact ⟨⟨rfl, rfl⟩, fun h2 _ => by simp [lenA, hs]⟩
      · obtain ⟨rfl, rfl⟩ : _ = n ∧ _ = g := by simpa using hl
        exact ⟨⟨rfl, rfl⟩, fun h2 _ => by simp [lenA, hs]⟩
      · rename_i l
        split at hl
        · rename_i t xs hx
          obtain ⟨rfl, rfl⟩ : _ = n ∧ _ = g := by simpa using hl
          exact ⟨⟨rfl, rfl⟩, fun h2 hn => by have := hn l (by simp); simp [lenA, hs, this, hx]⟩
        · rename_i t xs hx
          obtain ⟨rfl, rfl⟩ : _ = n ∧ _ = g := by simpa using hl
          exact ⟨⟨rfl, rfl⟩, fun h2 hn => by have := hn l (by simp); simp [lenA, hs, this, hx]⟩
        · simp at hl
      · simp at hl
    · simp at hl

omit O in
omit C in
theorem newsA_loc {t : D.Tag} {a : AV} {ys : List (D.El t)} (hl : newsA t h a = some (ys, g)) : g.still ∧ ∀ h2, Near g h h2 → newsA t h2 a = some (ys, g) := by
  unfold newsA at hl
  split at hl
  · obtain ⟨rfl, rfl⟩ : ys = [] ∧ _ = g := by simpa using hl
    exact ⟨⟨rfl, rfl⟩, fun h2 _ => by simp [newsA]⟩
  · rename_i t' xs
    split at hl
    · rename_i zs hz
      obtain ⟨rfl, rfl⟩ : _ = ys ∧ _ = g := by simpa using hl
      exact ⟨⟨rfl, rfl⟩, fun h2 _ => by simp [newsA, hz]⟩
    · simp at hl
  · rename_i l
    split at hl
    · rename_i t' xs hx
      split at hl
      · rename_i zs hz
        obtain ⟨rfl, rfl⟩ : _ = ys ∧ _ = g := by simpa using hl
        exact ⟨⟨rfl, rfl⟩, fun h2 hn => by have := hn l (by simp); simp [newsA, this, hx, hz]⟩
      · simp at hl
    · rename_i t' xs hx
      split at hl
      · rename_i zs hz
        obtain ⟨rfl, rfl⟩ : _ = ys ∧ _ = g := by simpa using hl
        exact ⟨⟨rfl, rfl⟩, fun h2 hn => by have := hn l (by simp); simp [newsA, this, hx, hz]⟩
      · simp at hl
    · simp at hl
  · simp at hl

omit O in
theorem indexA_loc {α : Type} {T : Nat} {x : AV} {i : Int} {K : AV → Lg → Option α} {r : α} (hl : indexA P T x i h K = some r) :
    ∃ v g, K v g = some r ∧ g.still ∧ ∀ h2, Near g h h2 → ∀ {β : Type} (K2 : AV → Lg → Option β), indexA P T x i h2 K2 = K2 v g := by
  unfold indexA at hl
  simp only [Bool.cond_eq_ite] at hl
  repeat' split at hl
  all_goals first
    | (simp at hl; done)
    | (refine ⟨_, _, hl, ⟨rfl, rfl⟩, fun h2 hn β K2 => ?_⟩; simp_all [indexA, Near]; done)
    | skip

omit O in
theorem appendA_loc {α : Type} {T n : Nat} {s x : AV} {K : AV → Hp → Lg → Option α} {r : α} (hl : appendA P T s x h n K = some r) :
    ∃ a h' g, K a h' g = some r ∧ (∀ l ∈ g.nw, l = n) ∧ ∀ h2, Near g h h2 → ∃ h2', Over g h h' h2 h2' ∧ ∀ {β : Type} (K2 : AV → Hp → Lg → Option β), appendA P T s x h2 n K2 = K2 a h2' g := by
  unfold appendA at hl
  simp only [Bool.cond_eq_ite] at hl
  split at hl
  · simp at hl
  · rename_i t ht
    split at hl
    · simp at hl
    · rename_i ys g hy
      obtain ⟨⟨g1, g2⟩, hloc⟩ := newsA_loc hy
      split at hl
      · split at hl
        · rename_i hf
          refine ⟨_, _, _, hl, fun l hl => by simpa [Lg.join, g2] using hl, fun h2 hn => ⟨upd h2 n (.arr t ys), ⟨fun l hw hn' => ?_, fun l hl => ?_⟩, fun K2 => ?_⟩⟩
          · have : l ≠ n := fun e => hn' (by simp [Lg.join, e])
            exact ⟨upd_ne h _ this, upd_ne h2 _ this⟩
          · have : l = n := by simpa [Lg.join, g1, g2] using hl
            subst this; rw [upd_same, upd_same]
          · simp only [appendA, ht, hloc h2 hn.left, hf, cond_true]
        · simp at hl
      · rename_i l
        split at hl
        · rename_i t' xs hx
          split at hl
          · rename_i zs hz
            split at hl
            · rename_i hf
              refine ⟨_, _, _, hl, fun l hl => by simpa [Lg.join, g2] using hl, fun h2 hn => ⟨upd (upd h2 l .dead) n (.arr t (zs ++ ys)), ⟨fun i hw hn' => ?_, fun i hi => ?_⟩, fun K2 => ?_⟩⟩
              · have e1 : i ≠ n := fun e => hn' (by simp [Lg.join, e])
                have e2 : i ≠ l := fun e => hw (by simp [Lg.join, e])
                rw [upd_ne _ _ e1, upd_ne _ _ e1, upd_ne _ _ e2, upd_ne _ _ e2]
                exact ⟨rfl, rfl⟩
              · by_cases e1 : i = n
                · subst e1; rw [upd_same, upd_same]
                · have e2 : i = l := by simpa [Lg.join, g1, g2, e1] using hi
                  subst e2
                  rw [upd_ne _ _ e1, upd_ne _ _ e1, upd_same, upd_same]
              · have := hn l (by simp [Lg.join])
                simp only [appendA, ht, hloc h2 hn.left, this, hx, hz, hf, cond_true]
            · simp at hl
          · simp at hl
        · simp at hl
      · simp at hl

omit O in
theorem sliceA_loc {α : Type} {T n : Nat} {x : AV} {lo hi : Option AV} {K : AV → Hp → Lg → Option α} {r : α} (hl : sliceA P T x lo hi h n K = some r) :
    ∃ a h' g, K a h' g = some r ∧ (∀ l ∈ g.nw, l = n) ∧ ∀ h2, Near g h h2 → ∃ h2', Over g h h' h2 h2' ∧ ∀ {β : Type} (K2 : AV → Hp → Lg → Option β), sliceA P T x lo hi h2 n K2 = K2 a h2' g := by
  unfold sliceA at hl
  simp only [Bool.cond_eq_ite] at hl
  split at hl
  · rename_i l
    split at hl
    · rename_i t xs hx
      split at hl
      · rename_i a b m hba hbb hm
        split at hl
        · rename_i hc
          refine ⟨_, _, _, hl, fun l hl => by simpa using hl, fun h2 hn => ⟨upd (upd h2 l .dead) n (.arr t ((xs.take b.toNat).drop a.toNat)), ⟨fun i hw hn' => ?_, fun i hi => ?_⟩, fun K2 => ?_⟩⟩
          · have e1 : i ≠ n := fun e => hn' (by simp [e])
            have e2 : i ≠ l := fun e => hw (by simp [e])
            rw [upd_ne _ _ e1, upd_ne _ _ e1, upd_ne _ _ e2, upd_ne _ _ e2]
            exact ⟨rfl, rfl⟩
          · by_cases e1 : i = n
            · subst e1; rw [upd_same, upd_same]
            · have e2 : i = l := by simpa [e1] using hi
              subst e2
              rw [upd_ne _ _ e1, upd_ne _ _ e1, upd_same, upd_same]
          · have := hn l (by simp)
            simp only [sliceA, this, hx, hba, hbb, hm, hc, cond_true]
        · simp at hl
      · simp at hl
    · simp at hl
  · simp at hl

omit O in
theorem partsA_loc {t : D.Tag} : ∀ {ps : List (Nat × Operand)} {i : Nat} {h h' h2 : Hp} {xs : List (D.El t)} {g : Lg}, partsA t st i ps h = some (xs, h', g) → (∀ p ∈ ps, evalA st2 p.2 = evalA st p.2) → Near g h h2 → ∃ h2', partsA t st2 i ps h2 = some (xs, h2', g) ∧ Over g h h' h2 h2'
  | [], i, h, h', h2, xs, g, hp, he, hn => by
    obtain ⟨rfl, rfl, rfl⟩ : [] = xs ∧ h = h' ∧ _ = g := by simpa [partsA] using hp
    exact ⟨h2, by simp [partsA], Over.refl rfl rfl⟩
  | (j, x) :: ps, i, h, h', h2, xs, g, hp, he, hn => by
    simp only [partsA, Bool.cond_eq_ite] at hp
    split at hp
    · rename_i hij
      split at hp
      · rename_i a ha
        split at hp
        · rename_i y h1 g1 h1t
          split at hp
          · rename_i ys h1' g2 h2t
            obtain ⟨rfl, rfl, rfl⟩ : _ = xs ∧ h1' = h' ∧ _ = g := by simpa using hp
            obtain ⟨h3, a1, a2⟩ := elOf_loc h1t hn.left
            obtain ⟨h4, b1, b2⟩ := partsA_loc h2t (fun p hp => he p (List.mem_cons_of_mem _ hp)) (hn.right a2)
            have hx : evalA st2 x = some a := (he (j, x) (by simp)).trans ha
            exact ⟨h4, by simp [partsA, hij, hx, a1, b1], a2.trans b2⟩
          · simp at hp
        · simp at hp
      · simp at hp
    · simp at hp

omit O in
omit C in
theorem fpartsA_loc {k : Nat} : ∀ {ps : List (Nat × Operand)} {cs : List AV}, (∀ p ∈ ps, evalA st2 p.2 = evalA st p.2) → fpartsA k st2 ps cs = fpartsA k st ps cs
  | [], cs, _ => by simp [fpartsA]
  | (i, x) :: ps, cs, he => by
    simp only [fpartsA, he (i, x) (by simp)]
    simp only [fun cs => fpartsA_loc (k := k) (cs := cs) (fun p hp => he p (List.mem_cons_of_mem (i, x) hp))]

omit O in
omit C in
theorem fillA_loc {T : Nat} : ∀ {ps : List (Nat × Operand)} {cs : List AV}, (∀ p ∈ ps, evalA st2 p.2 = evalA st p.2) → fillA P T st2 ps cs = fillA P T st ps cs
  | [], cs, _ => by simp [fillA]
  | (i, x) :: ps, cs, he => by
    simp only [fillA, he (i, x) (by simp)]
    simp only [fun cs => fillA_loc (T := T) (cs := cs) (fun p hp => he p (List.mem_cons_of_mem (i, x) hp))]

end
end Go.Abs

/-
  The abstract machine looks at no more than its logs say: stores, and one operation.
-/
namespace Go.Abs

section
variable [D : Dom] [C : Coding] [O : Objs] {P : Program}
variable {h h' h1 h2 h2' h3 : Hp} {g g' : Lg} {st st2 : St}

omit O in
theorem storeA_loc {α : Type} {T n : Nat} {a v : AV} {K : Hp → Lg → Option α} {r : α} (hl : storeA P h n T a v K = some r) :
    ∃ h' g, K h' g = some r ∧ ∀ h2, Near g h h2 → ∃ h2', Over g h h' h2 h2' ∧ ∀ {β : Type} (K2 : Hp → Lg → Option β), storeA P h2 n T a v K2 = K2 h2' g := by
  unfold storeA at hl
  simp only [Bool.cond_eq_ite] at hl
  split at hl
  · simp at hl
  · rename_i sz hsz
    split at hl
    · rename_i hok
      split at hl
      · rename_i l off
        generalize hu : unnil (slots P 8 T) (cellsOf v) h n = res at hl
        obtain ⟨ds, h1, ns⟩ := res
        dsimp only at hl
        split at hl
        · rename_i cs hcs
          split at hl
          · rename_i p hp
            refine ⟨_, _, hl, fun h2 hn => ?_⟩
            obtain ⟨h3, k1, k2, k3⟩ := unnil_loc _ _ _ _ _ _ _ hu h2
            refine ⟨upd h3 l (.cells (overlay cs off ds)), ⟨fun i hw hnw => ?_, fun i hi => ?_⟩, fun K2 => ?_⟩
            · have e : i ≠ l := fun e => hw (by simp [e])
              rw [upd_ne _ _ e, upd_ne _ _ e]
              exact k2 i hnw
            · by_cases e : i = l
              · subst e; rw [upd_same, upd_same]
              · rw [upd_ne _ _ e, upd_ne _ _ e]
                exact k3 i (by simpa [e] using hi)
            · have := hn l (by simp)
              simp only [storeA, hsz, hok, cond_true, k1, this, hcs, hp]
          · simp at hl
        · simp at hl
      · rename_i l i off
        split at hl
        · rename_i t xs hx
          split at hl
          · rename_i x hxe
            split at hl
            · rename_i p hp
              split at hl
              · rename_i cs h1 g1 hc
                split at hl
                · rename_i y hy
                  split at hl
                  · rename_i t2 xs2 hx2
                    refine ⟨_, _, hl, fun h2 hn => ?_⟩
                    obtain ⟨h3, k1, k2⟩ := coerce_loc hc hn.left
                    have e1 := hn l (by simp [Lg.join])
                    have e2 := (hn.right k2) l (by simp)
                    refine ⟨_, k2.trans (Over.upd l (.arr t (setE xs i y)) rfl rfl), fun K2 => ?_⟩
                    simp only [storeA, hsz, hok, cond_true, e1, hx, hxe, hp, k1, hy, e2, hx2]
                  · simp at hl
                · simp at hl
              · simp at hl
            · simp at hl
          · simp at hl
        · simp at hl
      · simp at hl
    · simp at hl

end
end Go.Abs

/-
  The abstract machine looks at no more than its logs say: one operation.
-/
namespace Go.Abs

section
variable [D : Dom] [C : Coding] [O : Objs] {P : Program}
variable {h h' h1 h2 h2' h3 : Hp} {g g' : Lg} {st st2 : St}

omit C O in
theorem unnil_range : ∀ (qs : List (Option D.Tag)) (cs ds : List AV) (h h' : Hp) (n : Nat) (ns : List Nat), unnil qs cs h n = (ds, h', ns) → ∀ l ∈ ns, n ≤ l ∧ l < n + ns.length
  | qs, [], ds, h, h', n, ns, hu => by
    have : (ds, h', ns) = ([], h, []) := by rw [← hu]; cases qs with
      | nil => rfl
      | cons q qs => cases q <;> rfl
    simp only [Prod.mk.injEq] at this
    obtain ⟨rfl, rfl, rfl⟩ := this
    simp
  | [], c :: cs, ds, h, h', n, ns, hu => by
    obtain ⟨rfl, rfl, rfl⟩ : c :: cs = ds ∧ h = h' ∧ [] = ns := by simpa [unnil] using hu
    simp
  | q :: qs, c :: cs, ds, h, h', n, ns, hu => by
    by_cases hq : ∃ t, q = some t ∧ c = .v (.slice none 0 0)
    · obtain ⟨t, rfl, rfl⟩ := hq
      generalize hr : unnil qs cs (upd h n (.arr t [])) (n + 1) = res
      obtain ⟨ds', h1, ns'⟩ := res
      obtain ⟨rfl, rfl, rfl⟩ : AV.sl n :: ds' = ds ∧ h1 = h' ∧ n :: ns' = ns := by simpa [unnil, hr] using hu
      have := unnil_range qs cs ds' _ h1 (n + 1) ns' hr
      intro l hl
      simp only [List.mem_cons] at hl
      rcases hl with rfl | hl
      · simp
      · have := this l hl
        simp only [List.length_cons]; omega
    · have hno : ∀ t, q = some t → c = .v (.slice none 0 0) → False := fun t e1 e2 => hq ⟨t, e1, e2⟩
      rw [unnil_skip hno] at hu
      generalize hr : unnil qs cs h n = res at hu
      obtain ⟨ds', h1, ns'⟩ := res
      obtain ⟨rfl, rfl, rfl⟩ : _ = ds ∧ h1 = h' ∧ _ = ns := by simpa using hu
      exact unnil_range qs cs ds' _ h1 n ns' hr

omit O in
omit C in
theorem coerce1_nw {q : CK} {a b : AV} (hc : coerce1 q a h = some (b, h', g)) : g.nw = [] := by
  unfold coerce1 at hc
  simp only [Bool.cond_eq_ite] at hc
  repeat' split at hc
  all_goals first
    | (simp at hc; done)
    | (simp only [Option.some.injEq, Prod.mk.injEq] at hc; obtain ⟨_, _, rfl⟩ := hc; rfl)

omit O in
omit C in
theorem coerce_nw : ∀ {qs : List CK} {as bs : List AV} {h h' : Hp} {g : Lg}, coerce qs as h = some (bs, h', g) → g.nw = []
  | [], [], bs, h, h', g, hc => by
    obtain ⟨rfl, rfl, rfl⟩ : [] = bs ∧ h = h' ∧ _ = g := by simpa [coerce] using hc
    rfl
  | q :: qs, a :: as, bs, h, h', g, hc => by
    simp only [coerce] at hc
    split at hc
    · rename_i b h1 g1 hc1
      split at hc
      · rename_i bs' h1' g2 hc2
        obtain ⟨rfl, rfl, rfl⟩ : _ = bs ∧ h1' = h' ∧ _ = g := by simpa using hc
        simp [Lg.join, coerce1_nw hc1, coerce_nw hc2]
      · simp at hc
    · simp at hc
  | [], _ :: _, _, _, _, _, hc => by simp [coerce] at hc
  | _ :: _, [], _, _, _, _, hc => by simp [coerce] at hc

omit O in
theorem partsA_nw {t : D.Tag} : ∀ {ps : List (Nat × Operand)} {i : Nat} {h h' : Hp} {xs : List (D.El t)} {g : Lg}, partsA t st i ps h = some (xs, h', g) → g.nw = []
  | [], i, h, h', xs, g, hp => by
    obtain ⟨rfl, rfl, rfl⟩ : [] = xs ∧ h = h' ∧ _ = g := by simpa [partsA] using hp
    rfl
  | (j, x) :: ps, i, h, h', xs, g, hp => by
    simp only [partsA, Bool.cond_eq_ite] at hp
    split at hp
    · split at hp
      · split at hp
        · rename_i y h1 g1 h1t
          split at hp
          · rename_i ys h1' g2 h2t
            obtain ⟨rfl, rfl, rfl⟩ : _ = xs ∧ h1' = h' ∧ _ = g := by simpa using hp
            have e1 : g1.nw = [] := by
              unfold elOf at h1t
              split at h1t
              · rename_i hc
                split at h1t
                · obtain ⟨_, _, rfl⟩ : _ ∧ _ ∧ _ = g1 := by simpa using h1t
                  exact coerce_nw hc
                · simp at h1t
              · simp at h1t
            simp [Lg.join, e1, partsA_nw h2t]
          · simp at hp
        · simp at hp
      · simp at hp
    · simp at hp

omit O in
theorem storeA_nw {α : Type} {T n : Nat} {a v : AV} {K : Hp → Lg → Option α} {r : α} (hl : storeA P h n T a v K = some r) : ∃ h' g, storeA P h n T a v (fun h' g => some (h', g)) = some (h', g) ∧ ∀ l ∈ g.nw, n ≤ l ∧ l < n + g.nw.length := by
  obtain ⟨h', g, k1, k2⟩ := storeA_loc hl
  obtain ⟨h2', k3, k4⟩ := k2 h fun _ _ => rfl
  refine ⟨h2', g, k4 _, ?_⟩
  have hs := k4 (fun h' g => some (h', g))
  unfold storeA at hs
  simp only [Bool.cond_eq_ite] at hs
  split at hs
  · simp at hs
  · split at hs
    · split at hs
      · generalize hu : unnil (slots P 8 T) (cellsOf v) h n = res at hs
        obtain ⟨ds, h1, ns⟩ := res
        dsimp only at hs
        split at hs
        · split at hs
          · simp only [Option.some.injEq, Prod.mk.injEq] at hs
            obtain ⟨_, rfl⟩ := hs
            exact unnil_range _ _ _ _ _ _ _ hu
          · simp at hs
        · simp at hs
      · split at hs
        · split at hs
          · split at hs
            · split at hs
              · rename_i hc
                split at hs
                · split at hs
                  · simp only [Option.some.injEq, Prod.mk.injEq] at hs
                    obtain ⟨_, rfl⟩ := hs
                    simp [Lg.join, coerce_nw hc]
                  · simp at hs
                · simp at hs
              · simp at hs
            · simp at hs
          · simp at hs
        · simp at hs
      · simp at hs
    · simp at hs

end
end Go.Abs

/-
  The abstract machine looks at no more than its logs say: one operation, all kinds.
-/
namespace Go.Abs

section
variable [D : Dom] [C : Coding] [O : Objs] {P : Program}
variable {h h' h1 h2 h2' h3 : Hp} {g g' : Lg} {st st2 : St}

/-- What is done is done alike at another state that is near. -/
structure Alike (st st' : St) (lg : Lg) : Prop where
  tm : st'.tm = st.tm
  fs : st'.fs = st.fs
  nx : st.nx ≤ st'.nx
  rng : ∀ l ∈ lg.nw, st.nx ≤ l ∧ l < st'.nx

def CallLoc {α : Type} (call : Nat → List AV → St → (AV → St → Lg → Option α) → Option α) (r : α) : Prop :=
  ∀ (g : Nat) (as : List AV) (st : St) (K : AV → St → Lg → Option α), call g as st K = some r → ∃ a st' lg, K a st' lg = some r ∧ Alike st st' lg ∧
    ∀ st2, st2.nx = st.nx → Near lg st.hp st2.hp → ∃ h2', Over lg st.hp st'.hp st2.hp h2' ∧ ∀ K2 : AV → St → Lg → Option α, call g as st2 K2 = K2 a { st2 with hp := h2', nx := st'.nx } lg

omit O in
omit C in
theorem evalsA_loc : ∀ {xs : List Operand}, (∀ x ∈ xs, evalA st2 x = evalA st x) → evalsA st2 xs = evalsA st xs
  | [], _ => by simp [evalsA]
  | x :: xs, he => by simp only [evalsA, he x (by simp), evalsA_loc fun y hy => he y (List.mem_cons_of_mem _ hy)]

omit C O in
theorem newblk {h h1 h2 h3 : Hp} {n : Nat} {ns : List Nat} {b : Blk} (k2 : ∀ l, l ∉ ns → h1 l = h l ∧ h3 l = h2 l) (k3 : ∀ l, l ∈ ns → h3 l = h1 l) : Over { nw := n :: ns } h (upd h1 n b) h2 (upd h3 n b) := by
  refine ⟨fun i hw hnw => ?_, fun i hi => ?_⟩
  · simp only [List.mem_cons, not_or] at hnw
    rw [upd_ne _ _ hnw.1, upd_ne _ _ hnw.1]
    exact k2 i hnw.2
  · by_cases e : i = n
    · subst e; rw [upd_same, upd_same]
    · rw [upd_ne _ _ e, upd_ne _ _ e]
      exact k3 i (by simpa [e] using hi)

omit O in
theorem valA_loc {α : Type} {call : Nat → List AV → St → (AV → St → Lg → Option α) → Option α} {r : α} (hcall : CallLoc call r) {o : Oper} {K : AV → St → Lg → Option α} (hl : valA P call o st K = some r) :
    ∃ a st' lg, K a st' lg = some r ∧ Alike st st' lg ∧
      ∀ st2, st2.nx = st.nx → (∀ x ∈ o.op.operands.toList, evalA st2 x = evalA st x) → Near lg st.hp st2.hp → ∃ h2', Over lg st.hp st'.hp st2.hp h2' ∧ ∀ K2 : AV → St → Lg → Option α, valA P call o st2 K2 = K2 a { st2 with hp := h2', nx := st'.nx } lg := by
  have still : ∀ {a : AV} {lg : Lg}, K a st lg = some r → lg.still → (∀ st2, st2.nx = st.nx → (∀ x ∈ o.op.operands.toList, evalA st2 x = evalA st x) → Near lg st.hp st2.hp → ∀ K2 : AV → St → Lg → Option α, valA P call o st2 K2 = K2 a st2 lg) →
      ∃ a st' lg, K a st' lg = some r ∧ Alike st st' lg ∧
      ∀ st2, st2.nx = st.nx → (∀ x ∈ o.op.operands.toList, evalA st2 x = evalA st x) → Near lg st.hp st2.hp → ∃ h2', Over lg st.hp st'.hp st2.hp h2' ∧ ∀ K2 : AV → St → Lg → Option α, valA P call o st2 K2 = K2 a { st2 with hp := h2', nx := st'.nx } lg :=
    fun hk hs hv => ⟨_, st, _, hk, ⟨rfl, rfl, Nat.le_refl _, fun l hl => by rw [hs.2] at hl; simp at hl⟩, fun st2 hnx he hn => ⟨st2.hp, Over.refl hs.1 hs.2, fun K2 => by
      rw [hv st2 hnx he hn K2, ← hnx]⟩⟩
  unfold valA at hl
  simp only [Bool.cond_eq_ite] at hl
  obtain ⟨op, ho⟩ : ∃ op, o.op = op := ⟨_, rfl⟩
  rw [ho] at hl
  cases op with
  | move x =>
    dsimp only at hl
    split at hl
    · split at hl
      · rename_i t ht
        refine ⟨_, _, _, hl, ⟨rfl, rfl, by simp, fun l hl => by simp at hl; subst hl; simp⟩, fun st2 hnx he hn => ⟨upd st2.hp st.nx (.arr t []), ⟨fun l hw hnw => ?_, fun l hl => ?_⟩, fun K2 => ?_⟩⟩
        · have : l ≠ st.nx := by simpa using hnw
          exact ⟨upd_ne _ _ this, upd_ne _ _ this⟩
        · have : l = st.nx := by simpa using hl
          subst this; simp only [upd_same]
        · simp only [valA, ho, ht, hnx]
      · rename_i ht
        exact still hl ⟨rfl, rfl⟩ fun st2 hnx he hn K2 => by simp only [valA, ho, ht]
    · rename_i hno
      split at hl
      · rename_i a ha
        refine still hl ⟨rfl, rfl⟩ fun st2 hnx he hn K2 => ?_
        have := (he x (by simp [ho, Op.operands])).trans ha
        simp only [valA, ho, this]
      · simp at hl
  | assign x =>
    dsimp only at hl
    split at hl
    · split at hl
      · rename_i t ht
        refine ⟨_, _, _, hl, ⟨rfl, rfl, by simp, fun l hl => by simp at hl; subst hl; simp⟩, fun st2 hnx he hn => ⟨upd st2.hp st.nx (.arr t []), ⟨fun l hw hnw => ?_, fun l hl => ?_⟩, fun K2 => ?_⟩⟩
        · have : l ≠ st.nx := by simpa using hnw
          exact ⟨upd_ne _ _ this, upd_ne _ _ this⟩
        · have : l = st.nx := by simpa using hl
          subst this; simp only [upd_same]
        · simp only [valA, ho, ht, hnx]
      · rename_i ht
        exact still hl ⟨rfl, rfl⟩ fun st2 hnx he hn K2 => by simp only [valA, ho, ht]
    · rename_i hno
      split at hl
      · rename_i a ha
        refine still hl ⟨rfl, rfl⟩ fun st2 hnx he hn K2 => ?_
        have := (he x (by simp [ho, Op.operands])).trans ha
        simp only [valA, ho, this]
      · simp at hl
  | pick c a b =>
    dsimp only at hl
    split at hl
    · rename_i hc ha hb
      refine still hl ⟨rfl, rfl⟩ fun st2 hnx he hn K2 => ?_
      have e1 := (he c (by simp [ho, Op.operands])).trans hc
      have e2 := (he a (by simp [ho, Op.operands])).trans ha
      have e3 := (he b (by simp [ho, Op.operands])).trans hb
      simp only [valA, ho, e1, e2, e3, Bool.cond_eq_ite]
    · rename_i c' a' b' hno hc ha hb
      split at hl
      all_goals
        rename_i hcc
        refine still hl ⟨rfl, rfl⟩ fun st2 hnx he hn K2 => ?_
        have e1 := (he c (by simp [ho, Op.operands])).trans hc
        have e2 := (he a (by simp [ho, Op.operands])).trans ha
        have e3 := (he b (by simp [ho, Op.operands])).trans hb
        simp only [valA, ho, e1, e2, e3, hcc, cond_true, cond_false]
    · simp at hl
  | alloc T =>
    dsimp only at hl
    split at hl
    · rename_i cs hz
      split at hl
      · rename_i hone
        generalize hu : unnil (slots P 8 T) cs st.hp (st.nx + 1) = res at hl
        obtain ⟨ds, h1, ns⟩ := res
        dsimp only at hl
        have hrg := unnil_range _ _ _ _ _ _ _ hu
        refine ⟨_, _, _, hl, ⟨rfl, rfl, by simp; omega, fun l hl => ?_⟩, fun st2 hnx he hn => ?_⟩
        · simp only [List.mem_cons] at hl
          dsimp only
          rcases hl with rfl | hl
          · omega
          · have := hrg l hl; omega
        · obtain ⟨h3, k1, k2, k3⟩ := unnil_loc _ _ _ _ _ _ _ hu st2.hp
          refine ⟨upd h3 st.nx (.cells ds), newblk k2 k3, fun K2 => ?_⟩
          simp only [valA, ho, hz, hone, hnx, k1, cond_true]
      · simp at hl
    · simp at hl
  | box T x =>
    dsimp only at hl
    split at hl
    · rename_i a ha
      split at hl
      · rename_i hone
        generalize hu : unnil (slots P 8 T) (cellsOf a) st.hp (st.nx + 1) = res at hl
        obtain ⟨ds, h1, ns⟩ := res
        dsimp only at hl
        have hrg := unnil_range _ _ _ _ _ _ _ hu
        refine ⟨_, _, _, hl, ⟨rfl, rfl, by simp; omega, fun l hl => ?_⟩, fun st2 hnx he hn => ?_⟩
        · simp only [List.mem_cons] at hl
          dsimp only
          rcases hl with rfl | hl
          · omega
          · have := hrg l hl; omega
        · obtain ⟨h3, k1, k2, k3⟩ := unnil_loc _ _ _ _ _ _ _ hu st2.hp
          refine ⟨upd h3 st.nx (.cells ds), newblk k2 k3, fun K2 => ?_⟩
          have e1 := (he x (by simp [ho, Op.operands])).trans ha
          simp only [valA, ho, e1, hone, hnx, k1, cond_true]
      · simp at hl
    · simp at hl
  | build T ps =>
    dsimp only at hl
    split at hl
    · rename_i cs hz
      split at hl
      · rename_i hone
        split at hl
        · rename_i ds hf
          refine still hl ⟨rfl, rfl⟩ fun st2 hnx he hn K2 => ?_
          have e1 : fillA P T st2 ps.toList cs = some ds := (fillA_loc fun p hp => he p.2 (by simp only [ho, Op.operands, List.mem_map]; exact ⟨p, hp, rfl⟩)).trans hf
          simp only [valA, ho, hz, hone, e1, cond_true]
        · simp at hl
      · simp at hl
    · simp at hl
  | makeFunc f first caps =>
    cases f with
    | func f =>
      dsimp only at hl
      split at hl
      · rename_i hf
        split at hl
        · rename_i cs hc
          refine still hl ⟨rfl, rfl⟩ fun st2 hnx he hn K2 => ?_
          have e1 : evalsA st2 caps.toList = some cs := (evalsA_loc fun x hx => he x (by simp only [ho, Op.operands, Array.toList_append, List.mem_append]; exact .inr hx)).trans hc
          simp only [valA, ho, hf, e1, cond_true]
        · simp at hl
      · simp at hl
    | _ => simp at hl
  | fieldAddr T x f =>
    dsimp only at hl
    split at hl
    · rename_i a d ft ha hf
      split at hl
      · rename_i m hm
        split at hl
        all_goals first
          | (simp at hl; done)
          | (refine still hl ⟨rfl, rfl⟩ fun st2 hnx he hn K2 => ?_
             have := (he x (by simp [ho, Op.operands])).trans ha
             simp only [valA, ho, this, hf, hm])
      · simp at hl
    · simp at hl
  | nilCheck x =>
    dsimp only at hl
    split at hl
    all_goals first
      | (simp at hl; done)
      | (rename_i ha
         refine still hl ⟨rfl, rfl⟩ fun st2 hnx he hn K2 => ?_
         have := (he x (by simp [ho, Op.operands])).trans ha
         simp only [valA, ho, this])
  | load T x =>
    dsimp only at hl
    split at hl
    · rename_i a ha
      obtain ⟨v, g, k1, k2, k3⟩ := loadA_loc hl
      refine still k1 k2 fun st2 hnx he hn K2 => ?_
      have := (he x (by simp [ho, Op.operands])).trans ha
      simp only [valA, ho, this]
      exact k3 _ hn _
    · simp at hl
  | indexAddr T x i =>
    dsimp only at hl
    split at hl
    · rename_i a k j ha hi
      obtain ⟨v, g, k1, k2, k3⟩ := indexA_loc hl
      refine still k1 k2 fun st2 hnx he hn K2 => ?_
      have e1 := (he x (by simp [ho, Op.operands])).trans ha
      have e2 := (he i (by simp [ho, Op.operands])).trans hi
      simp only [valA, ho, e1, e2]
      exact k3 _ hn _
    · simp at hl
  | extract x i =>
    dsimp only at hl
    split at hl
    · rename_i vs ha
      split at hl
      · rename_i v hv
        refine still hl ⟨rfl, rfl⟩ fun st2 hnx he hn K2 => ?_
        have := (he x (by simp [ho, Op.operands])).trans ha
        simp only [valA, ho, this, hv]
      · simp at hl
    · simp at hl
  | unOp op T x =>
    dsimp only at hl
    split at hl
    · rename_i a ha
      split at hl
      · rename_i v hv
        refine still hl ⟨rfl, rfl⟩ fun st2 hnx he hn K2 => ?_
        have := (he x (by simp [ho, Op.operands])).trans ha
        simp only [valA, ho, this, hv]
      · simp at hl
    · simp at hl
  | store T x y =>
    dsimp only at hl
    split at hl
    · rename_i a v ha hv
      obtain ⟨h1, g1, s1, s2⟩ := storeA_nw hl
      obtain ⟨h', g, k1, k2⟩ := storeA_loc hl
      have hg : g = g1 := by
        obtain ⟨h3, _, k4⟩ := k2 st.hp fun _ _ => rfl
        have := (k4 (fun h' g => some (h', g))).symm.trans s1
        simp only [Option.some.injEq, Prod.mk.injEq] at this
        exact this.2
      subst hg
      refine ⟨_, _, _, k1, ⟨rfl, rfl, by simp, s2⟩, fun st2 hnx he hn => ?_⟩
      obtain ⟨h3, k3, k4⟩ := k2 st2.hp hn
      refine ⟨h3, k3, fun K2 => ?_⟩
      have e1 := (he x (by simp [ho, Op.operands])).trans ha
      have e2 := (he y (by simp [ho, Op.operands])).trans hv
      simp only [valA, ho, e1, e2, hnx, k4]
    · simp at hl
  | binOp op T x y c =>
    dsimp only at hl
    split at hl
    · rename_i a b ha hb
      have fin : ∀ {v : AV}, K v st {} = some r → (∀ st2 : St, st2.nx = st.nx → evalA st2 x = some a → evalA st2 y = some b → ∀ K2 : AV → St → Lg → Option α, valA P call o st2 K2 = K2 v st2 {}) → _ := fun hk hv =>
        still hk ⟨rfl, rfl⟩ fun st2 hnx he hn K2 => hv st2 hnx ((he x (by simp [ho, Op.operands])).trans ha) ((he y (by simp [ho, Op.operands])).trans hb) K2
      cases op
      case quo =>
        dsimp only at hl
        split at hl
        · split at hl
          · rename_i h1
            split at hl
            · simp at hl
            · rename_i h2
              exact fin hl fun st2 hnx e1 e2 K2 => by simp only [valA, ho, e1, e2, Bool.cond_eq_ite, h1, h2, if_true, if_false]; simp
          · simp at hl
        · simp at hl
      case rem =>
        dsimp only at hl
        split at hl
        · split at hl
          · rename_i h1
            split at hl
            · simp at hl
            · rename_i h2
              exact fin hl fun st2 hnx e1 e2 K2 => by simp only [valA, ho, e1, e2, Bool.cond_eq_ite, h1, h2, if_true, if_false]; simp
          · simp at hl
        · simp at hl
      all_goals
        dsimp only at hl
        split at hl
        · rename_i v hv
          exact fin hl fun st2 hnx e1 e2 K2 => by simp only [valA, ho, e1, e2, hv]
        · simp at hl
    · simp at hl
  | call c =>
    dsimp only at hl
    have hop : ∀ x ∈ c.args.toList, x ∈ o.op.operands.toList := fun x hx => by
      simp only [ho, Op.operands, Call.operands, Array.toList_append, List.mem_append]; exact .inr hx
    split at hl
    · rename_i hcal
      split at hl
      · rename_i a T hargs hT
        split at hl
        · rename_i n g hlen
          obtain ⟨k1, k2⟩ := lenA_loc hlen
          refine still hl k1 fun st2 hnx he hn K2 => ?_
          have e1 := (evalsA_loc fun x hx => he x (hop x hx)).trans hargs
          simp only [valA, ho, hcal, e1, hT, k2 _ hn]
        · simp at hl
      · simp at hl
    · rename_i hcal
      split at hl
      · rename_i s x T T' hargs hT
        split at hl
        · rename_i hsl
          obtain ⟨a, h', g, k1, k2, k3⟩ := appendA_loc hl
          refine ⟨_, _, _, k1, ⟨rfl, rfl, by simp, fun l hl => by have := k2 l hl; subst this; simp⟩, fun st2 hnx he hn => ?_⟩
          obtain ⟨h3, e3, e4⟩ := k3 st2.hp hn
          refine ⟨h3, e3, fun K2 => ?_⟩
          have e1 := (evalsA_loc fun x hx => he x (hop x hx)).trans hargs
          simp only [valA, ho, hcal, e1, hT, hsl, hnx, e4, cond_true]
        · simp at hl
      · simp at hl
    · rename_i hcal
      split at hl
      · rename_i as hargs
        split at hl
        · rename_i v hv
          refine still hl ⟨rfl, rfl⟩ fun st2 hnx he hn K2 => ?_
          have e1 := (evalsA_loc fun x hx => he x (hop x hx)).trans hargs
          simp only [valA, ho, hcal, e1, hv]
        · simp at hl
      · simp at hl
    · rename_i hcal
      split at hl
      · rename_i as hargs
        split at hl
        · rename_i v hv
          refine still hl ⟨rfl, rfl⟩ fun st2 hnx he hn K2 => ?_
          have e1 := (evalsA_loc fun x hx => he x (hop x hx)).trans hargs
          simp only [valA, ho, hcal, e1, hv]
        · simp at hl
      · simp at hl
    · rename_i f hcal
      split at hl
      · rename_i g caps as hf hargs
        obtain ⟨a, st', lg, k1, k2, k3⟩ := hcall _ _ _ _ hl
        refine ⟨a, st', lg, k1, k2, fun st2 hnx he hn => ?_⟩
        obtain ⟨h3, e3, e4⟩ := k3 st2 hnx hn
        refine ⟨h3, e3, fun K2 => ?_⟩
        have e1 := (evalsA_loc fun x hx => he x (hop x hx)).trans hargs
        have e2 := (he f (by simp [ho, Op.operands, Call.operands, hcal])).trans hf
        simp only [valA, ho, hcal, e1, e2, e4]
      · simp at hl
    · simp at hl
  | buildSlice T n ps =>
    dsimp only at hl
    have hop : ∀ p ∈ ps.toList, p.2 ∈ o.op.operands.toList := fun p hp => by
      simp only [ho, Op.operands, List.mem_map]; exact ⟨p, hp, rfl⟩
    split at hl
    · rename_i e hT
      split at hl
      · simp at hl
      · rename_i sz hsz
        split at hl
        · rename_i hle
          split at hl
          · rename_i t ht
            split at hl
            · rename_i hps
              split at hl
              · rename_i xs h1 g hp
                refine ⟨_, _, _, hl, ⟨rfl, rfl, by simp, fun l hl => ?_⟩, fun st2 hnx he hn => ?_⟩
                · have : l = st.nx := by simpa [Lg.join, partsA_nw hp] using hl
                  subst this; simp
                · obtain ⟨h3, k1, k2⟩ := partsA_loc (st2 := st2) hp (fun p hp => he p.2 (hop p hp)) hn.left
                  refine ⟨upd h3 st.nx (.arr t xs), k2.trans (newblk (fun _ _ => ⟨rfl, rfl⟩) fun l hl => by simp at hl), fun K2 => ?_⟩
                  simp only [valA, ho, hT, hsz, hle, ht, hps, k1, hnx, cond_true]
              · simp at hl
            · simp at hl
          · rename_i ht
            split at hl
            · rename_i z hz
              split at hl
              · rename_i hone
                split at hl
                · rename_i cs hf
                  refine ⟨_, _, _, hl, ⟨rfl, rfl, by simp, fun l hl => by simp at hl; subst hl; simp⟩, fun st2 hnx he hn => ?_⟩
                  refine ⟨upd st2.hp st.nx (.cells cs), newblk (fun _ _ => ⟨rfl, rfl⟩) fun l hl => by simp at hl, fun K2 => ?_⟩
                  have e1 := (fpartsA_loc (st := st) (st2 := st2) (k := sz) (cs := (List.replicate n z).flatten) fun p hp => he p.2 (hop p hp)).trans hf
                  simp only [valA, ho, hT, hsz, hle, ht, hz, hone, e1, hnx, cond_true]
                · simp at hl
              · simp at hl
            · simp at hl
        · simp at hl
    · simp at hl
  | slice T x lo hi mx =>
    cases mx with
    | some m => simp at hl
    | none =>
      dsimp only at hl
      split at hl
      · rename_i a lo' hi' ha hlo hhi
        obtain ⟨a', h', g, k1, k2, k3⟩ := sliceA_loc hl
        refine ⟨_, _, _, k1, ⟨rfl, rfl, by simp, fun l hl => by have := k2 l hl; subst this; simp⟩, fun st2 hnx he hn => ?_⟩
        obtain ⟨h3, e3, e4⟩ := k3 st2.hp hn
        refine ⟨h3, e3, fun K2 => ?_⟩
        have opt : ∀ q : Option Operand, (∀ y, q = some y → y ∈ o.op.operands.toList) → optA st2 q = optA st q := fun q hq => by
          cases q with
          | none => rfl
          | some y => simp only [optA, he y (hq y rfl)]
        have e1 := (he x (by simp [ho, Op.operands])).trans ha
        have e2 := (opt lo fun y hy => by subst hy; simp [ho, Op.operands]).trans hlo
        have e5 := (opt hi fun y hy => by subst hy; simp [ho, Op.operands]).trans hhi
        simp only [valA, ho, e1, e2, e5, hnx, e4]
      · simp at hl
  | _ => simp at hl

end
end Go.Abs

/-
  The abstract machine looks at no more than its logs say: what a call takes.
-/
namespace Go.Abs

section
variable [D : Dom] [C : Coding] [O : Objs] {P : Program}
variable {h h' h1 h2 h2' h3 : Hp} {g g' : Lg} {st st2 : St}

omit O in
omit C in
theorem takeVal_loc {agg : Bool} {qs : List CK} {a : AV} {m : MC} (ht : takeVal agg qs a h = some (m, h', g)) (hn : Near g h h2) : g.nw = [] ∧ ∃ h2', takeVal agg qs a h2 = some (m, h2', g) ∧ Over g h h' h2 h2' := by
  unfold takeVal at ht
  split at ht
  · rename_i cs h1 g1 hc
    split at ht
    · split at ht
      · rename_i cs0 hagg
        obtain ⟨rfl, rfl, rfl⟩ : _ = m ∧ h1 = h' ∧ g1 = g := by simpa using ht
        obtain ⟨h3, k1, k2⟩ := coerce_loc hc hn
        exact ⟨coerce_nw hc, h3, by simp [takeVal, k1, hagg], k2⟩
      · simp at ht
    · split at ht
      · rename_i _ _ _ c hagg
        obtain ⟨rfl, rfl, rfl⟩ : _ = m ∧ h1 = h' ∧ g1 = g := by simpa using ht
        obtain ⟨h3, k1, k2⟩ := coerce_loc hc hn
        refine ⟨coerce_nw hc, h3, ?_, k2⟩
        simp only [takeVal, k1]
        simp_all
      · simp at ht
  · simp at ht

omit O in
omit C in
theorem takeArr_loc {t : D.Tag} {a : AV} {m : MC} (ht : takeArr t a h = some (m, h', g)) (hn : Near g h h2) : g.nw = [] ∧ ∃ h2', takeArr t a h2 = some (m, h2', g) ∧ Over g h h' h2 h2' := by
  unfold takeArr at ht
  split at ht
  · obtain ⟨rfl, rfl, rfl⟩ : _ = m ∧ h = h' ∧ _ = g := by simpa using ht
    exact ⟨rfl, h2, by simp [takeArr], Over.refl rfl rfl⟩
  · rename_i l
    split at ht
    · rename_i t' xs hl
      cases hsm : same t t' <;> rw [hsm] at ht
      · simp at ht
      · obtain ⟨rfl, rfl, rfl⟩ : _ = m ∧ _ = h' ∧ _ = g := by simpa using ht
        have := hn l (by simp)
        exact ⟨rfl, upd h2 l .dead, by simp [takeArr, this, hl, hsm], Over.upd l _ rfl rfl⟩
    · simp at ht
  · simp at ht

def RecLoc (rec : D.Tag → AV → Hp → Option (MC × Hp × Lg)) : Prop :=
  ∀ (t : D.Tag) (a : AV) (h h' h2 : Hp) (m : MC) (g : Lg), rec t a h = some (m, h', g) → Near g h h2 → g.nw = [] ∧ ∃ h2', rec t a h2 = some (m, h2', g) ∧ Over g h h' h2 h2'

omit O in
omit C in
theorem takeCell_loc {rec : D.Tag → AV → Hp → Option (MC × Hp × Lg)} (hrec : RecLoc rec) {q : MK} {a : AV} {m : MC} (ht : takeCell rec q a h = some (m, h', g)) (hn : Near g h h2) : g.nw = [] ∧ ∃ h2', takeCell rec q a h2 = some (m, h2', g) ∧ Over g h h' h2 h2' := by
  unfold takeCell at ht
  split at ht
  · split at ht
    · rename_i b h1 g1 hc
      obtain ⟨rfl, rfl, rfl⟩ : _ = m ∧ h1 = h' ∧ g1 = g := by simpa using ht
      obtain ⟨h3, k1, k2⟩ := coerce1_loc hc hn
      exact ⟨coerce1_nw hc, h3, by simp [takeCell, k1], k2⟩
    · simp at ht
  · obtain ⟨k0, h3, k1, k2⟩ := takeArr_loc ht hn
    exact ⟨k0, h3, by simpa [takeCell] using k1, k2⟩
  · obtain ⟨k0, h3, k1, k2⟩ := hrec _ _ _ _ _ _ _ ht hn
    exact ⟨k0, h3, by simpa [takeCell] using k1, k2⟩

omit O in
omit C in
theorem takeCells_loc {rec : D.Tag → AV → Hp → Option (MC × Hp × Lg)} (hrec : RecLoc rec) : ∀ {qs : List MK} {as : List AV} {ms : List MC} {h h' h2 : Hp} {g : Lg}, takeCells rec qs as h = some (ms, h', g) → Near g h h2 → g.nw = [] ∧ ∃ h2', takeCells rec qs as h2 = some (ms, h2', g) ∧ Over g h h' h2 h2'
  | [], [], ms, h, h', h2, g, ht, hn => by
    obtain ⟨rfl, rfl, rfl⟩ : [] = ms ∧ h = h' ∧ _ = g := by simpa [takeCells] using ht
    exact ⟨rfl, h2, by simp [takeCells], Over.refl rfl rfl⟩
  | q :: qs, a :: as, ms, h, h', h2, g, ht, hn => by
    simp only [takeCells] at ht
    split at ht
    · rename_i m h1 g1 h1t
      split at ht
      · rename_i ms' h1' g2 h2t
        obtain ⟨rfl, rfl, rfl⟩ : _ = ms ∧ h1' = h' ∧ _ = g := by simpa using ht
        obtain ⟨a0, h3, a1, a2⟩ := takeCell_loc hrec h1t hn.left
        obtain ⟨b0, h4, b1, b2⟩ := takeCells_loc hrec h2t (hn.right a2)
        exact ⟨by simp [Lg.join, a0, b0], h4, by simp [takeCells, a1, b1], a2.trans b2⟩
      · simp at ht
    · simp at ht
  | [], _ :: _, _, _, _, _, _, ht, _ => by simp [takeCells] at ht
  | _ :: _, [], _, _, _, _, _, ht, _ => by simp [takeCells] at ht

omit C in
theorem takePtr_loc : ∀ (n : Nat), RecLoc (takePtr n)
  | 0 => fun t a h h' h2 m g ht hn => by simp [takePtr] at ht
  | n + 1 => fun t a h h' h2 m g ht hn => by
    simp only [takePtr] at ht
    split at ht
    · rename_i l
      split at ht
      · rename_i cs hl
        split at ht
        · rename_i ms h1 g1 hc
          split at ht
          · rename_i x hx
            obtain ⟨rfl, rfl, rfl⟩ : _ = m ∧ h1 = h' ∧ _ = g := by simpa using ht
            have e1 := hn l (by simp [Lg.join])
            have o1 : Over { wr := [l] } h (upd h l .dead) h2 (upd h2 l .dead) := Over.upd l _ rfl rfl
            obtain ⟨b0, h4, b1, b2⟩ := takeCells_loc (takePtr_loc n) hc (hn.right o1)
            exact ⟨by simp [Lg.join, b0], h4, by simp [takePtr, e1, hl, b1, hx], o1.trans b2⟩
          · simp at ht
        · simp at ht
      · simp at ht
    · obtain ⟨rfl, rfl, rfl⟩ : _ = m ∧ h = h' ∧ _ = g := by simpa using ht
      exact ⟨rfl, h2, by simp [takePtr], Over.refl rfl rfl⟩
    · simp at ht

/-- The place that is put back. -/
def BackAt (q : Mode) (a : AV) (l : Nat) : Prop := (∃ t, q = .own t ∧ a = .ptr l 0) ∨ ∃ t, q = .row t ∧ a = .sl l

omit C in
theorem takeM_loc {q : Mode} {a : AV} {m : MC} (ht : takeM q a h = some (m, h', g)) : (∀ l, BackAt q a l → l ∈ g.wr) ∧ g.nw = [] ∧ ∀ h2, Near g h h2 → ∃ h2', takeM q a h2 = some (m, h2', g) ∧ Over g h h' h2 h2' := by
  cases q with
  | val agg qs =>
    refine ⟨fun l hl => (by rcases hl with ⟨_, e, _⟩ | ⟨_, e, _⟩ <;> cases e), (takeVal_loc ht fun _ _ => rfl).1, fun h2 hn => (takeVal_loc ht hn).2⟩
  | mov t =>
    refine ⟨fun l hl => (by rcases hl with ⟨_, e, _⟩ | ⟨_, e, _⟩ <;> cases e), (takeArr_loc ht fun _ _ => rfl).1, fun h2 hn => (takeArr_loc ht hn).2⟩
  | row t =>
    refine ⟨fun l hl => ?_, (takeArr_loc ht fun _ _ => rfl).1, fun h2 hn => (takeArr_loc ht hn).2⟩
    rcases hl with ⟨_, e, _⟩ | ⟨_, e, rfl⟩
    · cases e
    · simp only [takeM, takeArr] at ht
      split at ht
      · rename_i t' xs hl
        cases hsm : same t t' <;> rw [hsm] at ht
        · simp at ht
        · obtain ⟨_, _, rfl⟩ : _ ∧ _ ∧ _ = g := by simpa using ht
          simp
      · simp at ht
  | own t =>
    refine ⟨fun l hl => ?_, (takePtr_loc 6 _ _ _ _ _ _ _ ht fun _ _ => rfl).1, fun h2 hn => (takePtr_loc 6 _ _ _ _ _ _ _ ht hn).2⟩
    rcases hl with ⟨_, e, rfl⟩ | ⟨_, e, _⟩
    · simp only [takeM, takePtr] at ht
      split at ht
      · split at ht
        · split at ht
          · obtain ⟨_, _, rfl⟩ : _ ∧ _ ∧ _ = g := by simpa using ht
            simp [Lg.join]
          · simp at ht
        · simp at ht
      · simp at ht
    · cases e

end
end Go.Abs

/-
  The abstract machine looks at no more than its logs say: a call by its contract.
-/
namespace Go.Abs

section
variable [D : Dom] [C : Coding] [O : Objs] {P : Program}
variable {h h' h1 h2 h2' h3 : Hp} {g g' : Lg} {st st2 : St}

omit C in
theorem takeMs_loc : ∀ {qs : List Mode} {as : List AV} {ms : List MC} {h h' : Hp} {g : Lg}, takeMs qs as h = some (ms, h', g) →
    (∀ (j : Nat) (q : Mode) (a : AV) (l : Nat), qs[j]? = some q → as[j]? = some a → BackAt q a l → l ∈ g.wr) ∧ g.nw = [] ∧ ∀ h2, Near g h h2 → ∃ h2', takeMs qs as h2 = some (ms, h2', g) ∧ Over g h h' h2 h2'
  | [], [], ms, h, h', g, ht => by
    obtain ⟨rfl, rfl, rfl⟩ : [] = ms ∧ h = h' ∧ _ = g := by simpa [takeMs] using ht
    exact ⟨fun j q a l hq => by simp at hq, rfl, fun h2 hn => ⟨h2, by simp [takeMs], Over.refl rfl rfl⟩⟩
  | q :: qs, a :: as, ms, h, h', g, ht => by
    simp only [takeMs] at ht
    split at ht
    · rename_i m h1 g1 h1t
      split at ht
      · rename_i ms' h1' g2 h2t
        obtain ⟨rfl, rfl, rfl⟩ : _ = ms ∧ h1' = h' ∧ _ = g := by simpa using ht
        obtain ⟨a1, a2, a3⟩ := takeM_loc h1t
        obtain ⟨b1, b2, b3⟩ := takeMs_loc h2t
        refine ⟨fun j q' a' l hq ha hb => ?_, by simp [Lg.join, a2, b2], fun h2 hn => ?_⟩
        · simp only [Lg.join, List.mem_append]
          cases j with
          | zero => simp at hq ha; subst hq; subst ha; exact .inl (a1 l hb)
          | succ j => exact .inr (b1 j q' a' l (by simpa using hq) (by simpa using ha) hb)
        · obtain ⟨h3, c1, c2⟩ := a3 h2 hn.left
          obtain ⟨h4, d1, d2⟩ := b3 h3 (hn.right c2)
          exact ⟨h4, by simp [takeMs, c1, d1], c2.trans d2⟩
      · simp at ht
    · simp at ht
  | [], _ :: _, _, _, _, _, ht => by simp [takeMs] at ht
  | _ :: _, [], _, _, _, _, ht => by simp [takeMs] at ht

/-- Turned alike at the places of X. -/
def OverX (X : Nat → Prop) (h h' h2 h2' : Hp) : Prop := ∀ l, (X l → h2' l = h' l) ∧ (¬ X l → h' l = h l ∧ h2' l = h2 l)

omit C O in
theorem OverX.trans {X Y : Nat → Prop} {h h1 h' h2 h3 h3' : Hp} (a : OverX X h h1 h2 h3) (b : OverX Y h1 h' h3 h3') : OverX (fun l => X l ∨ Y l) h h' h2 h3' := fun l => by
  refine ⟨fun hl => ?_, fun hl => ?_⟩
  · by_cases hy : Y l
    · exact (b l).1 hy
    · have y := (b l).2 hy
      rw [y.1, y.2]
      exact (a l).1 (hl.resolve_right hy)
  · simp only [not_or] at hl
    have x := (a l).2 hl.1
    have y := (b l).2 hl.2
    exact ⟨y.1.trans x.1, y.2.trans x.2⟩

omit C O in
theorem OverX.upd (n : Nat) (b : Blk) {h h1 h2 h3 : Hp} {X : Nat → Prop} (a : OverX X h h1 h2 h3) : OverX (fun l => X l ∨ l = n) h (upd h1 n b) h2 (upd h3 n b) := fun l => by
  refine ⟨fun hl => ?_, fun hl => ?_⟩
  · by_cases e : l = n
    · subst e; rw [upd_same, upd_same]
    · rw [upd_ne _ _ e, upd_ne _ _ e]; exact (a l).1 (hl.resolve_right e)
  · simp only [not_or] at hl
    rw [upd_ne _ _ hl.2, upd_ne _ _ hl.2]
    exact (a l).2 hl.1

omit C O in
theorem OverX.mono {X Y : Nat → Prop} {h h' h2 h2' : Hp} (a : OverX X h h' h2 h2') (hxy : ∀ l, X l ↔ Y l) : OverX Y h h' h2 h2' := fun l => ⟨fun y => (a l).1 ((hxy l).2 y), fun y => (a l).2 fun x => y ((hxy l).1 x)⟩

def GiveLoc (rec : MC → Hp → Nat → Option (AV × Hp × Nat)) : Prop := ∀ (m : MC) (h h' : Hp) (n n' : Nat) (a : AV), rec m h n = some (a, h', n') → n ≤ n' ∧ ∀ h2, ∃ h2', rec m h2 n = some (a, h2', n') ∧ OverX (fun l => n ≤ l ∧ l < n') h h' h2 h2'

omit C O in
theorem OverX.none {h h2 : Hp} {X : Nat → Prop} (hx : ∀ l, ¬ X l) : OverX X h h h2 h2 := fun l => ⟨fun x => absurd x (hx l), fun _ => ⟨rfl, rfl⟩⟩

omit C O in
theorem giveW_loc {rec : MC → Hp → Nat → Option (AV × Hp × Nat)} (hrec : GiveLoc rec) : ∀ {ms : List MC} {h h' : Hp} {n n' : Nat} {as : List AV}, giveW rec ms h n = some (as, h', n') → n ≤ n' ∧ ∀ h2, ∃ h2', giveW rec ms h2 n = some (as, h2', n') ∧ OverX (fun l => n ≤ l ∧ l < n') h h' h2 h2'
  | [], h, h', n, n', as, hg => by
    obtain ⟨rfl, rfl, rfl⟩ : [] = as ∧ h = h' ∧ n = n' := by simpa [giveW] using hg
    exact ⟨Nat.le_refl _, fun h2 => ⟨h2, by simp [giveW], OverX.none fun l => by omega⟩⟩
  | m :: ms, h, h', n, n', as, hg => by
    simp only [giveW] at hg
    split at hg
    · rename_i a h1 n1 hg1
      split at hg
      · rename_i as' h1' n2 hg2
        obtain ⟨rfl, rfl, rfl⟩ : a :: as' = as ∧ h1' = h' ∧ n2 = n' := by simpa using hg
        obtain ⟨a1, a2⟩ := hrec _ _ _ _ _ _ hg1
        obtain ⟨b1, b2⟩ := giveW_loc hrec hg2
        refine ⟨by omega, fun h2 => ?_⟩
        obtain ⟨h3, c1, c2⟩ := a2 h2
        obtain ⟨h4, d1, d2⟩ := b2 h3
        exact ⟨h4, by simp [giveW, c1, d1], (c2.trans d2).mono fun l => by omega⟩
      · simp at hg
    · simp at hg

omit C in
theorem giveM_loc : ∀ k, GiveLoc (giveM (O := O) k)
  | 0 => fun m h h' n n' a hg => by
    cases m with
    | av a0 =>
      obtain ⟨rfl, rfl, rfl⟩ : a0 = a ∧ h = h' ∧ n = n' := by simpa [giveM] using hg
      exact ⟨Nat.le_refl _, fun h2 => ⟨h2, by simp [giveM], OverX.none fun l => by omega⟩⟩
    | arr t xs =>
      obtain ⟨rfl, rfl, rfl⟩ : AV.sl n = a ∧ upd h n (.arr t xs) = h' ∧ n + 1 = n' := by simpa [giveM] using hg
      exact ⟨by omega, fun h2 => ⟨upd h2 n (.arr t xs), by simp [giveM], ((OverX.none (X := fun _ => False) (fun _ x => x)).upd n (.arr t xs)).mono fun l => by simp; omega⟩⟩
    | ptr t x => simp [giveM] at hg
  | k + 1 => fun m h h' n n' a hg => by
    cases m with
    | av a0 =>
      obtain ⟨rfl, rfl, rfl⟩ : a0 = a ∧ h = h' ∧ n = n' := by simpa [giveM] using hg
      exact ⟨Nat.le_refl _, fun h2 => ⟨h2, by simp [giveM], OverX.none fun l => by omega⟩⟩
    | arr t xs =>
      obtain ⟨rfl, rfl, rfl⟩ : AV.sl n = a ∧ upd h n (.arr t xs) = h' ∧ n + 1 = n' := by simpa [giveM] using hg
      exact ⟨by omega, fun h2 => ⟨upd h2 n (.arr t xs), by simp [giveM], ((OverX.none (X := fun _ => False) (fun _ x => x)).upd n (.arr t xs)).mono fun l => by simp; omega⟩⟩
    | ptr t x =>
      simp only [giveM] at hg
      split at hg
      · rename_i as h1 n1 hw
        obtain ⟨rfl, rfl, rfl⟩ : AV.ptr n 0 = a ∧ upd h1 n (.cells as) = h' ∧ n1 = n' := by simpa using hg
        obtain ⟨a1, a2⟩ := giveW_loc (giveM_loc k) hw
        refine ⟨by omega, fun h2 => ?_⟩
        obtain ⟨h3, c1, c2⟩ := a2 h2
        exact ⟨upd h3 n (.cells as), by simp [giveM, c1], (c2.upd n (.cells as)).mono fun l => by omega⟩
      · simp at hg

theorem backM_loc {q : Mode} {a : AV} {x : MC} {n n' : Nat} (hb : backM q a x h n = some (h', n')) : n ≤ n' ∧ ∃ Y : Nat → Prop, (∀ l, Y l → BackAt q a l) ∧ ∀ h2, ∃ h2', backM q a x h2 n = some (h2', n') ∧ OverX (fun l => (n ≤ l ∧ l < n') ∨ Y l) h h' h2 h2' := by
  refine ⟨backM_le hb, ?_⟩
  unfold backM at hb
  split at hb
  · rename_i t l t' x
    cases hsm : same t t' <;> rw [hsm] at hb
    · simp at hb
    · simp only [cond_true] at hb
      split at hb
      · rename_i as h1' n1 hw
        obtain ⟨rfl, rfl⟩ : upd h1' l (.cells as) = h' ∧ n1 = n' := by simpa using hb
        obtain ⟨a1, a2⟩ := giveW_loc (giveM_loc 6) hw
        refine ⟨fun i => i = l, fun i hi => by subst hi; exact .inl ⟨t, rfl, rfl⟩, fun h2 => ?_⟩
        obtain ⟨h3, c1, c2⟩ := a2 h2
        refine ⟨upd h3 l (.cells as), ?_, c2.upd l (.cells as)⟩
        have c1' : giveL 6 (O.menc t' x) h2 n = some (as, h3, n1) := c1
        simp [backM, hsm, c1']
      · simp at hb
  · rename_i t l t' xs
    cases hsm : same t t' <;> rw [hsm] at hb
    · simp at hb
    · obtain ⟨rfl, rfl⟩ : upd h l (.arr t' xs) = h' ∧ n = n' := by simpa using hb
      exact ⟨fun i => i = l, fun i hi => by subst hi; exact .inr ⟨t, rfl, rfl⟩, fun h2 => ⟨upd h2 l (.arr t' xs), by simp [backM, hsm], (OverX.none fun i => by omega).upd l _⟩⟩
  · obtain ⟨rfl, rfl⟩ : h = h' ∧ n = n' := by simpa using hb
    exact ⟨fun _ => False, fun _ hf => hf.elim, fun h2 => ⟨h2, by simp [backM], OverX.none fun i hi => by rcases hi with hi | hi; omega; exact hi⟩⟩
  · obtain ⟨rfl, rfl⟩ : h = h' ∧ n = n' := by simpa using hb
    exact ⟨fun _ => False, fun _ hf => hf.elim, fun h2 => ⟨h2, by simp [backM], OverX.none fun i hi => by rcases hi with hi | hi; omega; exact hi⟩⟩
  · obtain ⟨rfl, rfl⟩ : h = h' ∧ n = n' := by simpa using hb
    exact ⟨fun _ => False, fun _ hf => hf.elim, fun h2 => ⟨h2, by simp [backM], OverX.none fun i hi => by rcases hi with hi | hi; omega; exact hi⟩⟩
  · simp at hb

theorem backMs_loc : ∀ {qs : List Mode} {as : List AV} {xs : List MC} {h h' : Hp} {n n' : Nat}, backMs qs as xs h n = some (h', n') → n ≤ n' ∧ ∃ Y : Nat → Prop, (∀ l, Y l → ∃ (j : Nat) (q : Mode) (a : AV), qs[j]? = some q ∧ as[j]? = some a ∧ BackAt q a l) ∧ ∀ h2, ∃ h2', backMs qs as xs h2 n = some (h2', n') ∧ OverX (fun l => (n ≤ l ∧ l < n') ∨ Y l) h h' h2 h2'
  | [], [], [], h, h', n, n', hb => by
    obtain ⟨rfl, rfl⟩ : h = h' ∧ n = n' := by simpa [backMs] using hb
    exact ⟨Nat.le_refl _, fun _ => False, fun _ hf => hf.elim, fun h2 => ⟨h2, by simp [backMs], OverX.none fun i hi => by rcases hi with hi | hi; omega; exact hi⟩⟩
  | q :: qs, a :: as, x :: xs, h, h', n, n', hb => by
    simp only [backMs] at hb
    split at hb
    · rename_i h1 n1 hb1
      obtain ⟨a0, Y, a1, a2⟩ := backM_loc hb1
      obtain ⟨b0, Z, b1, b2⟩ := backMs_loc hb
      refine ⟨by omega, fun l => Y l ∨ Z l, fun l hl => ?_, fun h2 => ?_⟩
      · rcases hl with hl | hl
        · exact ⟨0, q, a, rfl, rfl, a1 l hl⟩
        · obtain ⟨j, q', a', e1, e2, e3⟩ := b1 l hl
          exact ⟨j + 1, q', a', by simpa using e1, by simpa using e2, e3⟩
      · obtain ⟨h3, c1, c2⟩ := a2 h2
        obtain ⟨h4, d1, d2⟩ := b2 h3
        refine ⟨h4, by simp [backMs, c1, d1], (c2.trans d2).mono fun l => ?_⟩
        constructor
        · rintro ((x | x) | (x | x))
          · exact .inl (by omega)
          · exact .inr (.inl x)
          · exact .inl (by omega)
          · exact .inr (.inr x)
        · rintro (x | x | x)
          · by_cases hlt : l < n1
            · exact .inl (.inl (by omega))
            · exact .inr (.inl (by omega))
          · exact .inl (.inr x)
          · exact .inr (.inr x)
    · simp at hb
  | [], [], _ :: _, _, _, _, _, hb => by simp [backMs] at hb
  | [], _ :: _, _, _, _, _, _, hb => by simp [backMs] at hb
  | _ :: _, [], _, _, _, _, _, hb => by simp [backMs] at hb
  | _ :: _, _ :: _, [], _, _, _, _, hb => by simp [backMs] at hb

omit D C O in
theorem mem_newsFrom : ∀ (k a l : Nat), l ∈ newsFrom a k ↔ a ≤ l ∧ l < a + k
  | 0, a, l => by simp [newsFrom]
  | k + 1, a, l => by
    simp only [newsFrom, List.mem_cons, mem_newsFrom k (a + 1) l]
    omega

theorem callC_loc {α : Type} {c : Ctr} {r : α} {as : List AV} {K : AV → St → Lg → Option α} (hc : callC c as st K = some r) : ∃ a st' lg, K a st' lg = some r ∧ Alike st st' lg ∧
    ∀ st2, st2.nx = st.nx → Near lg st.hp st2.hp → ∃ h2', Over lg st.hp st'.hp st2.hp h2' ∧ ∀ K2 : AV → St → Lg → Option α, callC c as st2 K2 = K2 a { st2 with hp := h2', nx := st'.nx } lg := by
  rw [callC_eq] at hc
  unfold callC0 at hc
  split at hc
  · rename_i ms h1 lg1 ht
    cases hpre : c.pre ms <;> rw [hpre] at hc
    · simp at hc
    · simp only [cond_true] at hc
      split at hc
      · rename_i h2 n2 hb
        split at hc
        · rename_i rs h3 n3 hgv
          obtain ⟨t1, t2, t3⟩ := takeMs_loc ht
          obtain ⟨b0, Y, b1, b2⟩ := backMs_loc hb
          obtain ⟨g0, g1⟩ := giveW_loc (giveM_loc 6) hgv
          refine ⟨_, _, _, hc, ⟨rfl, rfl, by simp; omega, fun l hl => ?_⟩, fun st2 hnx hn => ?_⟩
          · simp only [Lg.join, t2, List.nil_append, mem_newsFrom] at hl
            simp only
            omega
          · obtain ⟨k1, e1, o1⟩ := t3 st2.hp hn.left
            obtain ⟨k2, e2, o2⟩ := b2 k1
            obtain ⟨k3, e3, o3⟩ := g1 k2
            have e3' : giveL 6 (c.f ms).1 k2 n2 = some (rs, k3, n3) := e3
            have o23 := o2.trans o3
            refine ⟨k3, ⟨fun l hw hnw => ?_, fun l hl => ?_⟩, fun K2 => ?_⟩
            · simp only [Lg.join, t2, List.append_nil, List.nil_append, mem_newsFrom] at hw hnw
              have hY : ¬ Y l := fun y => by
                obtain ⟨j, q, a, y1, y2, y3⟩ := b1 l y
                exact hw (t1 j q a l y1 y2 y3)
              have x := o1.out l hw (by rw [t2]; simp)
              have y := (o23 l).2 (by rintro ((z | z) | z) <;> first | exact hY z | omega)
              exact ⟨y.1.trans x.1, y.2.trans x.2⟩
            · simp only [Lg.join, t2, List.append_nil, List.nil_append, mem_newsFrom] at hl
              by_cases hx : ((st.nx ≤ l ∧ l < n2) ∨ Y l) ∨ (n2 ≤ l ∧ l < n3)
              · exact (o23 l).1 hx
              · have y := (o23 l).2 hx
                show k3 l = h3 l
                rw [y.1, y.2]
                refine o1.inn l ?_
                rcases hl with hl | hl
                · exact .inl hl
                · exfalso
                  apply hx
                  by_cases z : l < n2
                  · exact .inl (.inl (by omega))
                  · exact .inr (by omega)
            · simp only [callC_eq, callC0, e1, hpre, cond_true, hnx, e2, e3']
        · simp at hc
      · simp at hc
  · simp at hc

theorem callD_loc (Γ : Nat → Option Ctr) {α : Type} (r : α) : CallLoc (callD Γ) r := by
  intro g as st K hc
  unfold callD at hc
  split at hc
  · rename_i c hg
    obtain ⟨a, st', lg, k1, k2, k3⟩ := callC_loc hc
    refine ⟨a, st', lg, k1, k2, fun st2 hnx hn => ?_⟩
    obtain ⟨h3, e1, e2⟩ := k3 st2 hnx hn
    exact ⟨h3, e1, fun K2 => by simp only [callD, hg, e2]⟩
  · simp at hc

end
end Go.Abs

/-
  The abstract machine looks at no more than its logs say: one operation under its guard.
-/
namespace Go.Abs

section
variable [D : Dom] [C : Coding] [O : Objs] {P : Program}
variable {st st2 : St}

omit D C O in
theorem put'_same {α : Type} : ∀ (l : List α) (i : Nat) (x : α), nth l i = some x → put' l i x = l
  | [], _, _, h => by simp [nth] at h
  | y :: l, 0, x, h => by simp [nth] at h; simp [put', h]
  | y :: l, i + 1, x, h => by simp only [put']; rw [put'_same l i x h]

omit C O in
theorem put_same {d : Nat} {a : AV} (h : get? st.tm d = some a) : st.put (some d) a = st := by
  unfold get? at h
  split at h
  · rename_i b hb
    obtain rfl : b = a := by simpa using h
    simp [St.put, put'_same _ _ _ hb]
  · simp at h

omit C O in
theorem evalA_loc {x : Operand} (hx : ∀ t, x = .tmp t → get? st2.tm t = get? st.tm t) : evalA st2 x = evalA st x := by
  cases x with
  | tmp t => simp only [evalA]; exact hx t rfl
  | _ => simp [evalA]

omit D C O in
theorem operand_mem {o : Oper} {all : List Oper} {t : Nat} (h : Operand.tmp t ∈ o.op.operands.toList) : t ∈ tmpsOf o all := by
  unfold tmpsOf
  refine List.mem_append.2 (.inl ?_)
  rw [List.mem_filterMap]
  exact ⟨_, h, rfl⟩

omit C O in
theorem yieldA_loc {o : Oper} {all : List Oper} {j : Nat} {want : Bool} (hg : o.guard = some (j, want)) (ht : ∀ t ∈ tmpsOf o all, get? st2.tm t = get? st.tm t) : yieldA all st2 j = yieldA all st j := by
  unfold yieldA
  split
  · rename_i p hp
    split
    · rename_i d hd
      rw [ht d (by unfold tmpsOf; simp [hg, hp, hd])]
    · rfl
  · rfl

omit C O in
theorem yieldA_get {all : List Oper} {j d : Nat} {b : Bool} (h : yieldA all st j = some (d, some b)) : get? st.tm d = some (.v (.bool b)) := by
  unfold yieldA at h
  split at h
  · split at h
    · split at h
      · rename_i hb
        simp only [Option.some.injEq, Prod.mk.injEq] at h
        obtain ⟨rfl, rfl⟩ := h
        exact hb
      · simp at h
      · simp at h
    · simp at h
  · simp at h

omit O in
theorem stepA_loc {α : Type} {call : Nat → List AV → St → (AV → St → Lg → Option α) → Option α} {r : α} (hcall : CallLoc call r) {all : List Oper} {o : Oper} {K : St → Lg → Option α} (hl : stepA P call all o st K = some r) :
    ∃ a st' lg, K (st'.put o.dst a) lg = some r ∧ Alike st st' lg ∧
      ∀ st2, st2.nx = st.nx → (∀ t ∈ tmpsOf o all, get? st2.tm t = get? st.tm t) → Near lg st.hp st2.hp → ∃ h2', Over lg st.hp st'.hp st2.hp h2' ∧ ∀ K2 : St → Lg → Option α, stepA P call all o st2 K2 = K2 (St.put { st2 with hp := h2', nx := st'.nx } o.dst a) lg := by
  have hev : ∀ st2 : St, (∀ t ∈ tmpsOf o all, get? st2.tm t = get? st.tm t) → ∀ x ∈ o.op.operands.toList, evalA st2 x = evalA st x := fun st2 ht x hx => evalA_loc fun t e => ht t (operand_mem (e ▸ hx))
  have skip : ∀ {a : AV}, K (st.put o.dst a) {} = some r → (∀ st2 : St, (∀ t ∈ tmpsOf o all, get? st2.tm t = get? st.tm t) → ∀ K2 : St → Lg → Option α, stepA P call all o st2 K2 = K2 (st2.put o.dst a) {}) → ∃ a st' lg, K (st'.put o.dst a) lg = some r ∧ Alike st st' lg ∧
      ∀ st2, st2.nx = st.nx → (∀ t ∈ tmpsOf o all, get? st2.tm t = get? st.tm t) → Near lg st.hp st2.hp → ∃ h2', Over lg st.hp st'.hp st2.hp h2' ∧ ∀ K2 : St → Lg → Option α, stepA P call all o st2 K2 = K2 (St.put { st2 with hp := h2', nx := st'.nx } o.dst a) lg :=
    fun hk hv => ⟨_, st, {}, hk, ⟨rfl, rfl, Nat.le_refl _, fun l hl => by simp at hl⟩, fun st2 hnx ht hn => ⟨st2.hp, Over.refl rfl rfl, fun K2 => by rw [hv st2 ht K2, ← hnx]⟩⟩
  have run : valA P call o st (fun a st g => K (st.put o.dst a) g) = some r → (∀ st2 : St, (∀ t ∈ tmpsOf o all, get? st2.tm t = get? st.tm t) → ∀ K2 : St → Lg → Option α, stepA P call all o st2 K2 = valA P call o st2 fun a st g => K2 (st.put o.dst a) g) → ∃ a st' lg, K (st'.put o.dst a) lg = some r ∧ Alike st st' lg ∧
      ∀ st2, st2.nx = st.nx → (∀ t ∈ tmpsOf o all, get? st2.tm t = get? st.tm t) → Near lg st.hp st2.hp → ∃ h2', Over lg st.hp st'.hp st2.hp h2' ∧ ∀ K2 : St → Lg → Option α, stepA P call all o st2 K2 = K2 (St.put { st2 with hp := h2', nx := st'.nx } o.dst a) lg := fun hv hs => by
    obtain ⟨a, st', lg, k1, k2, k3⟩ := valA_loc hcall hv
    refine ⟨a, st', lg, k1, k2, fun st2 hnx ht hn => ?_⟩
    obtain ⟨h3, e1, e2⟩ := k3 st2 hnx (hev st2 ht) hn
    exact ⟨h3, e1, fun K2 => by rw [hs st2 ht K2, e2]⟩
  unfold stepA at hl
  simp only [Bool.cond_eq_ite] at hl
  split at hl
  · rename_i hg
    exact run hl fun st2 ht K2 => by simp only [stepA, hg]
  · rename_i j want hg
    split at hl
    · rename_i d hy
      exact skip hl fun st2 ht K2 => by simp only [stepA, hg, yieldA_loc hg ht, hy]
    · rename_i d b hy
      have hput : st.put (some d) (.v (.bool b)) = st := put_same (yieldA_get hy)
      cases want <;> cases b
      all_goals
        simp only [if_true, if_false, Bool.false_eq_true] at hl
        rw [hput] at hl
        first
          | exact skip hl fun st2 ht K2 => by
              have h2 := yieldA_loc (st2 := st2) hg ht
              simp only [stepA, hg, h2, hy, cond_true, cond_false]
              rw [put_same (yieldA_get (h2.trans hy))]
          | exact run hl fun st2 ht K2 => by
              have h2 := yieldA_loc (st2 := st2) hg ht
              simp only [stepA, hg, h2, hy, cond_true, cond_false]
              rw [put_same (yieldA_get (h2.trans hy))]
    · simp at hl

end
end Go.Abs

/-
  Regions that draw their order: the state after any operations that may have run.
-/
namespace Go.Abs

section
variable [D : Dom] [C : Coding] [O : Objs] {P : Program}

/-- What an operation did, in the text's order. -/
structure Dl where
  o : Oper
  pre : St
  a : AV
  post : St
  lg : Lg

def Dl.touch (d : Dl) (l : Nat) : Prop := l ∈ d.lg.wr ∨ l ∈ d.lg.nw

open Classical in
/-- The heap after the operations of I among the first. -/
noncomputable def hpI (I : Nat → Bool) (h0 : Hp) : Nat → List Dl → Hp
  | _, [] => h0
  | k, d :: ds => hpI I (fun l => if I k = true ∧ d.touch l then d.post.hp l else h0 l) (k + 1) ds

/-- The temporaries after them. -/
def tmI (I : Nat → Bool) : Nat → List Dl → List (Option AV) → List (Option AV)
  | _, [], tm => tm
  | k, d :: ds, tm => tmI I (k + 1) ds (match I k, d.o.dst with | true, some t => put' tm t (some d.a) | _, _ => tm)

omit C O in
/-- A place that none of them touches. -/
theorem hpI_out (I : Nat → Bool) : ∀ (ds : List Dl) (k : Nat) (h0 : Hp) (l : Nat), (∀ (j : Nat) (d : Dl), ds[j]? = some d → I (k + j) = true → ¬ d.touch l) → hpI I h0 k ds l = h0 l
  | [], _, _, _, _ => rfl
  | d :: ds, k, h0, l, hn => by
    rw [hpI, hpI_out I ds (k + 1) _ l fun j d' hj hI => hn (j + 1) d' (by simpa using hj) (by rw [← hI]; congr 1; omega)]
    have := hn 0 d rfl
    by_cases hI : I k = true
    · have := this (by simpa using hI)
      simp [this]
    · simp [hI]

omit C O in
/-- Two sets of operations leave the same at a place if they differ in none that touches it. -/
theorem hpI_agree (I J : Nat → Bool) : ∀ (ds : List Dl) (k : Nat) (h0 h1 : Hp) (l : Nat), h0 l = h1 l → (∀ (j : Nat) (d : Dl), ds[j]? = some d → d.touch l → I (k + j) = J (k + j)) → hpI I h0 k ds l = hpI J h1 k ds l
  | [], _, _, _, _, e, _ => e
  | d :: ds, k, h0, h1, l, e, hn => by
    rw [hpI, hpI]
    refine hpI_agree I J ds (k + 1) _ _ l ?_ fun j d' hj ht => by
      have := hn (j + 1) d' (by simpa using hj) ht
      have e1 : k + 1 + j = k + (j + 1) := by omega
      rw [e1]; exact this
    by_cases ht : d.touch l
    · have := hn 0 d rfl ht
      simp only [Nat.add_zero] at this
      simp only [this, ht, and_true]
      split
      · rfl
      · exact e
    · simp [ht, e]

omit C O in
/-- The same for a temporary. -/
theorem tmI_agree (I J : Nat → Bool) (t : Nat) : ∀ (ds : List Dl) (k : Nat) (tm0 tm1 : List (Option AV)), tm0.length = tm1.length → nth tm0 t = nth tm1 t → (∀ (j : Nat) (d : Dl), ds[j]? = some d → d.o.dst = some t → I (k + j) = J (k + j)) → nth (tmI I k ds tm0) t = nth (tmI J k ds tm1) t
  | [], _, _, _, _, e, _ => e
  | d :: ds, k, tm0, tm1, hlen, e, hn => by
    rw [tmI, tmI]
    have step : ∀ (b : Bool) (tm : List (Option AV)), (match b, d.o.dst with | true, some t => put' tm t (some d.a) | _, _ => tm).length = tm.length := fun b tm => by
      cases b <;> cases d.o.dst <;> simp [length_put']
    refine tmI_agree I J t ds (k + 1) _ _ (by rw [step, step]; exact hlen) ?_ fun j d' hj ht => by
      have := hn (j + 1) d' (by simpa using hj) ht
      have e1 : k + 1 + j = k + (j + 1) := by omega
      rw [e1]; exact this
    cases hd : d.o.dst with
    | none => cases I k <;> cases J k <;> exact e
    | some u =>
      by_cases hu : u = t
      · subst hu
        have := hn 0 d rfl hd
        simp only [Nat.add_zero] at this
        rw [this]
        cases J k
        · exact e
        · simp only [nth_put', hlen, e]
      · cases I k <;> cases J k <;> simp [nth_put', hu, e]

end
end Go.Abs

/-
  Regions that draw their order: the text's order, gone through, and what it tells of each operation.
-/
namespace Go.Abs

section
variable [D : Dom] [C : Coding] [O : Objs] {P : Program}

omit C O in
theorem put_hp (st : St) (d : Option Nat) (a : AV) : (st.put d a).hp = st.hp := by cases d <;> rfl
omit C O in
theorem put_fs (st : St) (d : Option Nat) (a : AV) : (st.put d a).fs = st.fs := by cases d <;> rfl
omit C O in
theorem put_nx (st : St) (d : Option Nat) (a : AV) : (st.put d a).nx = st.nx := by cases d <;> rfl

/-- An operation does the same wherever it finds the same. -/
def LocD (P : Program) {α : Type} (call : Nat → List AV → St → (AV → St → Lg → Option α) → Option α) (all : List Oper) (d : Dl) : Prop :=
  ∀ st2 : St, st2.nx = d.pre.nx → (∀ t ∈ tmpsOf d.o all, get? st2.tm t = get? d.pre.tm t) → Near d.lg d.pre.hp st2.hp →
    ∃ h2', Over d.lg d.pre.hp d.post.hp st2.hp h2' ∧ ∀ K2 : St → Lg → Option α, stepA P call all d.o st2 K2 = K2 (St.put { st2 with hp := h2', nx := d.post.nx } d.o.dst d.a) d.lg

/-- The operations one behind the other. -/
def Tr (P : Program) {α : Type} (call : Nat → List AV → St → (AV → St → Lg → Option α) → Option α) (all : List Oper) (base : Nat) : Nat → St → List Dl → St → Prop
  | _, st, [], st' => st' = st
  | i, st, d :: ds, st' => d.pre = { st with nx := base + 64 * i } ∧ d.post.nx ≤ base + 64 * (i + 1) ∧ Alike d.pre d.post d.lg ∧ LocD P call all d ∧ Tr P call all base (i + 1) (d.post.put d.o.dst d.a) ds st'

omit O in
theorem drawA_tr {α : Type} {call : Nat → List AV → St → (AV → St → Lg → Option α) → Option α} {r : α} (hcall : CallLoc call r) {all : List Oper} {base : Nat} :
    ∀ (os : List Oper) (i : Nat) (st : St) (gs : List (Oper × Lg)) (K : St → List (Oper × Lg) → Option α), drawA P call all base i os st gs K = some r →
      ∃ (ds : List Dl) (st' : St), ds.map (·.o) = os ∧ Tr P call all base i st ds st' ∧ K st' (gs ++ ds.map fun d => (d.o, d.lg)) = some r
  | [], i, st, gs, K, h => ⟨[], st, rfl, rfl, by simpa [drawA] using h⟩
  | o :: os, i, st, gs, K, h => by
    simp only [drawA] at h
    obtain ⟨a, st', lg, k1, k2, k3⟩ := stepA_loc hcall h
    cases hb : Nat.ble (st'.put o.dst a).nx (base + 64 * (i + 1)) <;> rw [hb] at k1
    · simp at k1
    · simp only [cond_true] at k1
      have hle := Nat.le_of_ble_eq_true hb
      rw [put_nx] at hle
      obtain ⟨ds, stf, e1, e2, e3⟩ := drawA_tr hcall os (i + 1) _ _ K k1
      refine ⟨⟨o, { st with nx := base + 64 * i }, a, st', lg⟩ :: ds, stf, by simp [e1], ⟨rfl, hle, k2, k3, e2⟩, ?_⟩
      simpa using e3

omit O in
theorem LocD.out {α : Type} {call : Nat → List AV → St → (AV → St → Lg → Option α) → Option α} {all : List Oper} {d : Dl} (hd : LocD P call all d) (l : Nat) (hl : ¬ d.touch l) : d.post.hp l = d.pre.hp l := by
  obtain ⟨h2, h3, _⟩ := hd d.pre rfl (fun _ _ => rfl) (fun _ _ => rfl)
  unfold Dl.touch at hl
  simp only [not_or] at hl
  exact (h3.out l hl.1 hl.2).1

omit C O in
theorem tmI_none (I : Nat → Bool) : ∀ (ds : List Dl) (k : Nat) (tm : List (Option AV)), (∀ (j : Nat) (d : Dl), ds[j]? = some d → I (k + j) = false) → tmI I k ds tm = tm
  | [], _, _, _ => rfl
  | d :: ds, k, tm, hn => by
    have h0 : I k = false := by simpa using hn 0 d rfl
    rw [tmI, h0]
    refine tmI_none I ds (k + 1) _ fun j d' hj => ?_
    have := hn (j + 1) d' (by simpa using hj)
    rw [show k + 1 + j = k + (j + 1) by omega]; exact this

omit C O in
theorem hpI_none (I : Nat → Bool) (ds : List Dl) (k : Nat) (h : Hp) (hn : ∀ (j : Nat) (d : Dl), ds[j]? = some d → I (k + j) = false) : hpI I h k ds = h := by
  funext l
  exact hpI_out I ds k h l fun j d hj hI => by rw [hn j d hj] at hI; simp at hI

omit C O in
/-- The same heap at the start. -/
theorem hpI_congr (I : Nat → Bool) (ds : List Dl) (k : Nat) (h h' : Hp) (e : h = h') : hpI I h k ds = hpI I h' k ds := by rw [e]

omit O in
/-- The first operation is among them. -/
theorem hpI_first {α : Type} {call : Nat → List AV → St → (AV → St → Lg → Option α) → Option α} {all : List Oper} (I : Nat → Bool) (d : Dl) (ds : List Dl) (k : Nat) (h : Hp) (hI : I k = true) (hd : LocD P call all d) (hh : d.pre.hp = h) : hpI I h k (d :: ds) = hpI I d.post.hp (k + 1) ds := by
  rw [hpI]
  congr 1
  funext l
  by_cases ht : d.touch l
  · simp [hI, ht]
  · simp only [ht, and_false, if_false]
    rw [← hh]; exact (hd.out l ht).symm

omit C O in
theorem tmI_first (I : Nat → Bool) (d : Dl) (ds : List Dl) (k : Nat) (st : St) (hI : I k = true) (ha : Alike d.pre d.post d.lg) (hp : d.pre.tm = st.tm) : tmI I k (d :: ds) st.tm = tmI I (k + 1) ds (d.post.put d.o.dst d.a).tm := by
  rw [tmI, hI]
  congr 1
  have e := ha.tm.trans hp
  cases d.o.dst with
  | none => simp [St.put, e]
  | some t => simp [St.put, e]

structure At (P : Program) {α : Type} (call : Nat → List AV → St → (AV → St → Lg → Option α) → Option α) (all : List Oper) (base : Nat) (st : St) (i : Nat) (ds : List Dl) (j : Nat) (d : Dl) : Prop where
  hp : d.pre.hp = hpI (fun k => decide (k < i + j)) st.hp i ds
  tm : d.pre.tm = tmI (fun k => decide (k < i + j)) i ds st.tm
  fs : d.pre.fs = st.fs
  nx : d.pre.nx = base + 64 * (i + j)
  le : d.post.nx ≤ base + 64 * (i + j + 1)
  alike : Alike d.pre d.post d.lg
  loc : LocD P call all d

omit O in
theorem Tr.at {α : Type} {call : Nat → List AV → St → (AV → St → Lg → Option α) → Option α} {all : List Oper} {base : Nat} : ∀ {ds : List Dl} {i : Nat} {st st' : St}, Tr P call all base i st ds st' → ∀ (j : Nat) (d : Dl), ds[j]? = some d → At P call all base st i ds j d
  | [], _, _, _, _, j, d, hj => by simp at hj
  | d0 :: ds, i, st, st', h, 0, d, hj => by
    obtain ⟨h1, h2, h3, h4, h5⟩ := h
    obtain rfl : d0 = d := by simpa using hj
    refine ⟨?_, ?_, by rw [h1], by rw [h1]; rfl, h2, h3, h4⟩
    · rw [hpI_none _ _ _ _ (fun j d _ => by simp), h1]
    · rw [tmI_none _ _ _ _ (fun j d _ => by simp), h1]
  | d0 :: ds, i, st, st', h, j + 1, d, hj => by
    obtain ⟨h1, h2, h3, h4, h5⟩ := h
    obtain ⟨k1, k2, k3, k4, k5, k6, k7⟩ := Tr.at h5 j d (by simpa using hj)
    have e : i + 1 + j = i + (j + 1) := by omega
    rw [e] at k1 k2 k4 k5
    refine ⟨?_, ?_, ?_, k4, k5, k6, k7⟩
    · rw [hpI_first _ _ _ _ _ (by simp) h4 (by rw [h1]), k1, put_hp]
    · rw [tmI_first _ _ _ _ st (by simp) h3 (by rw [h1]), k2]
    · rw [k3, put_fs, h3.fs, h1]

omit O in
theorem Tr.fin {α : Type} {call : Nat → List AV → St → (AV → St → Lg → Option α) → Option α} {all : List Oper} {base : Nat} (I : Nat → Bool) : ∀ {ds : List Dl} {i : Nat} {st st' : St}, Tr P call all base i st ds st' → (∀ j, j < ds.length → I (i + j) = true) →
    st'.hp = hpI I st.hp i ds ∧ st'.tm = tmI I i ds st.tm ∧ st'.fs = st.fs
  | [], _, _, _, h, _ => by cases h; exact ⟨rfl, rfl, rfl⟩
  | d0 :: ds, i, st, st', h, hI => by
    obtain ⟨h1, h2, h3, h4, h5⟩ := h
    have h0 : I i = true := by simpa using hI 0 (by simp)
    obtain ⟨k1, k2, k3⟩ := Tr.fin I h5 fun j hj => by
      have := hI (j + 1) (by simp; omega)
      rw [show i + 1 + j = i + (j + 1) by omega]; exact this
    refine ⟨?_, ?_, ?_⟩
    · rw [hpI_first _ _ _ _ _ h0 h4 (by rw [h1]), k1, put_hp]
    · rw [tmI_first _ _ _ _ st h0 h3 (by rw [h1]), k2]
    · rw [k3, put_fs, h3.fs, h1]

end
end Go.Abs

/-
  Regions that draw their order: what the checks on the logs say; the state after any operations that may have run.
-/
namespace Go.Abs

section
variable [D : Dom] [C : Coding] [O : Objs] {P : Program}

omit D C O in
theorem meetN_false {xs ys : List Nat} : meetN xs ys = false → ∀ l ∈ xs, l ∉ ys := by
  induction xs with
  | nil => intro _ l hl; simp at hl
  | cons x xs ih =>
    intro h l hl hy
    simp only [meetN] at h
    cases hx : memN x ys <;> rw [hx] at h
    · simp only [cond_false] at h
      rcases List.mem_cons.1 hl with rfl | hl
      · rw [memN_iff.2 hy] at hx; simp at hx
      · exact ih h l hl hy
    · simp at h

/-- They may be turned round. -/
structure Ap (all : List Oper) (d e : Dl) : Prop where
  de : ∀ l, d.touch l → ¬ (l ∈ e.lg.rd ∨ l ∈ e.lg.wr)
  ed : ∀ l, e.touch l → ¬ (l ∈ d.lg.rd ∨ l ∈ d.lg.wr)
  tde : ∀ t, d.o.dst = some t → t ∉ tmpsOf e.o all
  ted : ∀ t, e.o.dst = some t → t ∉ tmpsOf d.o all
  tt : ∀ t, d.o.dst = some t → e.o.dst ≠ some t

omit C O in
theorem Ap.symm {all : List Oper} {d e : Dl} (h : Ap all d e) : Ap all e d := ⟨h.ed, h.de, h.ted, h.tde, fun t h1 h2 => h.tt t h2 h1⟩

omit C O in
theorem apartA_ap {all : List Oper} {d e : Dl} (h : apartA all d.o d.lg e.o e.lg = true) : Ap all d e := by
  unfold apartA at h
  simp only [Bool.and_eq_true, Bool.not_eq_true'] at h
  obtain ⟨⟨⟨⟨⟨⟨_, _⟩, h1⟩, h2⟩, h3⟩, h4⟩, h5⟩ := h
  have a1 := meetN_false h1; have a2 := meetN_false h2; have a3 := meetN_false h3; have a4 := meetN_false h4; have a5 := meetN_false h5
  refine ⟨fun l hl => ?_, fun l hl => ?_, fun t ht => a1 t (by simp [ht]), fun t ht => a2 t (by simp [ht]), fun t ht ht' => a3 t (by simp [ht]) (by simp [ht'])⟩
  · have := a4 l (by simp only [List.mem_append]; exact hl)
    simpa only [List.mem_append] using this
  · have := a5 l (by simp only [List.mem_append]; exact hl)
    simpa only [List.mem_append] using this

omit D C O in
theorem pairsA_spec {all : List Oper} {bits : Nat} {y : Oper × Lg} : ∀ {xs : List (Oper × Lg)} {i : Nat}, pairsA all bits i xs y = true → ∀ (k : Nat) (x : Oper × Lg), xs[k]? = some x → Nat.testBit bits (i + k) = true ∨ apartA all x.1 x.2 y.1 y.2 = true
  | [], _, _, k, x, hx => by simp at hx
  | x0 :: xs, i, h, k, x, hx => by
    simp only [pairsA, Bool.and_eq_true, Bool.or_eq_true] at h
    cases k with
    | zero => simp at hx; subst hx; exact h.1
    | succ k =>
      have := pairsA_spec h.2 k x (by simpa using hx)
      rwa [show i + 1 + k = i + (k + 1) by omega] at this

omit D C O in
theorem okA_spec {all : List Oper} : ∀ {bs : List Nat} {done xs : List (Oper × Lg)}, okA all bs done xs = true → ∀ (j : Nat) (y : Oper × Lg), xs[j]? = some y →
    ∃ b, bs[j]? = some b ∧ ∀ (k : Nat) (x : Oper × Lg), (done ++ xs)[k]? = some x → k < done.length + j → Nat.testBit b k = true ∨ apartA all x.1 x.2 y.1 y.2 = true
  | _, _, [], _, j, y, hy => by simp at hy
  | [], done, x :: xs, h, _, _, _ => by simp [okA] at h
  | b :: bs, done, x :: xs, h, j, y, hy => by
    simp only [okA, Bool.and_eq_true] at h
    cases j with
    | zero =>
      obtain rfl : x = y := by simpa using hy
      refine ⟨b, rfl, fun k z hz hk => ?_⟩
      rw [List.getElem?_append_left (by omega)] at hz
      simpa using pairsA_spec h.1 k z hz
    | succ j =>
      obtain ⟨b', e1, e2⟩ := okA_spec h.2 j y (by simpa using hy)
      refine ⟨b', by simpa using e1, fun k z hz hk => e2 k z ?_ (by simp; omega)⟩
      rw [List.append_assoc]; exact hz

omit D C O in
theorem row_spec {acc : List Nat} {k : Nat} : ∀ {es : List Edge} {s : Nat}, Nat.testBit (es.foldl (fun s e => bif Region.binds .any e then Nat.lor (Nat.lor s (2 ^ e.on)) ((nth acc e.on).getD 0) else s) s) k = true →
    Nat.testBit s k = true ∨ ∃ e ∈ es, Region.binds .any e = true ∧ (k = e.on ∨ Nat.testBit ((nth acc e.on).getD 0) k = true)
  | [], s, h => .inl h
  | e :: es, s, h => by
    simp only [List.foldl_cons] at h
    rcases row_spec h with h | ⟨e', e1, e2, e3⟩
    · cases hb : Region.binds .any e <;> rw [hb] at h
      · exact .inl h
      · simp only [cond_true] at h
        change Nat.testBit ((s ||| 2 ^ e.on) ||| ((nth acc e.on).getD 0)) k = true at h
        simp only [Nat.testBit_or, Bool.or_eq_true, Nat.testBit_two_pow] at h
        rcases h with (h | h) | h
        · exact .inl h
        · exact .inr ⟨e, by simp, hb, .inl (of_decide_eq_true h).symm⟩
        · exact .inr ⟨e, by simp, hb, .inr h⟩
    · exact .inr ⟨e', by simp [e1], e2, e3⟩

/-- The orderings of an operation have run. -/
def Edges (I : Nat → Bool) (o : Oper) : Prop := ∀ e ∈ o.after.toList, Region.binds .any e = true → I e.on = true

omit C O in
omit D in
theorem aheadA_spec {I : Nat → Bool} {ops : List Oper} (hI : ∀ (j : Nat) (o : Oper), ops[j]? = some o → I j = true → Edges I o) : ∀ (os pre : List Oper) (acc : List Nat), ops = pre ++ os → acc.length = pre.length →
    (∀ (j b : Nat) (o : Oper), acc[j]? = some b → ops[j]? = some o → Edges I o → ∀ k, Nat.testBit b k = true → I k = true) →
    ∀ (j b : Nat) (o : Oper), (aheadA os acc)[j]? = some b → ops[j]? = some o → Edges I o → ∀ k, Nat.testBit b k = true → I k = true
  | [], pre, acc, he, hl, hq => by simpa [aheadA] using hq
  | o0 :: os, pre, acc, he, hl, hq => by
    rw [aheadA]
    refine aheadA_spec hI os (pre ++ [o0]) _ (by simp [he]) (by simp [hl]) fun j b o hb ho hE k hk => ?_
    by_cases hj : j < acc.length
    · rw [List.getElem?_append_left hj] at hb
      exact hq j b o hb ho hE k hk
    · rw [List.getElem?_append_right (by omega)] at hb
      have hj' : j = acc.length := by
        have := (List.getElem?_eq_some_iff.1 hb).1
        simp at this; omega
      subst hj'
      simp only [Nat.sub_self, List.getElem?_cons_zero, Option.some.injEq] at hb
      subst hb
      have ho0 : o0 = o := by
        rw [he, List.getElem?_append_right (by omega), hl] at ho
        simpa using ho
      subst ho0
      rcases row_spec hk with h | ⟨e, e1, e2, e3⟩
      · simp at h
      · have hIe := hE e e1 e2
        rcases e3 with rfl | e3
        · exact hIe
        · rw [nth_eq] at e3
          cases hb' : acc[e.on]? with
          | none => rw [hb'] at e3; simp at e3
          | some b' =>
            rw [hb'] at e3
            have hlt := (List.getElem?_eq_some_iff.1 hb').1
            have hlt' : e.on < ops.length := by rw [he]; simp; omega
            obtain ⟨o', ho'⟩ : ∃ o', ops[e.on]? = some o' := ⟨ops[e.on], List.getElem?_eq_getElem hlt'⟩
            exact hq e.on b' o' hb' ho' (hI e.on o' ho' hIe) k e3

omit D C O in
theorem backA_spec : ∀ {os : List Oper} {i : Nat}, backA i os = true → ∀ (j : Nat) (o : Oper), os[j]? = some o → ∀ e ∈ o.after.toList, Region.binds .any e = true → e.on < i + j
  | [], _, _, j, o, ho => by simp at ho
  | o0 :: os, i, h, j, o, ho => by
    simp only [backA, Bool.and_eq_true, List.all_eq_true] at h
    cases j with
    | zero =>
      obtain rfl : o0 = o := by simpa using ho
      intro e he hb
      have := h.1 e he
      rw [hb] at this
      simpa [Nat.blt_eq] using this
    | succ j =>
      intro e he hb
      have := backA_spec h.2 j o (by simpa using ho) e he hb
      omega

/-! the last one that touches -/
omit C O in
theorem hpI_last (I : Nat → Bool) : ∀ (ds : List Dl) (k : Nat) (h : Hp) (l j : Nat) (d : Dl), ds[j]? = some d → I (k + j) = true → d.touch l → (∀ (i : Nat) (d' : Dl), j < i → ds[i]? = some d' → I (k + i) = true → ¬ d'.touch l) → hpI I h k ds l = d.post.hp l
  | [], _, _, _, j, d, hj, _, _, _ => by simp at hj
  | d0 :: ds, k, h, l, 0, d, hj, hI, ht, hn => by
    obtain rfl : d0 = d := by simpa using hj
    rw [hpI, hpI_out I ds (k + 1) _ l fun i d' hi hI' => hn (i + 1) d' (by omega) (by simpa using hi) (by rw [← hI']; congr 1; omega)]
    have : I k = true := by simpa using hI
    simp [this, ht]
  | d0 :: ds, k, h, l, j + 1, d, hj, hI, ht, hn => by
    rw [hpI]
    refine hpI_last I ds (k + 1) _ l j d (by simpa using hj) (by rw [← hI]; congr 1; omega) ht fun i d' hi hd hI' => hn (i + 1) d' (by omega) (by simpa using hd) (by rw [← hI']; congr 1; omega)

omit C O in
theorem tmI_length (I : Nat → Bool) : ∀ (ds : List Dl) (k : Nat) (tm : List (Option AV)), (tmI I k ds tm).length = tm.length
  | [], _, _ => rfl
  | d :: ds, k, tm => by
    rw [tmI, tmI_length I ds]
    cases I k <;> cases d.o.dst <;> simp [length_put']

omit C O in
theorem tmI_out (I : Nat → Bool) (t : Nat) (ds : List Dl) (k : Nat) (tm : List (Option AV)) (hn : ∀ (j : Nat) (d : Dl), ds[j]? = some d → I (k + j) = true → d.o.dst ≠ some t) : nth (tmI I k ds tm) t = nth tm t := by
  have := tmI_agree I (fun _ => false) t ds k tm tm rfl rfl fun j d hj hd => by
    cases hI : I (k + j) with
    | false => rfl
    | true => exact absurd hd (hn j d hj hI)
  rw [this, tmI_none _ _ _ _ fun _ _ _ => rfl]

omit C O in
theorem tmI_last (I : Nat → Bool) (t : Nat) : ∀ (ds : List Dl) (k : Nat) (tm : List (Option AV)) (j : Nat) (d : Dl), ds[j]? = some d → I (k + j) = true → d.o.dst = some t → (∀ (i : Nat) (d' : Dl), j < i → ds[i]? = some d' → I (k + i) = true → d'.o.dst ≠ some t) → t < tm.length → nth (tmI I k ds tm) t = some (some d.a)
  | [], _, _, j, d, hj, _, _, _, _ => by simp at hj
  | d0 :: ds, k, tm, 0, d, hj, hI, ht, hn, hl => by
    obtain rfl : d0 = d := by simpa using hj
    rw [tmI, tmI_out I t ds (k + 1) _ fun i d' hi hI' => hn (i + 1) d' (by omega) (by simpa using hi) (by rw [← hI']; congr 1; omega)]
    have : I k = true := by simpa using hI
    rw [this, ht]
    simp [nth_put', hl]
  | d0 :: ds, k, tm, j + 1, d, hj, hI, ht, hn, hl => by
    rw [tmI]
    refine tmI_last I t ds (k + 1) _ j d (by simpa using hj) (by rw [← hI]; congr 1; omega) ht (fun i d' hi hd hI' => hn (i + 1) d' (by omega) (by simpa using hd) (by rw [← hI']; congr 1; omega)) ?_
    cases I k <;> cases d0.o.dst <;> simp [length_put', hl]

omit C O in
theorem ext_nth {l l' : List (Option AV)} (hl : l.length = l'.length) (h : ∀ t, t < l.length → nth l t = nth l' t) : l = l' := by
  refine List.ext_getElem? fun t => ?_
  by_cases ht : t < l.length
  · rw [← nth_eq, ← nth_eq]; exact h t ht
  · rw [List.getElem?_eq_none (by omega), List.getElem?_eq_none (by omega)]

end
end Go.Abs

/-
  Regions that draw their order: an operation that may run finds what it found in the text's order.
-/
namespace Go.Abs

section
variable [D : Dom] [C : Coding] [O : Objs] {P : Program}

/-- A region, gone through in the text's order, and checked. -/
structure Gone (P : Program) {α : Type} (call : Nat → List AV → St → (AV → St → Lg → Option α) → Option α) (ops : List Oper) (base : Nat) (st : St) (ds : List Dl) (st' : St) : Prop where
  o : ds.map (·.o) = ops
  tr : Tr P call ops base 0 st ds st'
  ok : okA ops (aheadA ops []) [] (ds.map fun d => (d.o, d.lg)) = true
  back : backA 0 ops = true

def Closed (ops : List Oper) (I : Nat → Bool) : Prop := ∀ (j : Nat) (o : Oper), ops[j]? = some o → I j = true → Edges I o

def addI (I : Nat → Bool) (j : Nat) : Nat → Bool := fun k => decide (k = j) || I k

variable {α : Type} {call : Nat → List AV → St → (AV → St → Lg → Option α) → Option α} {ops : List Oper} {base : Nat} {st st' : St} {ds : List Dl} {I : Nat → Bool}

omit O in
theorem Gone.op (G : Gone P call ops base st ds st') {j : Nat} {d : Dl} (hj : ds[j]? = some d) : ops[j]? = some d.o := by
  rw [← G.o, List.getElem?_map, hj]; rfl

omit O in
theorem Gone.at (G : Gone P call ops base st ds st') {j : Nat} {d : Dl} (hj : ds[j]? = some d) : At P call ops base st 0 ds j d := G.tr.at j d hj

omit O in
theorem Gone.apart (G : Gone P call ops base st ds st') (hI : Closed ops I) {j : Nat} {d : Dl} (hj : ds[j]? = some d) (hn : I j = false) (hE : Edges I d.o) (k : Nat) (e : Dl) (hk : ds[k]? = some e) (hkj : k ≠ j) (hne : I k ≠ decide (k < j)) : Ap ops e d := by
  have get : ∀ (i : Nat) (x : Dl), ds[i]? = some x → (ds.map fun d => (d.o, d.lg))[i]? = some (x.o, x.lg) := fun i x hx => by rw [List.getElem?_map, hx]; rfl
  have bits : ∀ (i b : Nat) (x : Dl), ds[i]? = some x → (aheadA ops [])[i]? = some b → Edges I x.o → ∀ k, Nat.testBit b k = true → I k = true := fun i b x hx hb hE k hk =>
    aheadA_spec hI ops [] [] rfl rfl (fun j b o h => by simp at h) i b x.o hb (G.op hx) hE k hk
  by_cases hlt : k < j
  · obtain ⟨b, b1, b2⟩ := okA_spec G.ok j _ (get j d hj)
    rcases b2 k (e.o, e.lg) (by simpa using get k e hk) (by simpa using hlt) with h | h
    · have := bits j b d hj b1 hE k h
      rw [this] at hne; simp [hlt] at hne
    · exact apartA_ap h
  · have hIk : I k = true := by
      cases hx : I k with
      | true => rfl
      | false => rw [hx] at hne; simp [hlt] at hne
    obtain ⟨b, b1, b2⟩ := okA_spec G.ok k _ (get k e hk)
    rcases b2 j (d.o, d.lg) (by simpa using get j d hj) (by simp; omega) with h | h
    · have := bits k b e hk b1 (hI k e.o (G.op hk) hIk) j h
      rw [hn] at this; simp at this
    · exact (apartA_ap h).symm

omit O in
theorem Gone.hp_in (G : Gone P call ops base st ds st') (hI : Closed ops I) {j : Nat} {d : Dl} (hj : ds[j]? = some d) (hn : I j = false) (hE : Edges I d.o) (l : Nat) (hl : l ∈ d.lg.rd ∨ l ∈ d.lg.wr) : hpI I st.hp 0 ds l = d.pre.hp l := by
  rw [(G.at hj).hp]
  refine hpI_agree _ _ ds 0 _ _ l rfl fun k e hk ht => ?_
  simp only [Nat.zero_add]
  by_cases hkj : k = j
  · subst hkj; rw [hn]; simp
  · exact Classical.byContradiction fun hne => (G.apart hI hj hn hE k e hk hkj hne).de l ht hl

omit O in
theorem Gone.tm_in (G : Gone P call ops base st ds st') (hI : Closed ops I) {j : Nat} {d : Dl} (hj : ds[j]? = some d) (hn : I j = false) (hE : Edges I d.o) (t : Nat) (hl : t ∈ tmpsOf d.o ops) : get? (tmI I 0 ds st.tm) t = get? d.pre.tm t := by
  rw [(G.at hj).tm]
  unfold get?
  rw [tmI_agree I _ t ds 0 st.tm st.tm rfl rfl fun k e hk ht => ?_]
  simp only [Nat.zero_add]
  by_cases hkj : k = j
  · subst hkj; rw [hn]; simp
  · exact Classical.byContradiction fun hne => (G.apart hI hj hn hE k e hk hkj hne).tde t ht hl

omit O in
theorem Gone.range (G : Gone P call ops base st ds st') {j : Nat} {d : Dl} (hj : ds[j]? = some d) {l : Nat} (hl : l ∈ d.lg.nw) : base + 64 * j ≤ l ∧ l < base + 64 * (j + 1) := by
  have h := G.at hj
  have h1 := h.alike.rng l hl
  have h2 := h.nx
  have h3 := h.le
  simp only [Nat.zero_add] at h2 h3
  omega

omit O in
theorem Gone.hp_out (G : Gone P call ops base st ds st') (hI : Closed ops I) {j : Nat} {d : Dl} (hj : ds[j]? = some d) (hn : I j = false) (hE : Edges I d.o) {h2 : Hp} (ho : Over d.lg d.pre.hp d.post.hp (hpI I st.hp 0 ds) h2) : h2 = hpI (addI I j) st.hp 0 ds := by
  funext l
  by_cases ht : d.touch l
  · rw [ho.inn l ht]
    refine (hpI_last (addI I j) ds 0 st.hp l j d hj (by simp [addI]) ht fun k e hk he hIk hte => ?_).symm
    simp only [Nat.zero_add, addI, Bool.or_eq_true, decide_eq_true_eq] at hIk
    have hIk : I k = true := hIk.resolve_left (by omega)
    have ap := G.apart hI hj hn hE k e he (by omega) (by rw [hIk]; simp; omega)
    rcases ht with ht | ht
    · exact ap.de l hte (.inr ht)
    · rcases hte with hte | hte
      · exact ap.ed l (.inr ht) (.inr hte)
      · have := G.range hj ht
        have := G.range he hte
        omega
  · have := ho.out l (fun x => ht (.inl x)) (fun x => ht (.inr x))
    rw [this.2]
    refine hpI_agree _ _ ds 0 _ _ l rfl fun k e hk hte => ?_
    simp only [Nat.zero_add, addI]
    have : k ≠ j := fun e' => by subst e'; rw [hj] at hk; cases hk; exact ht hte
    simp [this]

omit O in
theorem Gone.tm_out (G : Gone P call ops base st ds st') (hI : Closed ops I) {j : Nat} {d : Dl} (hj : ds[j]? = some d) (hn : I j = false) (hE : Edges I d.o) (x : St) (hx : x.tm = tmI I 0 ds st.tm) : (x.put d.o.dst d.a).tm = tmI (addI I j) 0 ds st.tm := by
  refine ext_nth ?_ fun t ht => ?_
  · rw [tmI_length]
    cases d.o.dst <;> simp [St.put, length_put', hx, tmI_length]
  · have hlen : t < st.tm.length := by
      revert ht
      cases d.o.dst <;> simp [St.put, length_put', hx, tmI_length]
    have same : (∀ u, d.o.dst = some u → u ≠ t) → nth (tmI I 0 ds st.tm) t = nth (tmI (addI I j) 0 ds st.tm) t := fun hne => by
      refine tmI_agree _ _ t ds 0 _ _ rfl rfl fun k e hk hte => ?_
      simp only [Nat.zero_add, addI]
      have : k ≠ j := fun e' => by subst e'; rw [hj] at hk; cases hk; exact hne t hte rfl
      simp [this]
    cases hd : d.o.dst with
    | none =>
      show nth x.tm t = _
      rw [hx]
      exact same fun u hu => by rw [hd] at hu; simp at hu
    | some u =>
      show nth (put' x.tm u (some d.a)) t = _
      rw [nth_put', hx, tmI_length]
      by_cases hu : u = t
      · subst hu
        rw [if_pos ⟨rfl, hlen⟩]
        refine (tmI_last (addI I j) u ds 0 st.tm j d hj (by simp [addI]) hd (fun k e hk he hIk hte => ?_) hlen).symm
        simp only [Nat.zero_add, addI, Bool.or_eq_true, decide_eq_true_eq] at hIk
        have hIk : I k = true := hIk.resolve_left (by omega)
        exact (G.apart hI hj hn hE k e he (by omega) (by rw [hIk]; simp; omega)).tt u hte hd
      · rw [if_neg (fun h => hu h.1)]
        exact same fun u' hu' => by rw [hd] at hu'; cases hu'; exact hu

omit O in
/-- The operation runs from what the others left to what it and they leave. -/
theorem Gone.step (G : Gone P call ops base st ds st') (hI : Closed ops I) {j : Nat} {d : Dl} (hj : ds[j]? = some d) (hn : I j = false) (hE : Edges I d.o) :
    ∀ K2 : St → Lg → Option α, stepA P call ops d.o { tm := tmI I 0 ds st.tm, fs := st.fs, hp := hpI I st.hp 0 ds, nx := base + 64 * j } K2 = K2 { tm := tmI (addI I j) 0 ds st.tm, fs := st.fs, hp := hpI (addI I j) st.hp 0 ds, nx := d.post.nx } d.lg := by
  have h := G.at hj
  obtain ⟨h2, o1, o2⟩ := h.loc { tm := tmI I 0 ds st.tm, fs := st.fs, hp := hpI I st.hp 0 ds, nx := base + 64 * j } (by rw [h.nx]; simp) (fun t ht => G.tm_in hI hj hn hE t ht) (fun l hl => G.hp_in hI hj hn hE l hl)
  intro K2
  rw [o2 K2]
  congr 1
  have e1 := G.hp_out hI hj hn hE o1
  have e2 := G.tm_out hI hj hn hE { tm := tmI I 0 ds st.tm, fs := st.fs, hp := h2, nx := d.post.nx } rfl
  subst e1
  have : ∀ x y : St, x.tm = y.tm → x.fs = y.fs → x.hp = y.hp → x.nx = y.nx → x = y := fun x y a b c d => by cases x; cases y; simp_all
  exact this _ _ e2 (put_fs _ _ _) (put_hp _ _ _) (put_nx _ _ _)

end
end Go.Abs

/-
  Regions that draw their order: soundness.
-/
namespace Go.Abs

section
variable [D : Dom] [C : Coding] [O : Objs] {P : Program}
variable {B : Base} {F : FS} {cfs : List (Array Value)} {ok : Nat → Prop} {μ : Nat → Pl} {tmps : Array Value} {w w' : World}

omit D C O in
theorem keeps_same (hh : w'.heap = w.heap) : Keeps ok w w' := fun b _ o => by simp [World.cell?, hh]

omit O in
theorem Sim.world {st : St} (hs : Sim B F cfs ok μ st tmps w) (hh : w'.heap = w.heap) (h1 : w'.os = w.os) (h2 : w'.tape = w.tape) (h3 : w'.output = w.output) : Sim B F cfs ok μ st tmps w' := by
  have hk : Keeps ok w w' := keeps_same hh
  refine ⟨⟨⟨h1.trans hs.heap.goes.os, h2.trans hs.heap.goes.tape, h3.trans hs.heap.goes.output, by rw [hh]; exact hs.heap.goes.size, fun b hb hm => by rw [hh]; exact hs.heap.goes.block b hb hm⟩, fun l => ?_, hs.heap.inj, hs.heap.nok, fun b hb => by rw [hh]; exact hs.heap.okb b hb, hs.heap.okm, hs.heap.oko⟩, ?_, ?_, hs.fresh⟩
  · exact (hs.heap.rep l).mono hk (fun _ x => x) (fun _ _ => rfl) fun _ _ _ => by rw [hh]
  · exact hs.tm.mono hk (fun _ x => x) fun _ _ => rfl
  · exact hs.fs.mono hk (fun _ x => x) fun _ _ => rfl

/-- Which operations have run. -/
def ran (listed : Array Bool) : Nat → Bool := fun k => listed.getD k false

omit D C O in
theorem ready_spec {ops : Array Oper} {listed : Array Bool} {i : Nat} (hsz : listed.size = ops.size) (hi : i ∈ Region.ready .any ops listed) : ∃ o, ops[i]? = some o ∧ i < ops.size ∧ ran listed i = false ∧ Edges (ran listed) o := by
  unfold Region.ready at hi
  rw [List.mem_filter] at hi
  obtain ⟨h1, h2⟩ := hi
  have hlt : i < ops.size := by simpa using h1
  simp only [Bool.and_eq_true, Bool.not_eq_true'] at h2
  obtain ⟨h2, h3⟩ := h2
  have ho : ops[i]? = some ops[i] := Array.getElem?_eq_getElem hlt
  refine ⟨ops[i], ho, hlt, ?_, fun e he hb => ?_⟩
  · have hlt' : i < listed.size := by omega
    simp only [Array.getD_eq_getD_getElem?, Array.getElem?_eq_getElem hlt', Option.getD_some, ran] at h2 ⊢
    exact h2
  · rw [ho] at h3
    simp only [Option.map_some, Option.getD_some, Array.all_eq_true'] at h3
    have := h3 e (by simpa using he)
    rw [hb] at this
    simpa [ran] using this

omit D C O in
theorem ready_nil {ops : Array Oper} {listed : Array Bool} (hsz : listed.size = ops.size) (hb : backA 0 ops.toList = true) (hr : Region.ready .any ops listed = []) : ∀ i, i < ops.size → ran listed i = true := by
  intro i
  induction i using Nat.strongRecOn with
  | ind i ih =>
    intro hlt
    cases hx : ran listed i with
    | true => rfl
    | false =>
      exfalso
      have hlt' : i < listed.size := by omega
      have ho : ops[i]? = some ops[i] := Array.getElem?_eq_getElem hlt
      have : i ∈ Region.ready .any ops listed := by
        unfold Region.ready
        rw [List.mem_filter]
        refine ⟨by simp [hlt], ?_⟩
        simp only [ran, Array.getD_eq_getD_getElem?, Array.getElem?_eq_getElem hlt', Option.getD_some] at hx
        rw [ho]
        simp only [Array.getD_eq_getD_getElem?, Array.getElem?_eq_getElem hlt', Option.getD_some, hx, Bool.not_false, Bool.true_and, Option.map_some, Array.all_eq_true']
        intro e he
        cases hbd : Region.binds .any e with
        | false => rfl
        | true =>
          have hlt2 := backA_spec hb i ops[i] (by simp) e (by simpa using he) hbd
          have := ih e.on (by omega) (by omega)
          simpa [ran] using this
      rw [hr] at this
      simp at this

omit D C O in
theorem ran_set {listed : Array Bool} {j : Nat} (hj : j < listed.size) : ran (listed.setIfInBounds j true) = addI (ran listed) j := by
  funext k
  simp only [ran, addI, Array.getD_eq_getD_getElem?, Array.getElem?_setIfInBounds]
  by_cases h : j = k
  · subst h; simp [hj]
  · have : ¬ k = j := fun e => h e.symm
    simp [h, this]

/-- How many have not run. -/
def left (n : Nat) (I : Nat → Bool) : Nat := ((List.range n).filter fun i => !I i).length

omit D C O in
theorem left_lt {n j : Nat} {I : Nat → Bool} (hj : j < n) (hn : I j = false) : left n (addI I j) < left n I := by
  unfold left
  have : ((List.range n).filter fun i => !addI I j i) = ((List.range n).filter fun i => !I i).filter fun i => i ≠ j := by
    rw [List.filter_filter]
    congr 1
    funext i
    simp only [addI, Bool.not_or, ne_eq, decide_not]
  rw [this]
  refine List.length_filter_lt_length_iff_exists.2 ⟨j, ?_, by simp⟩
  rw [List.mem_filter]
  exact ⟨by simpa using hj, by simp [hn]⟩

/-- The places that may be taken: those of the operations that have not run; from top on. -/
def freeI (n base : Nat) (I : Nat → Bool) (lo : Nat) : FS := ⟨fun l => base + 64 * n ≤ l ∨ ∃ k, k < n ∧ I k = false ∧ base + 64 * k ≤ l ∧ l < base + 64 * (k + 1), lo⟩

omit O in
theorem draw_any [L : Lawful P] {α : Type} {call : Nat → List AV → St → (AV → St → Lg → Option α) → Option α} {r : α} (hcall : ∀ F, CallOK P F call r) {ops : Array Oper} {st st' : St} {ds : List Dl} (G : Gone P call ops.toList st.nx st ds st') {dfs : List Deferred} {Q : Exit → Act → World → Prop}
    (hQ : ∀ ok μ t w, Sim B All cfs ok μ { st' with nx := st.nx + 64 * ds.length } t w → Q .normal ⟨t, dfs⟩ w) :
    ∀ (fuel : Nat) (listed : Array Bool) (ok : Nat → Prop) (μ : Nat → Pl) (tmps : Array Value) (w : World), listed.size = ops.size → left ops.size (ran listed) ≤ fuel → Closed ops.toList (ran listed) →
      Sim B (freeI ops.size st.nx (ran listed) (st.nx + 64 * ops.size)) cfs ok μ { tm := tmI (ran listed) 0 ds st.tm, fs := st.fs, hp := hpI (ran listed) st.hp 0 ds, nx := st.nx + 64 * ops.size } tmps w →
      wpAny P .any ops Q fuel listed ⟨tmps, dfs⟩ w := by
  have hlen : ds.length = ops.size := by have := congrArg List.length G.o; simpa using this
  have fin : ∀ (listed : Array Bool) (ok : Nat → Prop) (μ : Nat → Pl) (tmps : Array Value) (w : World), listed.size = ops.size → Region.ready .any ops listed = [] →
      Sim B (freeI ops.size st.nx (ran listed) (st.nx + 64 * ops.size)) cfs ok μ { tm := tmI (ran listed) 0 ds st.tm, fs := st.fs, hp := hpI (ran listed) st.hp 0 ds, nx := st.nx + 64 * ops.size } tmps w → Q .normal ⟨tmps, dfs⟩ w := by
    intro listed ok μ tmps w hsz hr hs
    have hall := ready_nil hsz G.back hr
    obtain ⟨f1, f2, f3⟩ := G.tr.fin (ran listed) fun j hj => by rw [Nat.zero_add]; exact hall j (by omega)
    refine hQ ok μ tmps w ?_
    rw [← f1, ← f2, ← f3] at hs
    refine ⟨hs.heap, hs.tm, hs.fs, Nat.zero_le _, fun l hl _ => ?_⟩
    have hl : st.nx + 64 * ds.length ≤ l := hl.resolve_right (Nat.not_lt_zero l)
    rw [hlen] at hl
    exact hs.fresh.2 l (.inl hl) (.inl hl)
  intro fuel
  induction fuel with
  | zero =>
    intro listed ok μ tmps w hsz hleft hcl hs
    have hr : Region.ready .any ops listed = [] := by
      cases hr : Region.ready .any ops listed with
      | nil => rfl
      | cons i is =>
        exfalso
        obtain ⟨o, _, hlt, hn, _⟩ := ready_spec hsz (i := i) (by rw [hr]; simp)
        have := left_lt hlt hn
        omega
    exact ⟨hr, fin listed ok μ tmps w hsz hr hs⟩
  | succ fuel ih =>
    intro listed ok μ tmps w hsz hleft hcl hs
    refine ⟨fun hr => fin listed ok μ tmps w hsz hr hs, fun j hj => ?_⟩
    obtain ⟨o, ho, hlt, hn, hE⟩ := ready_spec hsz hj
    obtain ⟨d, hd⟩ : ∃ d, ds[j]? = some d := ⟨ds[j]'(by omega), List.getElem?_eq_getElem (by omega)⟩
    have hod : d.o = o := by
      have := G.op hd
      rw [Array.getElem?_toList, ho] at this
      exact (Option.some.inj this).symm
    subst hod
    have hstep := G.step hcl hd hn hE
    have hat := G.at hd
    have hnx : st.nx + 64 * j ≤ d.post.nx := by have := hat.alike.nx; rw [hat.nx] at this; simpa using this
    have hle : d.post.nx ≤ st.nx + 64 * (j + 1) := by simpa using hat.le
    have hs1 : Sim B (freeI ops.size st.nx (ran listed) (st.nx + 64 * j)) cfs ok μ { tm := tmI (ran listed) 0 ds st.tm, fs := st.fs, hp := hpI (ran listed) st.hp 0 ds, nx := st.nx + 64 * j } tmps w :=
      ⟨hs.heap, hs.tm, hs.fs, Nat.le_refl _, fun l hl hF => hs.fresh.2 l (by simp only [freeI]; omega) hF⟩
    unfold wpOp
    rw [ho]
    simp only
    let K2 : St → Lg → Option α := fun s _ => open Classical in if s = { tm := tmI (addI (ran listed) j) 0 ds st.tm, fs := st.fs, hp := hpI (addI (ran listed) j) st.hp 0 ds, nx := d.post.nx } then some r else none
    have hK2 : ∀ s g, K2 s g = some r → s = { tm := tmI (addI (ran listed) j) 0 ds st.tm, fs := st.fs, hp := hpI (addI (ran listed) j) st.hp 0 ds, nx := d.post.nx } := fun s g h => by
      simp only [K2] at h
      split at h
      · assumption
      · simp at h
    have hrun : stepA P call ops.toList d.o { tm := tmI (ran listed) 0 ds st.tm, fs := st.fs, hp := hpI (ran listed) st.hp 0 ds, nx := st.nx + 64 * j } K2 = some r := by
      rw [hstep K2]
      simp [K2]
    have hjs : j < listed.size := by omega
    have key := stepA_sound (Q := Q) (next := wpAny P .any ops Q fuel (listed.setIfInBounds j true)) (hcall _) hrun hs1 (fun s g hk l l1 l2 => by
      rw [hK2 s g hk] at l2
      have l1 : st.nx + 64 * j ≤ l := l1
      have l2 : l < d.post.nx := l2
      exact .inr ⟨j, hlt, hn, l1, by omega⟩) dfs fun s g ok' μ' t w' hk hs' => by
        rw [hK2 s g hk] at hs'
        refine ih (listed.setIfInBounds j true) ok' μ' t w' (by simpa using hsz) ?_ ?_ ?_
        · rw [ran_set hjs]
          have := left_lt hlt hn
          omega
        · rw [ran_set hjs]
          intro i oi hoi hi e he hb
          simp only [addI, Bool.or_eq_true, decide_eq_true_eq] at hi ⊢
          rcases hi with rfl | hi
          · rw [Array.getElem?_toList, ho] at hoi
            cases hoi
            exact .inr (hE e he hb)
          · exact .inr (hcl i oi hoi hi e he hb)
        · rw [ran_set hjs]
          refine ⟨hs'.heap, hs'.tm, hs'.fs, Nat.le_refl _, fun l hl hF => ?_⟩
          have hF' : (freeI ops.size st.nx (ran listed) (st.nx + 64 * j)).p l ∧ (l < st.nx + 64 * j ∨ d.post.nx ≤ l) := by
            rcases hF with hF | ⟨k, k1, k2, k3, k4⟩
            · exact ⟨.inl hF, by omega⟩
            · simp only [addI, Bool.or_eq_false_iff, decide_eq_false_iff_not] at k2
              exact ⟨.inr ⟨k, k1, k2.2, k3, k4⟩, by omega⟩
          exact hs'.fresh.2 l hF'.2.symm hF'.1
    split
    · rename_i hw
      rw [if_pos hw] at key
      exact .inl key
    · rename_i hw
      rw [if_neg hw] at key
      exact key

omit O in
/-- A region that draws its order does what it does in the text's order. -/
theorem draw_ok [L : Lawful P] (hm : P.follows .mixedOrders = true) {α : Type} {call : Nat → List AV → St → (AV → St → Lg → Option α) → Option α} {r : α} (hcall : ∀ F, CallOK P F call r) (hloc : CallLoc call r) : DrawOK P call r := by
  intro B cfs ops id st K ok μ tmps w dfs Q h hs hK
  obtain ⟨ds, st', e1, e2, e3⟩ := drawA_tr hloc _ _ _ _ _ h
  simp only [List.nil_append] at e3
  cases hc : (backA 0 ops.toList && okA ops.toList (aheadA ops.toList []) [] (ds.map fun d => (d.o, d.lg))) <;> rw [hc] at e3
  · simp at e3
  · simp only [cond_true, List.length_map] at e3
    rw [Bool.and_eq_true] at hc
    have G : Gone P call ops.toList st.nx st ds st' := ⟨e1, e2, hc.2, hc.1⟩
    refine wp_region_any hm ?_
    have hI : ran (Array.replicate ops.size false) = fun _ => false := by
      funext k
      simp only [ran, Array.getD_eq_getD_getElem?, Array.getElem?_replicate]
      split <;> rfl
    refine draw_any hcall G (fun ok μ t w hs => hK _ _ _ _ _ e3 hs) ops.size _ ok μ tmps _ (by simp) ?_ ?_ ?_
    · unfold left
      exact Nat.le_trans (List.length_filter_le _ _) (by simp)
    · rw [hI]; intro j o _ h; simp at h
    · rw [hI, hpI_none _ _ _ _ (fun _ _ _ => rfl), tmI_none _ _ _ _ (fun _ _ _ => rfl)]
      have hs2 : Sim B All cfs ok μ st tmps { w with drawn := w.drawn + 1 } := hs.world rfl rfl rfl rfl
      exact ⟨hs2.heap, hs2.tm, hs2.fs, Nat.le_refl _, fun l _ hF => hs2.fresh.2 l (.inl (by rcases hF with hF | ⟨k, _, _, k3, _⟩ <;> omega)) trivial⟩

/-- The same, of calls by contracts. -/
theorem drawD_ok (L : Lawful P) (LO : LawfulO) (hm : P.follows .mixedOrders = true) {Γ : Nat → Option Ctr} (hΓ : AllGood P Γ) {α : Type} (r : α) : DrawOK P (callD Γ) r :=
  draw_ok hm (fun _ => callD_ok L LO hΓ r) (callD_loc Γ r)

end
end Go.Abs

/-
  Functions in pieces: what is left to do at a place of the code, under a name; loops.
-/
namespace Go.Abs

section
variable [D : Dom] [C : Coding] [O : Objs]

def bodyOf (f : Func) : Code := f.body.getD .skip

/-- The code at a place. -/
def codeAt : Code → List Bool → Code
  | .seq a _, false :: p => codeAt a p
  | .seq _ b, true :: p => codeAt b p
  | .cond _ a _, false :: p => codeAt a p
  | .cond _ _ b, true :: p => codeAt b p
  | .block _ b, _ :: p => codeAt b p
  | .loop b, _ :: p => codeAt b p
  | c, _ => c

def opsOf : Code → List Oper
  | .region _ ops _ => ops.toList
  | _ => []

def loopOf : Code → Code
  | .loop b => b
  | _ => .skip

/-- What is left to do behind a place. -/
def contAt {α : Type} (run : Code → St → (Ex → St → Option α) → Option α) : Code → List Bool → (Ex → St → Option α) → Ex → St → Option α
  | .seq a b, false :: p, K => contAt run a p fun e st => match e with
    | .normal => run b st K
    | e => K e st
  | .seq _ b, true :: p, K => contAt run b p K
  | .cond _ a _, false :: p, K => contAt run a p K
  | .cond _ _ b, true :: p, K => contAt run b p K
  | .block id b, _ :: p, K => contAt run b p fun e st => match e with
    | .exit i => bif Nat.beq i id then K .normal st else K (.exit i) st
    | e => K e st
  | .loop b, _ :: p, K => contAt run b p K
  | _, _, K => K

/-- What a function is gone through with. -/
structure Cfg where
  P : Program
  Γ : Nat → Option Ctr
  ann : Nat → Ann
  inl : List Nat

variable {α : Type}

def Cfg.call (c : Cfg) (d : Nat) : Nat → List AV → St → (AV → St → Lg → Option α) → Option α := callA c.P c.Γ c.ann c.inl d

def Cfg.run (c : Cfg) (d g : Nat) : Code → St → (Ex → St → Option α) → Option α := runA c.P (callA c.P c.Γ c.ann c.inl d) (callD c.Γ) (c.ann g).fuel (c.ann g).keep

def Cfg.keep (c : Cfg) (g : Nat) (b : Code) : List Nat := (c.ann g).keep ((keyC b).getD 0)

def Cfg.loopN (c : Cfg) (d g : Nat) (b : Code) (n : Nat) (st : St) (K : Ex → St → Option α) : Option α := iterA (c.keep g b) (c.run d g b) n st K

def Cfg.loop (c : Cfg) (d g : Nat) (b : Code) (st : St) (K : Ex → St → Option α) : Option α := c.loopN d g b ((c.ann g).fuel ((keyC b).getD 0)) st K

def scopeOf : Code → Code
  | .seq _ (.scope b) => b
  | _ => .skip

def restOf (b : Code) : Code := (findLabel b (labelOf b)).getD .skip

def Cfg.jumpN (c : Cfg) (d g : Nat) (b : Code) (n : Nat) (st : St) (K : Ex → St → Option α) : Option α := jumpA ((c.ann g).keep 1000) (labelOf b) (c.run d g (restOf b)) n st K

def Cfg.jump (c : Cfg) (d g : Nat) (b : Code) (st : St) (K : Ex → St → Option α) : Option α := c.jumpN d g b ((c.ann g).fuel 1000) st K

def Cfg.jumpK (c : Cfg) (g : Nat) (b : Code) (K1 : St → Option α) (K : Ex → St → Option α) : Ex → St → Option α := fun e st => match e with
  | .goto l => bif Nat.beq l (labelOf b) then K1 (gcA ((c.ann g).keep 1000) st) else none
  | e => K e st

def Cfg.cont (c : Cfg) (d g : Nat) (b : Code) (p : List Bool) (K : Ex → St → Option α) : Ex → St → Option α := contAt (c.run d g) b p K

/-- At a round's end. -/
def Cfg.roundK (c : Cfg) (g : Nat) (b : Code) (K1 : St → Option α) (K2 : Ex → St → Option α) : Ex → St → Option α := fun e st => match e with
  | .normal => K1 (gcA (c.keep g b) st)
  | e => K2 e (gcA (c.keep g b) st)

/-- Behind a call in a region: the rest of the region. -/
def Cfg.opK (c : Cfg) (d : Nat) (all : List Oper) (i : Nat) (K : Ex → St → Option α) : AV → St → Lg → Option α := fun a st _ =>
  match dropN i all with
  | o :: rest => opsA c.P (callA c.P c.Γ c.ann c.inl d) all rest (st.put o.dst a) (K .normal)
  | [] => none

/-- Behind the end of a function that is gone into. -/
def Cfg.retK (c : Cfg) (fn : Func) (K : AV → St → Lg → Option α) : Ex → St → Option α := fun e st' => match e, st'.fs with
  | .exit _, _ => none
  | .goto _, _ => none
  | _, tm :: fs => match resA c.P st' fn.results.toList with
    | some rs => K (oneOf rs) { tm := tm, fs := fs, hp := st'.hp, nx := st'.nx } { opq := true }
    | none => none
  | _, [] => none

/-- Behind the end of the function itself. -/
def Cfg.finK (c : Cfg) (fn : Func) (modes rmodes : List Mode) : Ex → St → Option (List MC × List MC) := fun e st => match e, st.fs with
  | .exit _, _ => none
  | .goto _, _ => none
  | _, [tm] => match resA c.P st fn.results.toList with
    | some rs => match takeMs rmodes rs st.hp with
      | some (ms, h, _) => match argsT tm with
        | some as => match finMs modes as h with
          | some fs => some (ms, fs)
          | none => none
        | none => none
      | none => none
    | none => none
  | _, _ => none

def Cfg.runF (c : Cfg) (d g : Nat) (modes rmodes : List Mode) (ms : List MC) : Option (List MC × List MC) := Abs.runF c.P c.Γ c.ann c.inl d g modes rmodes ms

theorem Cfg.loopN_succ (c : Cfg) (d g : Nat) (b : Code) (n : Nat) (st : St) (K : Ex → St → Option α) : c.loopN d g b (n + 1) st K = c.run d g b st (c.roundK g b (fun st => c.loopN d g b n st K) K) := by
  simp only [Cfg.loopN, iterA, Cfg.roundK]
  rfl

theorem Cfg.jumpN_succ (c : Cfg) (d g : Nat) (b : Code) (n : Nat) (st : St) (K : Ex → St → Option α) : c.jumpN d g b (n + 1) st K = c.run d g (restOf b) st (c.jumpK g b (fun st => c.jumpN d g b n st K) K) := by
  simp only [Cfg.jumpN, jumpA, Cfg.jumpK]
  rfl

def fr (n : Nat) : List (Nat × AV) → List (Option AV)
  | [] => List.replicate n none
  | (i, a) :: r => put' (fr n r) i (some a)

abbrev int64 (n : Int) : AV := .v (.int .i64 n)
abbrev vb (b : Bool) : AV := .v (.bool b)

/-- Contracts of a list. -/
def lookC : List (Nat × Ctr) → Nat → Option Ctr
  | [], _ => none
  | (i, c) :: r, g => bif Nat.beq i g then some c else lookC r g

theorem lookC_nil {P : Program} : AllGood P (lookC []) := fun g c h => by simp [lookC] at h

theorem lookC_cons {P : Program} {i : Nat} {c : Ctr} {r : List (Nat × Ctr)} (h : Good P i c) (hr : AllGood P (lookC r)) : AllGood P (lookC ((i, c) :: r)) := fun g c' hg => by
  simp only [lookC] at hg
  cases hb : Nat.beq i g <;> rw [hb] at hg
  · exact hr g c' hg
  · simp only [cond_true, Option.some.injEq] at hg
    have := Nat.eq_of_beq_eq_true hb
    subst this; subst hg; exact h

def entersB (P : Program) (g : Nat) : Bool := match P.funcs[g]? with
  | some fn => !(fn.name == "runtime.NumGoroutine") && fn.body.isSome
  | none => false

omit D C O in
theorem entersB_ok {P : Program} {g : Nat} (h : entersB P g = true) (args : Array Value) (w : World) : (callFunc g args).run P w = .ok (.enter g args) w := by
  unfold entersB at h
  split at h
  · rename_i fn hf
    simp only [Bool.and_eq_true, Bool.not_eq_true', Option.isSome_iff_exists] at h
    obtain ⟨h1, b, hb⟩ := h
    have h1 : fn.name ≠ "runtime.NumGoroutine" := by simpa using h1
    simp [callFunc, hf, h1, hb, mark]
  · simp at h

/-- A function that was gone through has its contract. -/
theorem Cfg.good (c : Cfg) (L : Lawful c.P) (LO : LawfulO) (hm : c.P.follows .mixedOrders = true) {d g : Nat} {ct : Ctr} {r : List Mode} (hΓ : AllGood c.P c.Γ) (hE : (g :: c.inl).all (entersB c.P) = true)
    (hf : ∀ ms, ct.pre ms = true → c.runF d g ct.modes r ms = some (ct.f ms)) : Good c.P g ct := by
  rw [List.all_eq_true] at hE
  exact runF_good L LO hΓ c.ann (fun x hx args w => entersB_ok (hE x (List.mem_cons_of_mem _ hx)) args w) (fun x hx args w => entersB_ok (hE x (by simp at hx; simp [hx])) args w) (fun r => drawD_ok L LO hm hΓ r) fun ms hp _ => hf ms hp

/-- A loop over a list: the rounds one behind the other. -/
def walk {β X : Type} (step : β → Nat → X → β ⊕ (Ex × St)) (fin : β → Ex × St) : β → Nat → List X → Ex × St
  | a, _, [] => fin a
  | a, i, x :: xs => match step a i x with
    | .inl a => walk step fin a (i + 1) xs
    | .inr r => r

theorem Cfg.loop_walk {β X : Type} (c : Cfg) (d g : Nat) (b : Code) (xs : List X) (S : β → Nat → St) (step : β → Nat → X → β ⊕ (Ex × St)) (fin : β → Ex × St) (inv : β → Nat → Prop)
    (hr : ∀ a i x, inv a i → xs[i]? = some x → ∀ (K1 : St → Option α) (K2 : Ex → St → Option α), (∀ a', step a i x = .inl a' → inv a' (i + 1)) ∧
      c.run d g b (S a i) (c.roundK g b K1 K2) = match step a i x with | .inl a' => K1 (S a' (i + 1)) | .inr r => K2 r.1 r.2)
    (he : ∀ a, inv a xs.length → ∀ (K1 : St → Option α) (K2 : Ex → St → Option α), c.run d g b (S a xs.length) (c.roundK g b K1 K2) = K2 (fin a).1 (fin a).2)
    (K : Ex → St → Option α) : ∀ (n i : Nat) (a : β), inv a i → i ≤ xs.length → xs.length - i < n → c.loopN d g b n (S a i) K = K (walk step fin a i (xs.drop i)).1 (walk step fin a i (xs.drop i)).2
  | 0, i, a, _, _, hn => by omega
  | n + 1, i, a, hi, hle, hn => by
    rw [Cfg.loopN_succ]
    by_cases hlt : i < xs.length
    · have hx : xs[i]? = some xs[i] := List.getElem?_eq_getElem hlt
      obtain ⟨h1, h2⟩ := hr a i xs[i] hi hx (fun st => c.loopN d g b n st K) K
      rw [h2, List.drop_eq_getElem_cons hlt]
      simp only [walk]
      cases hs : step a i xs[i] with
      | inl a' => exact Cfg.loop_walk c d g b xs S step fin inv hr he K n (i + 1) a' (h1 a' hs) (by omega) (by omega)
      | inr r => rfl
    · have : i = xs.length := by omega
      subst this
      rw [he a hi, List.drop_length]
      rfl

omit D C O in
theorem foldl_take_succ {β X : Type} (f : β → X → β) (xs : List X) (i : Nat) (x : X) (a : β) (hx : xs[i]? = some x) : (xs.take (i + 1)).foldl f a = f ((xs.take i).foldl f a) x := by
  obtain ⟨h, rfl⟩ := List.getElem?_eq_some_iff.1 hx
  rw [List.take_add_one, List.getElem?_eq_getElem h, List.foldl_append]
  rfl

/-- A loop over a list that leaves it by its end alone. -/
theorem Cfg.loop_fold {β X : Type} (c : Cfg) (d g : Nat) (b : Code) (xs : List X) (S : β → Nat → St) (f : β → X → β) (a0 : β) (e : Ex) (T : β → St)
    (hr : ∀ i x, xs[i]? = some x → ∀ (K1 : St → Option α) (K2 : Ex → St → Option α), c.run d g b (S ((xs.take i).foldl f a0) i) (c.roundK g b K1 K2) = K1 (S (f ((xs.take i).foldl f a0) x) (i + 1)))
    (he : ∀ (K1 : St → Option α) (K2 : Ex → St → Option α), c.run d g b (S (xs.foldl f a0) xs.length) (c.roundK g b K1 K2) = K2 e (T (xs.foldl f a0)))
    (K : Ex → St → Option α) (n : Nat) (hn : xs.length < n) : c.loopN d g b n (S a0 0) K = K e (T (xs.foldl f a0)) := by
  have key : ∀ m i, xs.length = i + m → ∀ n, m < n → c.loopN d g b n (S ((xs.take i).foldl f a0) i) K = K e (T (xs.foldl f a0)) := by
    intro m
    induction m with
    | zero =>
      intro i hi n hn
      obtain ⟨n, rfl⟩ : ∃ k, n = k + 1 := ⟨n - 1, by omega⟩
      have : i = xs.length := by omega
      subst this
      rw [List.take_length, Cfg.loopN_succ, he]
    | succ m ih =>
      intro i hi n hn
      obtain ⟨n, rfl⟩ : ∃ k, n = k + 1 := ⟨n - 1, by omega⟩
      have hx : xs[i]? = some (xs[i]'(by omega)) := List.getElem?_eq_getElem (by omega)
      rw [Cfg.loopN_succ, hr i _ hx, ← foldl_take_succ f xs i _ a0 hx]
      exact ih (i + 1) (by omega) n (by omega)
  have := key xs.length 0 (by omega) n hn
  simpa using this

/-- A loop over a list that leaves it by its end alone, by what holds at each round. -/
theorem Cfg.loop_ex {β X : Type} (c : Cfg) (d g : Nat) (b : Code) (xs : List X) (S : β → Nat → St) (inv : β → Nat → Prop) (e : Ex) (T : β → St)
    (hr : ∀ a i x, inv a i → xs[i]? = some x → ∃ a', inv a' (i + 1) ∧ ∀ (K1 : St → Option α) (K2 : Ex → St → Option α), c.run d g b (S a i) (c.roundK g b K1 K2) = K1 (S a' (i + 1)))
    (he : ∀ a, inv a xs.length → ∀ (K1 : St → Option α) (K2 : Ex → St → Option α), c.run d g b (S a xs.length) (c.roundK g b K1 K2) = K2 e (T a))
    (K : Ex → St → Option α) : ∀ (n i : Nat) (a : β), inv a i → i ≤ xs.length → xs.length - i < n → ∃ a', inv a' xs.length ∧ c.loopN d g b n (S a i) K = K e (T a')
  | 0, i, a, _, _, hn => by omega
  | n + 1, i, a, hi, hle, hn => by
    rw [Cfg.loopN_succ]
    by_cases hlt : i < xs.length
    · obtain ⟨a', h1, h2⟩ := hr a i xs[i] hi (List.getElem?_eq_getElem hlt)
      rw [h2]
      exact Cfg.loop_ex c d g b xs S inv e T hr he K n (i + 1) a' h1 (by omega) (by omega)
    · have : i = xs.length := by omega
      subst this
      exact ⟨a, hi, he a hi _ _⟩

omit C O in
theorem walk_fold {β X : Type} (f : β → X → β) (fin : β → Ex × St) : ∀ (xs : List X) (a : β) (i : Nat), walk (fun a _ x => .inl (f a x)) fin a i xs = fin (xs.foldl f a)
  | [], _, _ => rfl
  | x :: xs, a, i => by simp only [walk, List.foldl_cons]; exact walk_fold f fin xs _ _

end
end Go.Abs
