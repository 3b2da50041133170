import PyProof.Rows.All
import Wide.All
import OpenK.AllK
import Wide.FinOn
import Lean
import PySem.Challenge.RW_nt0269_01
open PySem PySem.W PySem.Calls PySem.Spec PyProof.Rows
set_option Elab.async false
set_option maxRecDepth 100000
set_option maxHeartbeats 4000000
namespace Mine
-- small proofs in the place of omega's: an omega proof costs some 20 to 100 kB of the object
theorem om_le {a b c : Nat} (h : a ≤ b) (d : Nat.ble b c = true) : a ≤ c := Nat.le_trans h (Nat.le_of_ble_eq_true d)
theorem om_r0 {a k c : Nat} (h : a + k < c) : a < c := Nat.lt_of_le_of_lt (Nat.le_add_right a k) h
theorem om_r1 {a j k c : Nat} (h : a + k < c) (d : Nat.ble j k = true) : a + j < c := Nat.lt_of_le_of_lt (Nat.add_le_add_left (Nat.le_of_ble_eq_true d) a) h
theorem om_r2 {a i j k c : Nat} (h : a + k < c) (d : Nat.ble (i + j) k = true) : a + i + j < c := Nat.add_assoc a i j ▸ om_r1 h d
theorem om_min {a b c d n m k : Nat} (h : a ≤ n) (h2 : c ≤ m) (e : Nat.ble (n + m) k = true) : a + min b (c - d) ≤ k := om_le (Nat.add_le_add h (Nat.le_trans (Nat.min_le_right _ _) (Nat.le_trans (Nat.sub_le _ _) h2))) e
theorem om_dec {n p q : Int} (h : p < n) (h2 : p < q) : (n - q).toNat < (n - p).toNat := by omega

local macro_rules | `(tactic| omega) => `(tactic| first | (with_reducible first | assumption | exact Mine.om_r2 (by assumption) (by decide) | exact Mine.om_r1 (by assumption) (by decide) | exact Mine.om_r0 (by assumption) | exact Mine.om_le (by assumption) (by decide) | exact Mine.om_min (by assumption) (by assumption) (by decide)) | decide | lia | omega (config := {}))
/-- ids of codes that may lend a bytearray while they run -/
def lendIds : List String := ["bytearray.__contains__", "bytearray.__mod__", "bytearray.__rmod__", "_struct.pack_into.held", "bytearray.find.held"] ++ Builtin.Bytes.decodersThatHold
def noLend : Code → Bool
  | .builtin id _ => !lendIds.contains id
  | _ => true
/-- nothing on the stack lends -/
def Lone (Γ : PySem.Ctx) : Prop := noLend Γ.code = true ∧ ∀ x ∈ Γ.below, noLend x.1 = true
def wpG {α : Type} (M : Model) (A : Around) (t : Sem α) (Q : α → Shared → Prop) (E : Value → Shared → Prop) (s : Shared) : Prop :=
  ∀ Γ p, Γ.In A → Lone Γ → Sem.wp M Γ t (fun a _ s' => Q a s') (fun e _ s' => E e s') p s
def codeG (M : Model) (A : Around) (c : Code) (R : Result → Shared → Prop) (s : Shared) : Prop :=
  ∀ Γ p, Γ.code = c → Γ.Below A → Lone Γ → wpCode M Γ R p s
section
variable {α β : Type} {M : Model} {A : Around} {E : Value → Shared → Prop} {s : Shared}
theorem wpG_any {t : Sem α} {Q : α → Shared → Prop} (h : wpAny M A t Q E s) : wpG M A t Q E s := fun Γ p hΓ _ => h Γ p hΓ
theorem codeG_any {c : Code} {R : Result → Shared → Prop} (h : codeAny M A c R s) : codeG M A c R s := fun Γ p hc hΓ _ => h Γ p hc hΓ
theorem wpG_mono {t : Sem α} {Q Q' : α → Shared → Prop} {E' : Value → Shared → Prop} (h : wpG M A t Q E s)
    (hQ : ∀ a s, Q a s → Q' a s) (hE : ∀ e s, E e s → E' e s) : wpG M A t Q' E' s :=
  fun Γ p hΓ hG => Sem.wp_mono M Γ t (fun a _ s => hQ a s) (fun e _ s => hE e s) p s (h Γ p hΓ hG)
theorem codeG_mono {c : Code} {R R' : Result → Shared → Prop} (h : codeG M A c R s) (hR : ∀ r s, R r s → R' r s) : codeG M A c R' s :=
  fun Γ p hc hΓ hG => wpCode_mono hR (h Γ p hc hΓ hG)
theorem wpG_pure {a : α} {Q : α → Shared → Prop} (h : Q a s) : wpG M A (pure a) Q E s := fun _ _ _ _ => h
theorem wpG_bind {m : Sem α} {f : α → Sem β} {Q : β → Shared → Prop} (h : wpG M A m (fun a s' => wpG M A (f a) Q E s') E s) : wpG M A (m >>= f) Q E s := fun Γ p hΓ hG => by
  rw [Sem.wp_bind']
  exact Sem.wp_mono M Γ m (fun a p' s' h' => h' Γ p' hΓ hG) (fun _ _ _ h' => h') p s (h Γ p hΓ hG)
/-- a piece that the library walks, the rest in this logic -/
theorem wpG_step {m : Sem α} {f : α → Sem β} {Q : β → Shared → Prop} (h : wpAny M A m (fun a s' => wpG M A (f a) Q E s') E s) : wpG M A (m >>= f) Q E s := wpG_bind (wpG_any h)
theorem wpG_holding {vs : List Value} {m : Sem α} {Q : α → Shared → Prop} (h : wpG M A m Q E s) : wpG M A (holding vs m) Q E s :=
  fun Γ p hΓ hG => by rw [Sem.wp_holding]; exact h Γ p hΓ hG
theorem wpG_keep {vs : List Value} {m : Sem α} {Q : α → Shared → Prop} (h : wpG M A m Q E s) : wpG M A (m.keep vs) Q E s :=
  fun Γ p hΓ hG => by rw [Sem.wp_keep]; exact h Γ p hΓ hG
theorem wpG_onRaise {m : Sem α} {k : Value → Sem Unit} {Q : α → Shared → Prop}
    (h : wpG M A m Q (fun e s' => wpAny M A (k e) (fun _ s'' => E e s'') E s') s) : wpG M A (m.onRaise k) Q E s := fun Γ p hΓ hG => by
  rw [Sem.wp_onRaise]
  exact Sem.wp_mono M Γ m (fun _ _ _ h' => h') (fun e p' s' h' => h' Γ p' hΓ) p s (h Γ p hΓ hG)
theorem wpG_attempt {m : Sem α} {Q : Except Value α → Shared → Prop} (h : wpG M A m (fun a => Q (.ok a)) (fun e => Q (.error e)) s) :
    wpG M A m.attempt Q E s := fun Γ p hΓ hG => by rw [Sem.wp_attempt]; exact h Γ p hΓ hG
theorem wpG_tryCatch {m : Sem α} {k : Value → Sem α} {Q : α → Shared → Prop} (h : wpG M A m Q (fun e s' => wpG M A (k e) Q E s') s) :
    wpG M A (tryCatch m k) Q E s := fun Γ p hΓ hG => by
  rw [Sem.wp_tryCatch']
  exact Sem.wp_mono M Γ m (fun _ _ _ h' => h') (fun e p' s' h' => h' Γ p' hΓ hG) p s (h Γ p hΓ hG)
theorem wpG_rule {tag : String} {Q : Unit → Shared → Prop} (h : Q () s) : wpG M A (rule tag) Q E s := fun _ _ _ _ => h
theorem wpG_standAt {pos : Pos} {Q : Unit → Shared → Prop} (h : Q () s) : wpG M A (standAt pos) Q E s := fun _ _ _ _ => h

theorem lone_enter {Γ : PySem.Ctx} (h : Lone Γ) {c : Code} (hc : noLend c = true) (hd : Option Value) (p : Pos) : Lone (Γ.enter c hd p) := by
  refine ⟨hc, ?_⟩
  intro x hx
  rcases List.mem_cons.mp hx with rfl | hx
  · exact h.1
  · exact h.2 x hx
theorem wpG_run {c : Code} {h : Option Value} {Q : Flow → Shared → Prop} (hl : noLend c = true)
    (hc : codeG M (A.mark h) c (fun r s' => match r with | .ok f => Q f s' | .error e => E e s') s) (hnb : h ≠ some byPass := by intro x; cases x) :
    wpG M A (run c h) Q E s :=
  fun Γ p hΓ hG => by rw [Sem.wp_run]; exact hc _ p rfl (hΓ.enter c h p hnb) (lone_enter hG hl h p)
theorem wpG_runValue {c : Code} {Q : Value → Shared → Prop} (hl : noLend c = true)
    (hc : codeG M A c (fun r s' => match r with | .ok (.ret v) => Q v s' | .ok _ => False | .error e => E e s') s) :
    wpG M A (runValue c) Q E s := fun Γ p hΓ hG => by rw [Sem.wp_runValue]; exact hc _ p rfl (hΓ.enter c none p (by intro x; cases x)) (lone_enter hG hl none p)
theorem wpG_call {f : Value} {pos : List Value} {kw : List (Str × Value)} {Q : Value → Shared → Prop}
    (hc : codeG M A (.call f ⟨pos, kw⟩) (fun r s' => match r with | .ok (.ret v) => Q v s' | .ok _ => False | .error e => E e s') s) :
    wpG M A (call f pos kw) Q E s := wpG_runValue rfl hc
theorem codeG_of_tree {c : Code} {R : Result → Shared → Prop}
    (h : wpG M (A.under c) (M.den c) (fun fin s' => match fin with | .done f => R (.ok f) s' | .again c' => c'.quiet = true ∧ noLend c' = true ∧ codeG M A c' R s')
      (fun e s' => R (.error e) s') s) : codeG M A c R s := fun Γ p hc hΓ hG => by
  rw [wpCode_iff_wp, hc]
  refine Sem.wp_mono M Γ _ (fun fin p' s' h' => ?_) (fun _ _ _ h' => h') p s (h Γ p (hc ▸ hΓ.in) hG)
  cases fin with
  | done f => exact h'
  | again c' => exact ⟨h'.1, h'.2.2 (Γ.goto c') p' rfl (hΓ.goto c') ⟨h'.2.1, hG.2⟩⟩
theorem codeG_loop {c : Code} {R : Result → Shared → Prop} (hq : c.quiet = true) (hl : noLend c = true) (I : Nat → Shared → Prop)
    (turn : ∀ n s, I n s → wpG M (A.under c) (M.den c)
      (fun fin s' => match fin with
        | .done f => R (.ok f) s'
        | .again c' => (c' = c ∧ ∃ m, m < n ∧ I m s') ∨ (c'.quiet = true ∧ noLend c' = true ∧ codeG M A c' R s')) (fun e s' => R (.error e) s') s)
    (n : Nat) (h : I n s) : codeG M A c R s := by
  induction n using Nat.strongRecOn generalizing s with
  | ind n ih =>
    refine codeG_of_tree (wpG_mono (turn n s h) (fun fin s' hf => ?_) fun _ _ h' => h')
    cases fin with
    | done f => exact hf
    | again c' =>
      rcases hf with ⟨rfl, m, hm, hI⟩ | hf
      · exact ⟨hq, hl, ih m hm hI⟩
      · exact hf
theorem wpG_exported {a : Addr} {Q : Bool → Shared → Prop} (h : Q false s) : wpG M A (Builtin.Bytes.exported (.ref a)) Q E s := by
  intro Γ p _ hG
  unfold Builtin.Bytes.exported
  rw [Sem.wp_bind']
  show Q (List.any ((Γ.code, p) :: Γ.below) _) s
  rw [List.any_eq_false.mpr]
  · exact h
  intro x hx
  have hx' : noLend x.1 = true := by
    rcases List.mem_cons.mp hx with rfl | hx
    · exact hG.1
    · exact hG.2 x hx
  obtain ⟨c, p'⟩ := x
  dsimp only at hx'
  cases c with
  | builtin id args =>
    obtain ⟨pos, kw⟩ := args
    have hn : lendIds.contains id = false := by simpa only [noLend, Bool.not_eq_true'] using hx'
    have no : ∀ k, lendIds.contains k = true → id ≠ k := fun k hk e => by
      rw [e, hk] at hn
      cases hn
    have hd : Builtin.Bytes.decodersThatHold.contains id = false := by
      cases hc : Builtin.Bytes.decodersThatHold.contains id with
      | false => rfl
      | true =>
        rw [List.contains_iff_mem] at hc
        have hm : lendIds.contains id = true := List.contains_iff_mem.mpr (List.mem_append_right _ hc)
        rw [hn] at hm
        cases hm
    delta Builtin.Bytes.exported.match_1
    show ¬ (dite (id = "bytearray.__contains__") _ _ = true)
    rw [dif_neg (no "bytearray.__contains__" (by decide +kernel)), dif_neg (no "bytearray.__mod__" (by decide +kernel)), dif_neg (no "bytearray.__rmod__" (by decide +kernel)), dif_neg (no "_struct.pack_into.held" (by decide +kernel)), dif_neg (no "bytearray.find.held" (by decide +kernel))]
    cases pos with
    | nil => exact Bool.false_ne_true
    | cons v r =>
      show ¬ ((Builtin.Bytes.sameRef v _ && Builtin.Bytes.decodersThatHold.contains id) = true)
      rw [hd, Bool.and_false]
      exact Bool.false_ne_true
  | _ => exact Bool.false_ne_true
end

theorem lone_caller : Lone ⟨.builtin "claim.caller" {}, none, none, [], none⟩ := ⟨by decide +kernel, fun _ h => nomatch h⟩
theorem lone_ends {prog : Program} {w : World} {t : Sem Fin} {s : Shared} {R : Result → Shared → Prop} (hreg : s.asleep)
    (h : wpG (model prog w) callerA t (fun fin s' => ∃ f, fin = .done f ∧ (R (.ok f) s' ∧ leftWithCleanup s'.gens = false)) (fun e s' => R (.error e) s' ∧ leftWithCleanup s'.gens = false) s) :
    ∃ n r s' s'', runN (denote table) prog w n s ⟨t, .builtin "claim.caller" {}, default, []⟩ = .halted (outcomeOf r) s' ∧
      schedN (denote table) prog w n (.single s ⟨t, .builtin "claim.caller" {}, default, []⟩) = .halted (outcomeOf r) s' ∧ s'.forget = s''.forget ∧ R r s'' := by
  obtain ⟨n, r, s₁, s₂, hs, hn, hfo, hR⟩ := wp_halts_full (M := model prog w) (R := R) hreg (Sem.wp_mono _ _ t (fun fin p' s' h' => by
    obtain ⟨f, rfl, hf⟩ := h'
    exact hf) (fun _ _ _ h' => h') default s (h _ default caller_in lone_caller))
  exact ⟨n, r, s₂, s₁, hn, hs, hfo, hR⟩

theorem lone_from {c : ClaimW} {tree : List Value → Sem Fin} {w : World} {s : Shared} {free : Addr → Prop} {gens : Prop} {kept : Heap → Prop} (hz : s.asleep) (hgens : s.gens = #[])
    (hspec : ∀ args, c.pre args = true → WData.layableAll args = true →
      ∀ ord : List DictEntry → List DictEntry, (∀ l, (ord l).Perm l) →
      ∃ vs s₁, layAllW c.records (classAt s.heap) w.params ord args s = some (vs, s₁) ∧
        wpG (model c.prog w) callerA (tree vs) (fun fin s' => ∃ f, fin = .done f ∧ (c.Ends s args vs s₁ (.ok f) s' ∧ s'.os = s.os ∧ AllBare s'.gens ∧ kept s'.heap))
          (fun e s' => c.Ends s args vs s₁ (.error e) s' ∧ s'.os = s.os ∧ AllBare s'.gens ∧ kept s'.heap) s₁) :
    c.CallFrom (fun vs => ⟨tree vs, .builtin "claim.caller" {}, default, []⟩) w free gens kept s := by
  intro args hpre hlay ord hord
  obtain ⟨vs, s₁, hlaid, hcode⟩ := hspec args hpre hlay ord hord
  have hal := layAllW_rest _ _ _ hlaid
  have hcode' : wpG (model c.prog w) callerA (tree vs) (fun fin s' => ∃ f, fin = .done f ∧ ((c.Ends s args vs s₁ (.ok f) s' ∧ s'.os = s.os ∧ kept s'.heap) ∧ leftWithCleanup s'.gens = false))
      (fun e s' => (c.Ends s args vs s₁ (.error e) s' ∧ s'.os = s.os ∧ kept s'.heap) ∧ leftWithCleanup s'.gens = false) s₁ :=
    wpG_mono hcode (fun _ _ ⟨f, e, h1, h2, h3, h4⟩ => ⟨f, e, ⟨h1, h2, h4⟩, leftWithCleanup_false_of_bare h3⟩) fun _ _ ⟨h1, h2, h3, h4⟩ => ⟨⟨h1, h2, h4⟩, leftWithCleanup_false_of_bare h3⟩
  obtain ⟨k, r, s', s'', hrun, hsched, hfo, hcase, hos, hkp⟩ := lone_ends (R := fun r s' => c.Ends s args vs s₁ r s' ∧ s'.os = s.os ∧ kept s'.heap) (Shared.asleep_of_life hal.2.2.2 hz) hcode'
  obtain ⟨eh, _, _, eo, _⟩ := Shared.forget_eq hfo
  have hcase := hcase.congr eh
  have hkp : kept s'.heap := by rw [eh]; exact hkp
  rw [← eo] at hos
  have hlife : s'.heap.life = s.heap.life := (runN_life _ _ _ hrun).trans hal.2.2.2
  refine ⟨vs, s₁, hlaid, k, _, s', hsched, ?_, (fun _ i x hx => by rw [hgens] at hx; simp at hx), hkp, by rw [hlife], Shared.rest_eq hos⟩
  rcases hcase with ⟨v, rfl, d1, d2, d3, d4, d5⟩ | ⟨e, ob, cls, rfl, d1, d2, d3, d4, d5⟩
  · exact .inl ⟨v, rfl, d1, d2, d3, fun b o y _ => d4 b o y, d5⟩
  · exact .inr ⟨e, ob, cls, rfl, d1, d2, d3, d4, fun b o y _ => d5 b o y⟩

/-- what the head asks of the walk, in this logic -/
abbrev WalkG (q : Program) (loose : List Str) (XP : (Str → Option Value) → Heap → Prop) (YP : World → Heap → Prop) (r : RowW) (d : DefRec) (kwd : List (Str × Expr)) (run : Value → List Value → Sem Value) : Prop :=
  ∀ (w : World) (s₀ s₁ : Shared) (mg mb : Str → Option Value), Ground q loose r.records XP w s₀ mg mb s₁.heap → YP w s₁.heap → ∀ (a : Addr) (o : Obj) (pm cd doc dV kV : Value), s₁.heap.get? a = some o →
    o.data = .func { docDef d.name d.params d.body d.scope pm cd doc with defaults := dV, kwdefaults := kV } → s₁.heap.CodeRec cd d.name → Dflts mg s₁.heap d.params kwd dV kV → mg d.name = some (.ref a) → s₁.gens = #[] →
    ∀ (args : List WData) (vals : List Value) (as : List Addr), r.claim.pre args = true → WData.layableAll args = true → ReadsAllW r.records (classAt s₀.heap) s₁.heap vals args as → WellAll w.params s₁.heap vals args → (∀ a ∈ as, (a == sysModules) = false) →
      wpG (model r.prog w) callerA (run (.ref a) vals) (fun v s' => GoodWG r.claim (classAt s₀.heap) (ExcName.means s₀.heap) args s₁ (.ok (.ret v)) s')
        (fun e s' => GoodWG r.claim (classAt s₀.heap) (ExcName.means s₀.heap) args s₁ (.error e) s') s₁

section
open PySem.W
theorem PySem.W.holds_open {r : OpenRow} {q : Program} {loose : List Str} {Xt : Shared → Bool} {XP : (Str → Option Value) → Heap → Prop} {α : Type} {Yf : Shared → α} {Ya : World → α} {YP : World → Heap → Prop} {d : DefRec} {kwd : List (Str × Expr)} {N : Nat}
    (left : LeftO r.prog q loose Xt Yf Ya N) (hY : ∀ w s, Yf s = Ya w → YP w s.heap) (hYk : ∀ w h h', YP w h → (∀ b o, h.get? b = some o → h'.get? b = some o) → YP w h')
    (hX : ∀ s, Xt s = true → XP (s.heap.nsMap mainGlobals) s.heap) (hXk : ∀ mg h h', XP mg h → (∀ b o, h.get? b = some o → h'.get? b = some o) → XP mg h')
    (hdef : defOf q r.name = some (d, kwd)) (hp : r.prog.theDef r.name = some (d.params, d.body, d.scope)) (hk : kwWritten? d.params.kwonlyargs d.params.kw_defaults = some kwd) (hRf : ∀ s, Xt s = true → RecFacts r.records s.heap) (hwr : (!r.writes || r.records.isEmpty) = true)
    {P : Prop} (k1 : r.wellSaid = true ∧ P) (ok : (chainsOk q && opensWell r.prog && (frees r.toRowW && r.within.isEmpty)) = true) (hb : r.prog.bare) (hw : r.toRowW.promised)
    (call : P → WalkG q loose XP YP r.toRowW d kwd fun f vs => PySem.call f vs) : r.Holds := by
  obtain ⟨ok, k5⟩ := Bool.and_eq_true_iff.mp ok
  obtain ⟨hch, o1⟩ := Bool.and_eq_true_iff.mp ok
  obtain ⟨k5, k6⟩ := Bool.and_eq_true_iff.mp k5
  obtain ⟨hsame, hu, ha, hap, hm⟩ := frees_parts k5
  refine ⟨k1.1, hw, ⟨hb, o1, by show r.toRowW.makers.map _ = []; rw [hm]; rfl⟩, hw.witness, fun w => ⟨(left.behind hX hch w).1, fun s' hs' => ?_⟩⟩
  obtain ⟨s₀, hf, hg0, s, hT, hz, hgens, hg, G00, y⟩ := (left.behind (XP := fun mg h => XP mg h ∧ RecFacts r.toRowW.records h) (fun s hs => ⟨hX s hs, hRf s hs⟩) hch w).2 s' hs'
  have G0 : Ground q loose [] XP w s (s.heap.nsMap mainGlobals) (s.heap.nsMap builtinsNs) s.heap := ⟨G00.T, G00.B, G00.D, G00.TE, G00.TD, G00.W, G00.X.1, G00.cls, G00.has, G00.apart, G00.once, G00.K⟩
  have RF := G00.X.2
  refine ⟨s₀, hf, hg0, s, hT, fun n hn => ?_, RF.1, RF.2.1, ?_⟩
  · obtain rfl : n = r.name := by split at hn <;> simp_all
    exact pinned_of_view hg G0 hdef hp hk
  have hgens : s.gens = #[] := Array.eq_empty_of_size_eq_zero (beq_iff_eq.mp hgens)
  have G : Ground q loose r.toRowW.records XP w s _ _ s.heap := RF.ground G0
  refine lone_from (c := r.toRowW.claim) hz hgens fun args hpre hlay ord hord => ?_
  obtain ⟨⟨vs, s₁⟩, hlaid⟩ := Option.isSome_iff_exists.mp (layAllW_isSome (P := w.params) (ord := ord) G.has args r.toRowW.args s (pre_splitW hpre).1)
  have keeps := layAllW_keeps _ _ _ hlaid
  have hal := layAllW_rest _ _ _ hlaid
  obtain ⟨as, hrd, hin, hold⟩ := reads_layAllW hord _ _ _ hlaid hlay s₁.heap (fun _ _ e => e)
  have L : Laid r.toRowW.records w s s₁ args vs as := ⟨⟨ord, hord, hlaid⟩, hrd, hin, hold, keeps, hal.1.trans hgens, hal.2.2.1⟩
  have G₁ := G.keeps hXk keeps
  obtain ⟨a, o, pm, cd, doc, dV, kV, h1, h2, h3, h4, h5⟩ := G₁.fn hdef
  have hwalk := call k1.2 w s s₁ _ _ G₁ (hYk _ _ _ (hY w s y) keeps) a o pm cd doc dV kV h2 h3 h4 h5 (defOf_name hdef ▸ h1) L.gens args vs as hpre hlay L.reads L.well (L.low G.low)
  have hi := ident_freeW hu ha hap
  have hwi : r.toRowW.claim.within = [] := List.isEmpty_iff.mp k6
  refine ⟨vs, s₁, hlaid, wpG_step (wpAny_nsGet G₁.T.g ?_)⟩
  rw [h1]
  refine wpG_bind (wpG_mono hwalk (fun v s' g => wpG_pure ⟨_, rfl, ?_⟩) fun e s' g => ?_)
  · have z := g.laid (c := r.toRowW.claim) hsame hwi hi L
    exact ⟨z.1, z.2.1, z.2.2, fun q => ⟨namesKept_of hT hg _ keeps g.2.1.old, noTable hwr q⟩⟩
  · have z := g.laid (c := r.toRowW.claim) hsame hwi hi L
    exact ⟨z.1, z.2.1, z.2.2, fun q => ⟨namesKept_of hT hg _ keeps g.2.1.old, noTable hwr q⟩⟩
end

-- this first run of the head makes the names hd.heap, hd.view; the one that counts is in 80_law
theorem hd.tw2449664421397587444 : True := trivial
theorem hd.tw10727248033764811480 : True := trivial
theorem hd.tw11918464104331161477 : True := trivial
theorem hd.tw18357452190959980332 : True := trivial
theorem hd.tw9702202555907925646 : True := trivial
theorem hd.tw26425463804135960 : True := trivial
theorem hd.tw10117281507310766616 : True := trivial
theorem hd.tw15186342906877850337 : True := trivial
theorem hd.tw1171348915726550028 : True := trivial
theorem hd.tw15298718440444336668 : True := trivial
theorem hd.tw16546736560662234797 : True := trivial
theorem hd.tw6528754448969337418 : True := trivial
theorem hd.tw11513968764499736323 : True := trivial
theorem hd.tw16722109127936396110 : True := trivial
theorem hd.tw1017328040139425936 : True := trivial
theorem hd.tw10246146449241189800 : True := trivial
theorem hd.tw5036846961687405229 : True := trivial
theorem hd.tw18293732401869909652 : True := trivial
theorem hd.tw1800889605409440832 : True := trivial
theorem hd.tw3759623122121258479 : True := trivial
theorem hd.tw11128854368766332075 : True := trivial
theorem hd.tw17447410573909459338 : True := trivial
theorem hd.tw3452082135128663414 : True := trivial
theorem hd.tw9748044761591592747 : True := trivial
theorem hd.tw1222794163293265305 : True := trivial
theorem hd.tw12901994302517312135 : True := trivial
theorem hd.tw16064382804478563927 : True := trivial
theorem hd.tw921402611603131450 : True := trivial
theorem hd.tw18343703819029505601 : True := trivial
theorem hd.tw7355570028127101125 : True := trivial
theorem hd.tw14892549342360969540 : True := trivial
theorem hd.tw4360684699965382250 : True := trivial
theorem hd.tw7028611270464810887 : True := trivial
theorem hd.tw5373601922739893978 : True := trivial
theorem hd.tw17711083657039698284 : True := trivial
theorem hd.tw17087091549796120035 : True := trivial
theorem hd.tw1359830224848277088 : True := trivial
theorem hd.tw10957212852122400357 : True := trivial
theorem hd.tw7540655947842036084 : True := trivial
theorem hd.tw8268277133935991078 : True := trivial
theorem hd.tw16259696140248634718 : True := trivial
theorem hd.tw11754176132448286083 : True := trivial
theorem hd.tw10525666975642140466 : True := trivial
theorem hd.tw8117029840178788049 : True := trivial
theorem hd.tw16412773359747925120 : True := trivial
theorem hd.tw12112201142124510154 : True := trivial
theorem hd.tw11162318198679636149 : True := trivial
theorem hd.tw1600037746751723098 : True := trivial
theorem hd.tw1760603350576429475 : True := trivial
theorem hd.tw15166520500009309586 : True := trivial
theorem hd.tw15833661619300960221 : True := trivial
theorem hd.tw12070051907170230399 : True := trivial
theorem hd.tw3530705653197291679 : True := trivial
theorem hd.tw10614716105012338702 : True := trivial
theorem hd.tw1506431575118746342 : True := trivial
theorem hd.tw2887051446865420828 : True := trivial
theorem hd.tw8343274005884668182 : True := trivial
theorem hd.tw4225703048834024713 : True := trivial
theorem hd.tw2867327485932766208 : True := trivial
theorem hd.tw15103106377680225435 : True := trivial
theorem hd.tw7010584846471099517 : True := trivial
theorem hd.tw3219085151875037572 : True := trivial
theorem hd.tw13368278939475635651 : True := trivial
theorem hd.tw7752767780024739350 : True := trivial
theorem hd.tw15759970867653108152 : True := trivial
theorem hd.tw16853341256802265648 : True := trivial
theorem hd.tw2708950531961675432 : True := trivial
theorem hd.tw18093812233618175256 : True := trivial
theorem hd.tw2603259988358896889 : True := trivial
theorem hd.tw16240987189780228909 : True := trivial
theorem hd.tw7366208706002141716 : True := trivial
theorem hd.tw6545403380812914513 : True := trivial
theorem hd.tw5190246844813560578 : True := trivial
theorem hd.tw15042006015671813226 : True := trivial
theorem hd.tw9345929723534960622 : True := trivial
theorem hd.tw1011335219593555734 : True := trivial
theorem hd.tw15411387601460861337 : True := trivial
theorem hd.tw13225837485096350037 : True := trivial
theorem hd.tw6442067068224118133 : True := trivial
theorem hd.tw6164396464334811476 : True := trivial
theorem hd.tw701787995468756871 : True := trivial
theorem hd.tw2195365466389143174 : True := trivial
theorem hd.tw16945582573551092051 : True := trivial
theorem hd.tw13330244855972007585 : True := trivial
theorem hd.tw5511420028821071320 : True := trivial
theorem hd.tw18103342009636024947 : True := trivial
theorem hd.tw17681399029576232318 : True := trivial
theorem hd.tw4272726840584523970 : True := trivial
theorem hd.tw5781342201191254626 : True := trivial
theorem hd.tw978945382295711627 : True := trivial
theorem hd.tw17673860158736603733 : True := trivial
theorem hd.tw2930668341846507884 : True := trivial
theorem hd.tw16007149819294483003 : True := trivial
theorem hd.tw13790719812936386609 : True := trivial
theorem hd.tw6819123309680001836 : True := trivial
theorem hd.tw13267510147771200024 : True := trivial
theorem hd.tw13518370688599389936 : True := trivial
theorem hd.tw4014540891139286612 : True := trivial
theorem hd.tw10111801491309104144 : True := trivial
theorem hd.tw9673543361469618366 : True := trivial
theorem hd.tw7120233287515763914 : True := trivial
theorem hd.tw4971549296188076032 : True := trivial
theorem hd.tw189712035060473897 : True := trivial
theorem hd.tw3350844169311001129 : True := trivial
theorem hd.tw5657824000916062451 : True := trivial
theorem hd.tw16432713993328977331 : True := trivial
theorem hd.tw2274498078352570744 : True := trivial
theorem hd.tw9960721518486171458 : True := trivial
theorem hd.tw8457440626546761165 : True := trivial
theorem hd.tw3646829019195819677 : True := trivial
theorem hd.tw1997569388931296116 : True := trivial
theorem hd.tw13770079208771991547 : True := trivial
theorem hd.tw11660266114150955751 : True := trivial
theorem hd.tw9719896912496429819 : True := trivial
theorem hd.tw17311223219408574766 : True := trivial
theorem hd.tw11953376511379268794 : True := trivial
theorem hd.tw5987830557187376847 : True := trivial
theorem hd.tw11210553801493137410 : True := trivial
theorem hd.tw2068664650715991707 : True := trivial
theorem hd.tw17975533764899295144 : True := trivial
theorem hd.tw15615537253650120727 : True := trivial
theorem hd.tw11117797201346649052 : True := trivial
theorem hd.tw6838551448383532254 : True := trivial
theorem hd.tw14353793391729792155 : True := trivial
theorem hd.tw8735263284916673568 : True := trivial
theorem hd.tw3451239065008710300 : True := trivial
theorem hd.tw11917015161858427179 : True := trivial
theorem hd.tw17672654358674132775 : True := trivial
theorem hd.tw991583007596301734 : True := trivial
theorem hd.tw7289634563603522867 : True := trivial
theorem hd.tw6123773746684550334 : True := trivial
theorem hd.tw5174551420813472067 : True := trivial
theorem hd.tw4702841417184801058 : True := trivial
theorem hd.tw3919010098100093602 : True := trivial
theorem hd.tw2442259710966052079 : True := trivial
theorem hd.tw2386827423013361158 : True := trivial
theorem hd.tw17893044597097874663 : True := trivial
theorem hd.tw17542962492245011380 : True := trivial
theorem hd.tw14955159897011116063 : True := trivial
theorem hd.tw14705683404202351889 : True := trivial
theorem hd.tw14560493823538711346 : True := trivial
theorem hd.tw11389486352061984695 : True := trivial
theorem hd.tw1013155817946168525 : True := trivial
theorem hd.tw9979312301355611766 : True := trivial
theorem hd.tw464777395874653626 : True := trivial
theorem hd.tw12936449754285732098 : True := trivial
theorem hd.tw17574625026820762457 : True := trivial
theorem hd.tw15616948245753086127 : True := trivial
theorem hd.tw9566141503761928105 : True := trivial
theorem hd.tw8112040973832200146 : True := trivial
theorem hd.tw6305734824756694309 : True := trivial
theorem hd.tw4402725079659364252 : True := trivial
theorem hd.tw16299908979028503884 : True := trivial
theorem hd.tw8959176491354863721 : True := trivial
theorem hd.tw12173100003817136821 : True := trivial
theorem hd.tw6767318904944593275 : True := trivial
theorem hd.tw16868993833207775613 : True := trivial
theorem hd.tw8716120427605611371 : True := trivial
theorem hd.tw18300207936620678264 : True := trivial
theorem hd.tw15967140613478806237 : True := trivial
theorem hd.tw8458067239894703972 : True := trivial
theorem hd.tw9277588360372424766 : True := trivial
theorem hd.tw17650839729002327288 : True := trivial
theorem hd.tw16345102440705955213 : True := trivial
theorem hd.tw14103535550066685397 : True := trivial
theorem hd.tw13828106393651249627 : True := trivial
theorem hd.tw6411954120941647267 : True := trivial
theorem hd.tw4015398097383911347 : True := trivial
theorem hd.tw6785817131721698500 : True := trivial
theorem hd.tw6555240042291301478 : True := trivial
theorem hd.tw4478166936697009375 : True := trivial
theorem hd.tw3229955645248102723 : True := trivial
set_option Elab.async true in
theorem hd (no : False) : PySem.Challenge.rw_nt0269_01.Holds := by
  w_on
  o_law
  rename_i said
  have said' := And.intro said no
  clear said
  k_head
  (case hw => w_witness2)
  exact False.elim

noncomputable abbrev PP : Program := PySem.Challenge.pw_nt0269_01
noncomputable abbrev VV : Program := hd.view_1_40
noncomputable abbrev LO : List Str := looseW hd.view_1_40 [Str.ofString "GitError", Str.ofString "DeltaCommand", Str.ofString "DeltaReader"]

/-- the way back with the rest of the caller's ledger -/
def LeaveR (h₀ : Heap) (L : Addr) (m : Str → Option Value) (g : Heap) (rest : List (Addr × Obj)) (R : Result → Shared → Prop) (v : Value) (s' : Shared) : Prop :=
  ∃ L' m' own', Fr g L' s'.heap m' ∧ News g L' s'.heap own' ∧ (Fr h₀ L s'.heap m → News h₀ L s'.heap (own' ++ rest) → (∀ a ∈ own', ∀ b ∈ rest, a.1 ≠ b.1) → R (.ok (.ret v)) s')

theorem LeaveR.ret {h₀ g h' : Heap} {L L' : Addr} {m m' : Str → Option Value} {rest own' : List (Addr × Obj)} {R : Result → Shared → Prop} {v : Value} {s : Shared} {tk : Nat} {Good : Value → List (Addr × Obj) → Prop}
    (hret : ∀ r own' h' tk', Fr h₀ L h' m → News h₀ L h' (own' ++ rest) → (∀ a ∈ own', ∀ b ∈ rest, a.1 ≠ b.1) → Good r own' → R (.ok (.ret r)) { s with heap := h', toks := tk' })
    (F : Fr g L' h' m') (N : News g L' h' own') (G : Good v own') : LeaveR h₀ L m g rest R v { s with heap := h', toks := tk } :=
  ⟨L', m', own', F, N, fun kF kN kA => hret v own' h' tk kF kN kA G⟩
theorem leaveR_K {h₀ g : Heap} {L : Addr} {m : Str → Option Value} {rest : List (Addr × Obj)} {R : Result → Shared → Prop} {v : Value} {s' : Shared}
    (hr : ∀ q ∈ rest, g.get? q.1 = some q.2 ∧ q.1 ≠ L ∧ h₀.get? q.1 = none) (x : LeaveR h₀ L m g rest R v s') : LeaveK h₀ L m g R v s' := by
  obtain ⟨L', m', own', F', N', k⟩ := x
  exact ⟨L', m', own', F', N', fun F N => k F (fun q hq => (List.mem_append.mp hq).elim (N q) fun hq => ⟨F'.keep _ _ (hr q hq).1, (hr q hq).2⟩) fun a ha b hb e => by
    have h1 := (N' a ha).2.2
    rw [e, (hr b hb).1] at h1
    cases h1⟩

section
variable {prog : Program} {w : World} {A A₀ : Around} {s : Shared} {K : Frag} {L : Addr} {h₀ base : Heap} {m mg mb : Str → Option Value} {own rest : List (Addr × Obj)} {p : Program} {loose : List Str} {mean : ExcName → Option Value}
theorem code_own {env : Env} {outer : List Env} {R : Result → Shared → Prop} {name qual : Str} {params : Arguments} {body : List Stmt} {scope : Scope} {dV kV doc pm cdv ct oc : Value} {an od : Option Addr} {osl : Array (Option Value)} {f : Addr} {args : Args} {binds : List (Str × Value)}
    (B : Below A₀ base outer h₀) (F : Fr h₀ L s.heap m) (X₀ : K.In h₀) (N : News h₀ L s.heap (own ++ rest)) (hap : ∀ a ∈ own, ∀ b ∈ rest, a.1 ≠ b.1) (T : Top p loose mean mg mb h₀) (hA : A.frames = some (env :: outer)) (hf : env.frame = some L) (hke : env.scope.kind = .function)
    (ho : K.lookup f = some ⟨oc, od, .func (fnOf name qual params body scope dV kV doc pm an cdv ct), osl⟩) (hcd : codeIn K cdv qual = true) (hroom : A.depth < recursionLimit)
    (hbind : BindsTo s (fnOf name qual params body scope dV kV doc pm an cdv ct) args binds) (hloc : ∀ y ∈ binds, scope.names.lookup y.1 = some .local)
    (h : ∀ g L' h₁, Fr h₀ L g m → Fr g L' h₁ (fun y => binds.reverse.lookup y) → News g L' h₁ own → Below A base (env :: outer) g → K.In g → Top p loose mean mg mb g → (∀ q ∈ rest, g.get? q.1 = some q.2) →
      wpAny (model prog w) (A.deeper (envOf qual scope L' f cdv)) (execs body (envOf qual scope L' f cdv))
        (fun fl s' => LeaveR h₀ L m g rest R (match fl with | .ret v => v | _ => .none) s')
        (fun e s' => wpAny (model prog w) (A.deeper (envOf qual scope L' f cdv)) (leaving (envOf qual scope L' f cdv) e) (fun _ s'' => R (.error e) s'') (fun e' s'' => R (.error e') s'') s')
        { s with heap := h₁, toks := s.toks + binds.length })
    (hco : scope.isCoroutine = false) (hgen : scope.isGenerator = false) (hk : scope.kind = .function)
    (hcell : ∀ x ∈ scope.names, x.2 ≠ .cell) : codeAny (model prog w) A (.call (.ref f) args) R s := by
  have No : News h₀ L s.heap own := fun q hq => N q (List.mem_append_left _ hq)
  obtain ⟨FG, BG, st, lv⟩ := groundX (R := R) B F No hA hf hke
  have hr : ∀ q ∈ rest, (hideAll s.heap (own.map (·.1))).get? q.1 = some q.2 := fun q hq =>
    hideAll_get _ (N q (List.mem_append_right _ hq)).1 fun hm => by
      obtain ⟨a, ha, e⟩ := List.mem_map.mp hm
      exact hap a ha q hq e
  refine codeAny_call_def (fd := fnOf name qual params body scope dV kV doc pm an cdv ct) (body := body) (binds := binds) hroom ((X₀.keeps F.keep) _ _ ho) rfl (T.nolimit.keeps F.keep) (codeRec_of (X₀.keeps F.keep) hcd) rfl hbind hcell hloc (fun h₁ hns hk₁ => ?_) hco hgen hk
  exact wpAny_mono (h _ s.heap.objs.size h₁ FG ⟨hns, fun b o e => hk₁ b o (of_hideAll _ e), Nat.le_of_eq (hideAll_size _ _)⟩
    (fun p hp => ⟨hk₁ _ _ (No p hp).1, Nat.ne_of_lt (Heap.lt_size (No p hp).1), hideAll_none _ (List.mem_map_of_mem hp)⟩) BG (X₀.keeps st) (T.keeps st) hr)
    (fun fl s' hl => lv _ _ (leaveR_K (fun q hq => ⟨hr q hq, (N q (List.mem_append_right _ hq)).2⟩) hl)) fun _ _ y => y
end

/-- what a caller is told of a raise: the exception flies through the caller's frame -/
def Thrown (base h₀ : Heap) (L : Addr) (m : Str → Option Value) (l : List Env) (e : Addr) (h' : Heap) : Prop :=
  ∃ g, Fr h₀ L g m ∧ RaisedSN base g l e (.ref 45) [] h' ∧ g.UpToSlots h'

/-- a contract of the def at f -/
def Spec (w : World) (mean : ExcName → Option Value) (mg mb : Str → Option Value) (f : Addr) (d u : Nat) (own : List (Addr × Obj)) (vs : List Value) (Good : Value → List (Addr × Obj) → Prop) (Bad : Prop) : Prop :=
  ∀ (dp un : Nat) (gd : Option (List Code)) (cn : Str) (cs : Scope) (a : Addr) (ccd : Value) (cl : List (Str × Addr)) (outer : List Env) (A₀ : Around) (base h₀ : Heap) (L : Addr) (m : Str → Option Value) (rest : List (Addr × Obj)) (s : Shared) (R : Result → Shared → Prop),
    Below A₀ base outer h₀ → Fr h₀ L s.heap m → (hd.heap_1_39 w.params).In h₀ → News h₀ L s.heap (own ++ rest) → (∀ a ∈ own, ∀ b ∈ rest, a.1 ≠ b.1) → Top VV LO mean mg mb h₀ → cs.kind = .function → dp + d < recursionLimit → un + u < cLine →
    (∀ r own' h' tk', Fr h₀ L h' m → News h₀ L h' (own' ++ rest) → (∀ a ∈ own', ∀ b ∈ rest, a.1 ≠ b.1) → Good r own' → R (.ok (.ret r)) { s with heap := h', toks := tk' }) →
    (Bad → ∀ e h' tk', Thrown base h₀ L m (envX cn cs L a ccd cl :: outer) e h' → R (.error (.ref e)) { s with heap := h', toks := tk' }) →
    codeAny (model PP w) (ktrTop dp un gd cn cs L a ccd cl outer) (.call (.ref f) ⟨vs, []⟩) R s


/-- the same of a call as a tree (a class) -/
def SpecC (w : World) (mean : ExcName → Option Value) (mg mb : Str → Option Value) (f : Addr) (d u : Nat) (own : List (Addr × Obj)) (vs : List Value) (Good : Value → List (Addr × Obj) → Prop) (Bad : Prop) : Prop :=
  ∀ (dp un : Nat) (gd : Option (List Code)) (cn : Str) (cs : Scope) (a : Addr) (ccd : Value) (cl : List (Str × Addr)) (outer : List Env) (A₀ : Around) (base h₀ : Heap) (L : Addr) (m : Str → Option Value) (rest : List (Addr × Obj)) (s : Shared) (Q E : Value → Shared → Prop),
    Below A₀ base outer h₀ → Fr h₀ L s.heap m → (hd.heap_1_39 w.params).In h₀ → News h₀ L s.heap (own ++ rest) → (∀ a ∈ own, ∀ b ∈ rest, a.1 ≠ b.1) → Top VV LO mean mg mb h₀ → cs.kind = .function → dp + d < recursionLimit → un + u < cLine →
    (∀ r own' h' tk', Fr h₀ L h' m → News h₀ L h' (own' ++ rest) → Good r own' → Q r { s with heap := h', toks := tk' }) →
    (Bad → ∀ e h' tk', Thrown base h₀ L m (envX cn cs L a ccd cl :: outer) e h' → E (.ref e) { s with heap := h', toks := tk' }) →
    wpAny (model PP w) (ktrTop dp un gd cn cs L a ccd cl outer) (call (.ref f) vs) Q E s

/-- the walk may go into the class's own call -/
structure GoIn : Prop where
  mark :: (one : True)

/-- a goal where the walk shall stand still -/
def Stop (P : Prop) : Prop := P
theorem Stop.mk {P : Prop} (h : Stop P) : P := h
theorem Stop.go {P : Prop} (h : P) : Stop P := h

/-- own entries taken out of a ledger -/
inductive Del (p : Addr × Obj) : List (Addr × Obj) → List (Addr × Obj) → Prop
  | here {r} : Del p (p :: r) r
  | there {q l r} : Del p l r → Del p (q :: l) (q :: r)
inductive Pick : List (Addr × Obj) → List (Addr × Obj) → List (Addr × Obj) → Prop
  | nil {l} : Pick [] l l
  | cons {p own l l' r} : Del p l l' → Pick own l' r → Pick (p :: own) l r
theorem Del.sub {p : Addr × Obj} {l r : List (Addr × Obj)} (d : Del p l r) : p ∈ l ∧ ∀ q ∈ r, q ∈ l := by
  induction d with
  | here => exact ⟨.head _, fun q h => .tail _ h⟩
  | there _ ih => exact ⟨.tail _ ih.1, fun q h => by
      rcases List.mem_cons.mp h with rfl | h
      · exact .head _
      · exact .tail _ (ih.2 q h)⟩
theorem Pick.sub {own l r : List (Addr × Obj)} (d : Pick own l r) : ∀ q ∈ own ++ r, q ∈ l := by
  induction d with
  | nil => exact fun q h => h
  | cons d _ ih =>
    intro q h
    rcases List.mem_cons.mp h with rfl | h
    · exact d.sub.1
    · exact d.sub.2 q (ih q h)

section
variable {w : World} {mean : ExcName → Option Value} {mg mb : Str → Option Value} {f : Addr} {d u : Nat} {own news rest : List (Addr × Obj)} {vs : List Value} {Good : Value → List (Addr × Obj) → Prop} {Bad : Prop}
  {dp un : Nat} {gd : Option (List Code)} {cn : Str} {cs : Scope} {a : Addr} {ccd : Value} {cl : List (Str × Addr)} {outer : List Env} {A₀ : Around} {base h₀ : Heap} {L : Addr} {m : Str → Option Value} {s : Shared}
theorem Spec.use {Q E : Value → Shared → Prop} (S : Spec w mean mg mb f d u own vs Good Bad)
    (B : Below A₀ base outer h₀) (F : Fr h₀ L s.heap m) (X : (hd.heap_1_39 w.params).In h₀) (N : News h₀ L s.heap news) (P : Pick own news rest) (hap : ∀ a ∈ own, ∀ b ∈ rest, a.1 ≠ b.1) (T : Top VV LO mean mg mb h₀) (hk : cs.kind = .function) (hd : dp + d < recursionLimit) (hu : un + u < cLine)
    (good : ∀ r own' h' tk', Fr h₀ L h' m → News h₀ L h' (own' ++ rest) → (∀ a ∈ own', ∀ b ∈ rest, a.1 ≠ b.1) → Good r own' → Q r { s with heap := h', toks := tk' })
    (bad : Bad → ∀ e h' tk', Thrown base h₀ L m (envX cn cs L a ccd cl :: outer) e h' → E (.ref e) { s with heap := h', toks := tk' }) :
    wpAny (model PP w) (ktrTop dp un gd cn cs L a ccd cl outer) (call (.ref f) vs) Q E s :=
  wpAny_call (S _ _ _ _ _ _ _ _ _ _ _ _ _ _ _ _ (fun r s' => match r with | .ok (.ret v) => Q v s' | .ok _ => False | .error e => E e s') B F X (fun q hq => N q (P.sub q hq)) hap T hk hd hu good bad)
theorem Spec.use0 {Q E : Value → Shared → Prop} (S : Spec w mean mg mb f d u [] vs Good Bad)
    (B : Below A₀ base outer h₀) (F : Fr h₀ L s.heap m) (X : (hd.heap_1_39 w.params).In h₀) (N : News h₀ L s.heap news) (T : Top VV LO mean mg mb h₀) (hk : cs.kind = .function) (hd : dp + d < recursionLimit) (hu : un + u < cLine)
    (good : ∀ r own' h' tk', Fr h₀ L h' m → News h₀ L h' (own' ++ news) → (∀ a ∈ own', ∀ b ∈ news, a.1 ≠ b.1) → Good r own' → Q r { s with heap := h', toks := tk' })
    (bad : Bad → ∀ e h' tk', Thrown base h₀ L m (envX cn cs L a ccd cl :: outer) e h' → E (.ref e) { s with heap := h', toks := tk' }) :
    wpAny (model PP w) (ktrTop dp un gd cn cs L a ccd cl outer) (call (.ref f) vs) Q E s :=
  S.use B F X N .nil (fun _ h => nomatch h) T hk hd hu good bad
end

section
variable {M : Model} {A : Around} {E : Value → Shared → Prop} {s' : Shared} {base g h h₀ : Heap} {outer : List Env} {L L' a e : Addr} {m m' : Str → Option Value} {name : Str} {scope : Scope} {cd : Value} {Q : Unit → Shared → Prop} {news : List (Addr × Obj)}
theorem leave_thrown (K : Below A base outer g) (FG : Fr h₀ L g m) (x : Thrown base g L' m' (envOf name scope L' a cd :: outer) e s'.heap)
    (hQ : ∀ h', Thrown base h₀ L m outer e h' → Q () { s' with heap := h' }) :
    wpAny M (A.deeper (envOf name scope L' a cd)) (leaving (envOf name scope L' a cd) (.ref e)) Q E s' := by
  obtain ⟨g₂, F₂, R, U⟩ := x
  exact leave_onSN K F₂ R U fun h' r _ u => hQ h' ⟨g, FG, r, u⟩

/-- a BadDelta as 'raise' makes it -/
structure MadeBad (h h' : Heap) (e : Addr) : Prop where
  keeps : ∀ b o, h.get? b = some o → h'.get? b = some o
  new : h.get? e = none
  there : ∃ ob t, h'.get? e = some ob ∧ ob.cls = .ref 45 ∧ ob.data = .fields #[t, .none, .none, .none, .bool false, .none]

theorem leave_bad (K : Below A base outer g) (FG : Fr h₀ L g m) (hx : MadeBad h s'.heap e) (F : Fr g L' h m')
    (hQ : ∀ h', Thrown base h₀ L m outer e h' → Q () { s' with heap := h' }) (hk : scope.kind = .function := by rfl) :
    wpAny M (A.deeper (envOf name scope L' a cd)) (leaving (envOf name scope L' a cd) (.ref e)) Q E s' := by
  have K' := K.push (name := name) (a := a) (cd := cd) F hk
  have hin : ∀ env ∈ (envOf name scope L' a cd :: outer), ∀ b, env.frame = some b → b ∈ (envOf name scope L' a cd :: outer).filterMap (·.frame) := fun env he b hb => List.mem_filterMap.mpr ⟨env, he, hb⟩
  have st : base.StaysIn (hideAll h ((envOf name scope L' a cd :: outer).filterMap (·.frame))) := fun b o q => hideAll_get _ (K'.stays b o q) fun hm => by
    rw [(K'.frames.mem hm).1] at q; cases q
  have sg : ∀ b o, g.get? b = some o → b ∉ outer.filterMap (·.frame) → (hideAll h ((envOf name scope L' a cd :: outer).filterMap (·.frame))).get? b = some o := fun b o q nm => hideAll_get _ (F.keep b o q) fun hm => by
    rcases kts_mem hm with z | z
    · rw [z, kts_self F] at q
      cases q
    · exact nm z
  obtain ⟨ob, tp, he, hcls, hd⟩ := hx.there
  have hen : (hideAll h ((envOf name scope L' a cd :: outer).filterMap (·.frame))).get? e = none := by
    cases q : (hideAll h ((envOf name scope L' a cd :: outer).filterMap (·.frame))).get? e with
    | none => rfl
    | some o => have := of_hideAll _ q; rw [hx.new] at this; cases this
  refine wpAny_leaving_firstW (a0 := tp) K'.stack ((funFrames_hide K'.frames hin).of_keeps fun b o hb _ => ⟨o, hx.keeps b o hb, rfl⟩) rfl he (fun b o hb => hx.keeps b o (of_hideAll _ hb)) hen hd rfl rfl fun h' hL => ?_
  obtain ⟨k1, ⟨_, _, k2⟩, k3, k4⟩ := hL
  exact hQ h' ⟨g, FG, ⟨_, tp, st, sg, (fun q hq => nomatch hq), k1, hen, k2, by rw [← hcls]; exact k3⟩, ((Heap.UpToSlots.of_keeps F.keep).trans (Heap.UpToSlots.of_keeps hx.keeps)).trans k4⟩
end

theorem news_ne {h₀ h : Heap} {L a b : Addr} {o o' : Obj} {news : List (Addr × Obj)} (N : News h₀ L h news) (h1 : (a, o) ∈ news) (h2 : (b, o') ∈ news) (hc : o.cls ≠ o'.cls) : @Ne Nat a b := by
  intro e
  have e' : a = b := e
  subst e'
  have q1 := (N _ h1).1
  have q2 := (N _ h2).1
  dsimp only at q1 q2
  rw [q1] at q2
  exact hc (congrArg Obj.cls (Option.some.inj q2))
theorem units_make (A : Around) (C : Addr) (vals : List Value) : (A.under (.builtin "type.__call__" ⟨.ref C :: vals, []⟩)).units = A.units + 1 := by
  first | rfl | simp [Around.under, Code.cUnits, Code.frames, Code.isFrame]

theorem ba_mro : mroOf (.type "bytearray") = pure [.type "bytearray", .type "object"] := by rw [mroOf_type]; kernel_rfl
theorem ba_lookup_new : typeLookup (.type "bytearray") "__new__" = pure (some (.builtin "bytearray.__new__")) := by rw [typeLookup_type, builtinLookup_eq_fast]; kernel_rfl
theorem ba_init : Slot "bytearray" "__init__" "bytearray.__init__" :=
  .of (owner := "bytearray") (n := "__init__") (by rw [typeLookup_type, builtinLookup_eq_fast]; kernel_rfl) (by decide +kernel) (by decide +kernel) (by decide +kernel)
    (by first | exact .inl (by decide +kernel) | exact .inr (by decide +kernel)) (by rw [isSubtype_type]; kernel_rfl)
theorem ba_called : TypeCalled "bytearray" "bytearray.__new__" "bytearray.__init__" :=
  ⟨by decide +kernel, by decide +kernel, ⟨_, _, ba_mro⟩, madeBy_type ba_mro ba_lookup_new (by decide +kernel), by decide +kernel, by rw [isSubtype_type]; kernel_rfl, ba_init⟩
theorem ba_typeCall : checkTypeCall "bytearray" ⟨[], []⟩ = pure () := by kernel_rfl
theorem ba_newCall : checkBuiltinCall "bytearray.__new__" ⟨[.type "bytearray"], []⟩ = pure () := by kernel_rfl
theorem ba_entry_new : entryFor table "bytearray.__new__" = some Builtin.«list.__new__» :=
  entryFor_alias (id' := "list.__new__") (by kernel_rfl) (by first | rfl | decide +kernel) (by decide +kernel) (by kernel_rfl)
theorem ba_entry_init : entryFor table "bytearray.__init__" = some Builtin.«bytearray.__init__» := by first | exact entryFor_of_fast (by kernel_rfl) | exact entryFor_of_tree (by kernel_rfl)
theorem ba_plain_new : plainId "bytearray.__new__" = true := by decide +kernel
theorem ba_plain_init : plainId "bytearray.__init__" = true := by decide +kernel
set_option maxRecDepth 1000000 in
theorem ba_owner : ("bytearray.__new__".splitOn ".__new__").headD "" = "bytearray" := by simp +decide [String.splitOn, String.splitOnAux]
theorem ba_sub : isSubtype (.type "bytearray") (.type "bytearray") = pure true := by rw [isSubtype_type]; kernel_rfl
abbrev baObj (b : Array UInt8) : Obj := { cls := .type "bytearray", data := .bytearray b }
section
variable {prog : Program} {w : World} {A : Around} {E : Value → Shared → Prop} {s : Shared}
theorem ba_new {Q₁ : Value → Shared → Prop} (h : Q₁ (.ref s.heap.objs.size) { s with heap := s.heap.push (baObj #[]) }) :
    codeAny (model prog w) A (.call (.builtin "bytearray.__new__") ⟨[.type "bytearray"], []⟩) (wants Q₁ E) s := by
  refine codeAny_of_tree ?_
  show wpAny _ A.in1 (do checkBuiltinCall "bytearray.__new__" ⟨[.type "bytearray"], []⟩; again (.builtin "bytearray.__new__" ⟨[.type "bytearray"], []⟩)) _ _ s
  refine wpAny_bind (wpAny_of_eq ba_newCall (wpAny_pure ⟨plainId_quiet ba_plain_new _, codeAny_builtin_stack ba_entry_new rfl fun p st => ?_⟩))
  rw [Around.under_plainId ba_plain_new _]
  have hsub := ba_sub
  have hown := ba_owner
  obtain ⟨hp, g, d, tk, os⟩ := s
  simp only [hown]
  wp_walk
  exact h
end
theorem ba_lookup_release : typeLookup (.type "bytearray") "__release_buffer__" = pure (some (.builtin "bytearray.__release_buffer__")) := by rw [typeLookup_type, builtinLookup_eq_fast]; kernel_rfl
theorem ba_lookup_buffer : typeLookup (.type "bytearray") "__buffer__" = pure (some (.builtin "bytearray.__buffer__")) := by rw [typeLookup_type, builtinLookup_eq_fast]; kernel_rfl
theorem by_lookup_release : typeLookup (.type "bytes") "__release_buffer__" = pure none := by rw [typeLookup_type, builtinLookup_eq_fast]; kernel_rfl
theorem by_lookup_buffer : typeLookup (.type "bytes") "__buffer__" = pure (some (.builtin "bytes.__buffer__")) := by rw [typeLookup_type, builtinLookup_eq_fast]; kernel_rfl
theorem ba_bind0 : Builtin.Bytes.bindOptional "bytearray.__init__" "bytearray" ["source", "encoding", "errors"] [] [] = pure [none, none, none] := by kernel_rfl
section
variable {M : Model} {A : Around} {E : Value → Shared → Prop} {s : Shared}
theorem ba_own {v : Value} {Q : Bool → Shared → Prop} (hT : s.TypeIs v "bytearray") (h : Q true s) : wpAny M A (Builtin.Bytes.slotIsOwn v "__release_buffer__") Q E s := by
  unfold Builtin.Bytes.slotIsOwn
  refine wpAny_bind (wpAny_specialOf hT ba_lookup_release ?_)
  show wpAny M A (if (!"bytearray.__release_buffer__".endsWith ("." ++ "__release_buffer__")) = true then pure false else isInstance v (.type ("bytearray.__release_buffer__".dropRight ("__release_buffer__".length + 1)))) Q E s
  rw [if_neg (by decide +kernel), show "bytearray.__release_buffer__".dropRight ("__release_buffer__".length + 1) = "bytearray" from by decide +kernel]
  exact wpAny_isInstance hT ba_sub h
theorem ba_ownR {v : Value} {Q : Bool → Shared → Prop} (hT : s.TypeIs v "bytearray") (h : Q false s) : wpAny M A (Builtin.Bytes.ownRelease v) Q E s := by
  unfold Builtin.Bytes.ownRelease
  exact wpAny_bind (ba_own hT (wpAny_pure h))
theorem ba_ownB {v : Value} {Q : Bool → Shared → Prop} (hT : s.TypeIs v "bytearray") (h : Q true s) : wpAny M A (Builtin.Bytes.slotIsOwn v "__buffer__") Q E s := by
  unfold Builtin.Bytes.slotIsOwn
  refine wpAny_bind (wpAny_specialOf hT ba_lookup_buffer ?_)
  show wpAny M A (if (!"bytearray.__buffer__".endsWith ("." ++ "__buffer__")) = true then pure false else isInstance v (.type ("bytearray.__buffer__".dropRight ("__buffer__".length + 1)))) Q E s
  rw [if_neg (by decide +kernel), show "bytearray.__buffer__".dropRight ("__buffer__".length + 1) = "bytearray" from by decide +kernel]
  exact wpAny_isInstance hT ba_sub h
theorem by_ownR {v : Value} {Q : Bool → Shared → Prop} (hT : s.TypeIs v "bytes") (h : Q false s) : wpAny M A (Builtin.Bytes.ownRelease v) Q E s := by
  unfold Builtin.Bytes.ownRelease Builtin.Bytes.slotIsOwn
  refine wpAny_bind (wpAny_bind (wpAny_specialOf hT by_lookup_release (wpAny_pure (wpAny_pure h))))
theorem by_sub : isSubtype (.type "bytes") (.type "bytes") = pure true := by rw [isSubtype_type]; kernel_rfl
theorem by_ownB {v : Value} {Q : Bool → Shared → Prop} (hT : s.TypeIs v "bytes") (h : Q true s) : wpAny M A (Builtin.Bytes.slotIsOwn v "__buffer__") Q E s := by
  unfold Builtin.Bytes.slotIsOwn
  refine wpAny_bind (wpAny_specialOf hT by_lookup_buffer ?_)
  show wpAny M A (if (!"bytes.__buffer__".endsWith ("." ++ "__buffer__")) = true then pure false else isInstance v (.type ("bytes.__buffer__".dropRight ("__buffer__".length + 1)))) Q E s
  rw [if_neg (by decide +kernel), show "bytes.__buffer__".dropRight ("__buffer__".length + 1) = "bytes" from by decide +kernel]
  exact wpAny_isInstance hT by_sub h
theorem ba_type {a : Addr} {b : Array UInt8} (ho : s.heap.get? a = some (baObj b)) : s.TypeIs (.ref a) "bytearray" := ⟨_, ho, rfl⟩
theorem ba_exports {a : Addr} {b : Array UInt8} {Q : Nat → Shared → Prop} (ho : s.heap.get? a = some (baObj b)) (h : Q 0 s) : wpAny M A (Builtin.Bytes.exportsOf (.ref a)) Q E s := by
  unfold Builtin.Bytes.exportsOf
  exact wpAny_bind (wpAny_load ho (wpAny_pure h))
theorem ba_payload {a : Addr} {b : Array UInt8} {Q : Array UInt8 → Shared → Prop} (ho : s.heap.get? a = some (baObj b)) (h : Q b s) : wpAny M A (Builtin.Bytes.payload (.ref a)) Q E s := by
  unfold Builtin.Bytes.payload Builtin.Bytes.payload?
  exact wpAny_bind (wpAny_bind (wpAny_load ho (wpAny_pure (wpAny_pure h))))
theorem ba_write {a : Addr} {b : Array UInt8} {f : Array UInt8 → Array UInt8} {Q : Unit → Shared → Prop} (ho : s.heap.get? a = some (baObj b)) (hz : (f b).size ≤ sizeLine)
    (h : (s.heap.update a (Obj.mapBytearray f)).get? a = some (baObj (f b)) → Q () { s with heap := s.heap.update a (Obj.mapBytearray f) }) : wpAny M A (Builtin.Bytes.write (.ref a) f) Q E s := by
  show wpAny M A (updateBytearray a f) Q E s
  unfold updateBytearray
  refine wpAny_bind (wpAny_load ho ?_)
  show wpAny M A (update a (Obj.mapBytearray f) >>= fun _ => lookBehind a) Q E s
  have h2 : (s.heap.update a (Obj.mapBytearray f)).get? a = some (baObj (f b)) := Heap.get?_update_self (Obj.mapBytearray f) ho rfl
  refine wpAny_bind (wpAny_update ho (wpAny_lookBehind h2 ?_ (h h2)))
  show (if (f b).size > sizeLine then some "bytearray:memory" else none) = none
  rw [if_neg (Nat.not_lt.mpr hz)]
theorem ba_lent {a : Addr} {b : Array UInt8} {Q : Bool → Shared → Prop} (ho : s.heap.get? a = some (baObj b)) (h : Q false s) :
    wpG M A (Builtin.Bytes.exported (.ref a) <||> (do return (← Builtin.Bytes.exportsOf (.ref a)) > 0)) Q E s := by
  refine wpG_bind (wpG_exported ?_)
  show wpG M A (do return decide ((← Builtin.Bytes.exportsOf (.ref a)) > 0)) Q E s
  refine wpG_step (ba_exports ho (wpG_pure ?_))
  exact h
theorem ba_init_tree {a : Addr} {b : Array UInt8} {Q : Fin → Shared → Prop} (ho : s.heap.get? a = some (baObj b))
    (h : (s.heap.update a (Obj.mapBytearray fun _ => #[])).get? a = some (baObj #[]) → Q (.done (.ret .none)) { s with heap := s.heap.update a (Obj.mapBytearray fun _ => #[]) }) :
    wpG M A (Builtin.«bytearray.__init__» ⟨[.ref a], []⟩) Q E s := by
  unfold Builtin.«bytearray.__init__»
  dsimp only
  refine wpG_step (ba_ownR (ba_type ho) ?_)
  rw [if_neg Bool.false_ne_true]
  refine wpG_step (wpAny_of_eq ba_bind0 ?_)
  dsimp only
  refine wpG_step (wpAny_of_eq (a := ()) rfl ?_)
  refine wpG_step (wpAny_of_eq (a := ()) rfl ?_)
  refine wpG_bind (ba_lent ho ?_)
  rw [if_neg Bool.false_ne_true]
  refine wpG_step (ba_write ho (Nat.zero_le _) fun h2 => ?_)
  exact wpG_pure (h h2)
end
section
variable {prog : Program} {w : World} {A : Around} {E : Value → Shared → Prop} {s : Shared}
theorem wpG_no {α : Type} {M : Model} {c : Prop} [Decidable c] {a b : Sem α} {Q : α → Shared → Prop} (hc : ¬ c) (h : wpG M A b Q E s) : wpG M A (if c then a else b) Q E s := by rw [if_neg hc]; exact h
theorem wpG_yes {α : Type} {M : Model} {c : Prop} [Decidable c] {a b : Sem α} {Q : α → Shared → Prop} (hc : c) (h : wpG M A a Q E s) : wpG M A (if c then a else b) Q E s := by rw [if_pos hc]; exact h
theorem codeG_call_builtin {id : String} {args : Args} {b : Builtin} {R : Result → Shared → Prop} (hq : plainId id = true) (hl : noLend (.builtin id args) = true) (hb : entryFor table id = some b)
    (h : wpAny (model prog w) A.in1 (checkBuiltinCall id args) (fun _ s₁ => wpG (model prog w) A.in1 (b args)
      (fun fin s' => match fin with | .done f => R (.ok f) s' | .again c' => c'.quiet = true ∧ noLend c' = true ∧ codeG (model prog w) A c' R s') (fun e s' => R (.error e) s') s₁) (fun e s' => R (.error e) s') s) :
    codeG (model prog w) A (.call (.builtin id) args) R s := by
  refine codeG_of_tree ?_
  show wpG _ A.in1 (do checkBuiltinCall id args; again (.builtin id args)) _ _ s
  refine wpG_step (wpAny_mono h (fun _ s₁ h₁ => wpG_pure ⟨plainId_quiet hq _, hl, codeG_of_tree ?_⟩) fun _ _ x => x)
  rw [Around.under_plainId hq _]
  show wpG _ _ (match entryFor table id with | some b => b args | none => unsupported ((withoutEnding? id "#data").getD id)) _ _ _
  rw [hb]
  exact h₁
theorem ba_noLend (a : Args) : noLend (.builtin "bytearray.__init__" a) = true := by
  show (!lendIds.contains "bytearray.__init__") = true
  decide +kernel
theorem ba_args {a : Addr} : argsOk "bytearray.__init__" ⟨[.ref a], []⟩ := by kernel_rfl
theorem den_builtin {b : Builtin} {id : String} {args : Args} (hb : entryFor table id = some b) : (model prog w).den (.builtin id args) = b args := by
  show (match entryFor table id with | some b => b args | none => unsupported ((withoutEnding? id "#data").getD id)) = _
  rw [hb]
theorem ba_call {Q : Value → Shared → Prop}
    (h : ∀ h', (∀ b o, s.heap.get? b = some o → h'.get? b = some o) → h'.get? s.heap.objs.size = some (baObj #[]) → Q (.ref s.heap.objs.size) { s with heap := h' }) :
    wpG (model prog w) A (call (.type "bytearray") []) Q E s := by
  refine wpG_call (codeG_of_tree ?_)
  show wpG _ _ (callAny (.type "bytearray") _) _ _ _
  refine wpG_pure ⟨Code.quiet_builtin _ (by decide +kernel), by decide +kernel, codeG_of_tree ?_⟩
  rw [den_builtin F.entry_type_call, Around.under_plain (weight_type_call_type "bytearray" [] []) rfl]
  unfold Builtin.«type.__call__»
  dsimp only
  refine wpG_no (by decide) ?_
  refine wpG_no (fun e => Bool.false_ne_true (ba_called.canCreate.symm.trans e)) ?_
  refine wpG_step (wpAny_of_eq ba_typeCall ?_)
  refine wpG_step (wpAny_of_eq ba_mro ?_)
  refine wpG_no (by decide) ?_
  refine wpG_step (wpAny_of_eq ba_called.made ?_)
  dsimp only
  refine wpG_step (wpAny_pure ?_)
  have ho : (s.heap.push (baObj #[])).get? s.heap.objs.size = some (baObj #[]) := Heap.get?_push_size _ rfl
  have next : wpG (model prog w) A.in1 (do
      if !(← isInstance (.ref s.heap.objs.size) (.type "bytearray")) then rule "type.call.new-gave-other-type"; return ← ret (.ref s.heap.objs.size)
      match ← holding [.ref s.heap.objs.size] (callSpecial? (.ref s.heap.objs.size) "__init__" [] []) with
      | none => ret (.ref s.heap.objs.size)
      | some r =>
        if r != .none then
          rule "type.call.init-returned-value"
          raiseError "TypeError" s!"__init__() should return None, not '{← typeNameOf r}'"
        ret (.ref s.heap.objs.size)) (fun fin s' => fin = .done (.ret (.ref s.heap.objs.size)) ∧ Q (.ref s.heap.objs.size) s') E { s with heap := s.heap.push (baObj #[]) } := by
    refine wpG_step (wpAny_isInstance (ba_type ho) ba_sub ?_)
    refine wpG_no (by decide) ?_
    refine wpG_bind (wpG_holding ?_)
    unfold callSpecial?
    refine wpG_step (wpAny_specialOf (ba_type ho) ba_init.lookup ?_)
    dsimp only
    refine wpG_holding (wpG_step (wpAny_of_eq (ba_init.bind _) ?_))
    dsimp only
    refine wpG_bind (wpG_call (codeG_call_builtin ba_plain_init (ba_noLend _) ba_entry_init (ba_init.check _ _ _ _ _ _ _ _ (ba_type ho) ba_args ?_)))
    refine ba_init_tree ho fun h2 => ?_
    dsimp only
    refine wpG_pure ?_
    dsimp only
    refine wpG_no (by decide) (wpG_pure ⟨rfl, h _ (fun b o e => ?_) h2⟩)
    exact (Heap.get?_update_other _ _ (Nat.ne_of_gt (Heap.lt_size e))).trans (Heap.get?_push_of_some _ e)
  have hn : wpAny (model prog w) A.in1 (call (.builtin "bytearray.__new__") [.type "bytearray"]) (fun v s' => v = .ref s.heap.objs.size ∧ s' = { s with heap := s.heap.push (baObj #[]) }) (fun _ _ => False) s :=
    wpAny_call (ba_new ⟨rfl, rfl⟩)
  refine wpG_step (wpAny_holding (wpAny_mono hn (fun v s' hv => ?_) fun _ _ x => x.elim))
  obtain ⟨rfl, rfl⟩ := hv
  refine wpG_mono next (fun fin s' hf => ?_) fun e s' he => he
  obtain ⟨rfl, hQ⟩ := hf
  exact hQ
end

theorem ba_lookup_iadd : typeLookup (.type "bytearray") (dunderI "add") = pure (some (.builtin "bytearray.__iadd__")) := by rw [typeLookup_type, builtinLookup_eq_fast]; kernel_rfl
theorem ba_lookup_add : typeLookup (.type "bytearray") (dunder "add") = pure (some (.builtin "bytearray.__add__")) := by rw [typeLookup_type, builtinLookup_eq_fast]; kernel_rfl
theorem by_lookup_add : typeLookup (.type "bytes") (dunder "add") = pure (some (.builtin "bytes.__add__")) := by rw [typeLookup_type, builtinLookup_eq_fast]; kernel_rfl
theorem by_lookup_radd : typeLookup (.type "bytes") (dunderR "add") = pure none := by rw [typeLookup_type, builtinLookup_eq_fast]; kernel_rfl
theorem ba_lookup_radd : typeLookup (.type "bytearray") (dunderR "add") = pure none := by rw [typeLookup_type, builtinLookup_eq_fast]; kernel_rfl
theorem ba_fills : fillsInplaceSlot (.type "bytearray") "add" true = pure false := by
  unfold fillsInplaceSlot
  dsimp only
  rw [ba_lookup_iadd]
  show (pure ((some (Value.builtin "bytearray.__iadd__")).isSome && !isSeqSlot (some (.builtin "bytearray.__iadd__"))) : Sem Bool) = pure false
  rw [show ((some (Value.builtin "bytearray.__iadd__")).isSome && !isSeqSlot (some (.builtin "bytearray.__iadd__"))) = false from by decide +kernel]
theorem ba_number : fillsNumberSlot (.type "bytearray") "add" = pure false := by
  unfold fillsNumberSlot
  dsimp only
  rw [ba_lookup_add, ba_lookup_radd]
  kernel_rfl
theorem by_number : fillsNumberSlot (.type "bytes") "add" = pure false := by
  unfold fillsNumberSlot
  dsimp only
  rw [by_lookup_add, by_lookup_radd]
  kernel_rfl
theorem ba_seq : seqSlot? (.type "bytearray") (dunderI "add") = pure (some (.builtin "bytearray.__iadd__")) := by
  unfold seqSlot?
  rw [ba_lookup_iadd]
  show (if !isSeqSlot (some (.builtin "bytearray.__iadd__")) then pure none else pure (some (.builtin "bytearray.__iadd__")) : Sem (Option Value)) = _
  rw [if_neg (by decide +kernel)]
theorem ba_iadd_slot : Slot "bytearray" (dunderI "add") "bytearray.__iadd__" :=
  .of (owner := "bytearray") (n := "__iadd__") (by rw [typeLookup_type, builtinLookup_eq_fast]; kernel_rfl) (by decide +kernel) (by decide +kernel) (by decide +kernel)
    (by first | exact .inl (by decide +kernel) | exact .inr (by decide +kernel)) (by rw [isSubtype_type]; kernel_rfl)
theorem ba_entry_iadd : entryFor table "bytearray.__iadd__" = some Builtin.«bytearray.__iadd__» := by first | exact entryFor_of_fast (by kernel_rfl) | exact entryFor_of_tree (by kernel_rfl)
theorem ba_plain_iadd : plainId "bytearray.__iadd__" = true := by decide +kernel
theorem ba_noLend_iadd (a : Args) : noLend (.builtin "bytearray.__iadd__" a) = true := by
  show (!lendIds.contains "bytearray.__iadd__") = true
  decide +kernel
theorem ba_args_iadd (a b : Value) : argsOk "bytearray.__iadd__" ⟨[a, b], []⟩ := by kernel_rfl
section
variable {M : Model} {A : Around} {E : Value → Shared → Prop} {s : Shared}
theorem by_take {b : Array UInt8} {t : Tok} {Q : Option (Array UInt8 × Option Value) → Shared → Prop} (h : Q (some (b, none)) s) :
    wpAny M A (Builtin.Bytes.takeBufferQuiet? "bytearray.__iadd__" (.bytes b t) 0) Q E s := by
  have hT : s.TypeIs (.bytes b t) "bytes" := PySem.W.typeIs_bytes _ _ _
  unfold Builtin.Bytes.takeBufferQuiet?
  refine wpAny_bind (wpAny_attempt ?_)
  unfold Builtin.Bytes.takeBuffer?
  refine wpAny_bind (wpAny_specialOf hT by_lookup_buffer ?_)
  (try dsimp only)
  refine wpAny_bind (by_ownB hT ?_)
  rw [if_neg (by decide)]
  refine wpAny_bind (wpAny_specialOf hT by_lookup_buffer ?_)
  (try dsimp only)
  refine wpAny_bind ?_
  unfold Builtin.Bytes.buffer?
  refine wpAny_bind (wpAny_specialOf hT by_lookup_buffer ?_)
  (try dsimp only)
  refine wpAny_bind (by_ownB hT ?_)
  rw [if_neg (by decide)]
  refine wpAny_bind (wpAny_specialOf hT by_lookup_buffer ?_)
  (try dsimp only)
  refine wpAny_bind (by_ownR hT ?_)
  rw [if_neg Bool.false_ne_true]
  refine wpAny_bind ?_
  unfold Builtin.Bytes.payload Builtin.Bytes.payload?
  refine wpAny_bind (wpAny_pure (wpAny_pure (wpAny_pure (wpAny_pure ?_))))
  exact wpAny_pure h
theorem ba_resize {a : Addr} {b : Array UInt8} {Q : Unit → Shared → Prop} (ho : s.heap.get? a = some (baObj b)) (h : Q () s) : wpG M A (Builtin.Bytes.checkResize (.ref a)) Q E s := by
  unfold Builtin.Bytes.checkResize
  refine wpG_bind (ba_lent ho ?_)
  exact wpG_no Bool.false_ne_true (wpG_pure h)
theorem ba_iadd_tree {a : Addr} {b c : Array UInt8} {t : Tok} {Q : Fin → Shared → Prop} (ho : s.heap.get? a = some (baObj b)) (hz : b.size + c.size ≤ sizeLine)
    (h : (s.heap.update a (Obj.mapBytearray (· ++ c))).get? a = some (baObj (b ++ c)) → Q (.done (.ret (.ref a))) { s with heap := s.heap.update a (Obj.mapBytearray (· ++ c)) }) :
    wpG M A (Builtin.«bytearray.__iadd__» ⟨[.ref a, .bytes c t], []⟩) Q E s := by
  unfold Builtin.«bytearray.__iadd__»
  refine wpG_step (wpAny_of_eq (a := (Value.ref a, [Value.bytes c t])) rfl ?_)
  dsimp only
  refine wpG_step (by_take ?_)
  dsimp only
  show wpG M A (if (!c.isEmpty) = true then _ else _) Q E s
  have last : wpG M A (do
      if Builtin.Bytes.tooLong ((← Builtin.Bytes.payload (.ref a)).size + c.size) then unsupported "bytearray.__iadd__:memory"
      Builtin.Bytes.write (.ref a) (· ++ c)
      ret (.ref a)) Q E s := by
    refine wpG_step (ba_payload ho ?_)
    refine wpG_no (by show ¬ decide (b.size + c.size > sizeLine) = true; simpa using hz) ?_
    refine wpG_step (ba_write ho (by rw [Array.size_append]; exact hz) fun h2 => ?_)
    exact wpG_pure (h h2)
  cases hc : c.isEmpty with
  | true => exact wpG_no (by simp) last
  | false =>
    refine wpG_yes (by simp) ?_
    refine wpG_no (by show ¬ false = true; decide) ?_
    exact wpG_bind (ba_resize ho last)
end
section
variable {prog : Program} {w : World} {A : Around} {E : Value → Shared → Prop} {s : Shared}
theorem ba_iadd {a : Addr} {b c : Array UInt8} {t : Tok} {Q : Value → Shared → Prop} (ho : s.heap.get? a = some (baObj b)) (hz : b.size + c.size ≤ sizeLine)
    (h : (s.heap.update a (Obj.mapBytearray (· ++ c))).get? a = some (baObj (b ++ c)) → Q (.ref a) { s with heap := s.heap.update a (Obj.mapBytearray (· ++ c)) }) :
    wpG (model prog w) A (inplaceOp .Add (.ref a) (.bytes c t)) Q E s := by
  have hT := ba_type ho
  have hB : s.TypeIs (.bytes c t) "bytes" := PySem.W.typeIs_bytes _ _ _
  unfold inplaceOp
  refine wpG_holding ?_
  refine wpG_step (wpAny_typeOf hT ?_)
  refine wpG_step (wpAny_of_eq ba_fills ?_)
  refine wpG_no Bool.false_ne_true ?_
  have h1 : wpAny (model prog w) A (binaryOp1 "add" (.ref a) (.bytes c t)) (fun r s' => r = none ∧ s' = s) E s := by
    unfold binaryOp1
    refine wpAny_bind (wpAny_typeOf hT ?_)
    refine wpAny_bind (wpAny_typeOf hB ?_)
    refine wpAny_bind (wpAny_of_eq ba_number ?_)
    dsimp only
    refine bm_if_false (by decide) ?_
    refine wpAny_bind (wpAny_of_eq by_number ?_)
    simp only [Bool.and_self, Bool.false_and, Bool.false_eq_true, if_false]
    refine wpAny_bind (wpAny_pure ?_)
    simp only [Bool.false_eq_true, if_false]
    exact wpAny_pure ⟨rfl, rfl⟩
  refine wpG_step (wpAny_mono h1 (fun r s' hr => ?_) fun _ _ x => x)
  obtain ⟨rfl, rfl⟩ := hr
  dsimp only
  refine wpG_step (wpAny_of_eq ba_seq ?_)
  dsimp only
  refine wpG_bind (wpG_rule ?_)
  refine wpG_call ?_
  refine codeG_call_builtin ba_plain_iadd (ba_noLend_iadd _) ba_entry_iadd ?_
  refine ba_iadd_slot.check _ _ _ _ _ _ _ _ hT (ba_args_iadd _ _) ?_
  exact ba_iadd_tree ho hz h
theorem ba_no_bytes : typeLookup (.type "bytearray") "__bytes__" = pure none := by rw [typeLookup_type, builtinLookup_eq_fast]; kernel_rfl
theorem ba_no_index : typeLookup (.type "bytearray") "__index__" = pure none := by rw [typeLookup_type, builtinLookup_eq_fast]; kernel_rfl
theorem ba_bytes_new {a : Addr} {b : Array UInt8} {Q : Value → Shared → Prop} (ho : s.heap.get? a = some (baObj b)) (hz : b.size ≤ sizeLine)
    (h : ∀ t k, Q (.bytes b t) { s with toks := k }) : codeAny (model prog w) A (.call (.builtin "bytes.__new__") ⟨[.type "bytes", .ref a], []⟩) (wants Q E) s := by
  have hT := ba_type ho
  refine codeAny_of_tree ?_
  show wpAny _ A.in1 (do checkBuiltinCall "bytes.__new__" ⟨[.type "bytes", .ref a], []⟩; again (.builtin "bytes.__new__" ⟨[.type "bytes", .ref a], []⟩)) _ _ s
  refine wpAny_bind (wpAny_of_eq (F.bm_newCall _) (wpAny_pure ⟨plainId_quiet F.bm_plain _, codeAny_builtin F.bm_entry ?_⟩))
  rw [Around.under_plainId F.bm_plain _]
  unfold Builtin.«bytes.__new__»
  refine wpAny_bind (wpAny_of_eq (a := true) rfl ?_)
  refine bm_if_false rfl ?_
  refine wpAny_bind (wpAny_of_eq F.bm_sub ?_)
  refine bm_if_false rfl ?_
  refine wpAny_bind (wpAny_of_eq (F.bm_bind _) ?_)
  refine wpAny_bind (wpAny_of_eq (a := ()) rfl ?_)
  refine wpAny_bind (wpAny_of_eq (a := ()) rfl ?_)
  refine bm_if_false rfl ?_
  refine wpAny_bind (wpAny_specialOf hT ba_no_bytes ?_)
  refine wpAny_bind (wpAny_bind ?_)
  show wpAny _ _ (load a >>= _) _ _ _
  refine wpAny_bind (wpAny_load ho ?_)
  refine wpAny_pure (wpAny_pure ?_)
  refine bm_if_false rfl ?_
  refine wpAny_bind (wpAny_specialOf hT ba_no_index ?_)
  refine bm_if_true rfl ?_
  have hbuf : ∀ {P : Option (Array UInt8) → Shared → Prop} {E' : Value → Shared → Prop} {A' : Around}, P (some b) s → wpAny (model prog w) A' (Builtin.Bytes.buffer? "bytes.__new__" (.ref a) true) P E' s := by
    intro P E' A' hP
    unfold Builtin.Bytes.buffer?
    refine wpAny_bind (wpAny_specialOf hT ba_lookup_buffer ?_)
    dsimp only
    refine wpAny_bind (ba_ownB hT ?_)
    rw [if_neg (by decide)]
    refine wpAny_bind (wpAny_specialOf hT ba_lookup_buffer ?_)
    (try dsimp only)
    refine wpAny_bind (ba_ownR hT ?_)
    rw [if_neg Bool.false_ne_true]
    exact wpAny_bind (ba_payload ho (wpAny_pure hP))
  first
    | show wpAny _ _ (Builtin.Bytes.buffer? "bytes.__new__" (.ref a) true >>= _) _ _ _
    | (refine wpAny_bind ?_; show wpAny _ _ (Builtin.Bytes.buffer? "bytes.__new__" (.ref a) true >>= _) _ _ _)
  refine wpAny_bind (hbuf ?_)
  dsimp only
  refine wpAny_bind (wpAny_rule ?_)
  refine wpAny_bind (wpAny_mkBytes ?_ hz)
  show wpAny _ _ (if (Value.type "bytes" == Value.type "bytes") = true then _ else _) _ _ _
  refine bm_if_true (by decide) ?_
  first
    | exact wpAny_pure (h _ _)
    | exact wpAny_bind (wpAny_pure (wpAny_pure (h _ _)))
theorem ba_bytes {a : Addr} {b : Array UInt8} {Q : Value → Shared → Prop} (ho : s.heap.get? a = some (baObj b)) (hz : b.size ≤ sizeLine)
    (h : ∀ t k, Q (.bytes b t) { s with toks := k }) : wpAny (model prog w) A (call (.type "bytes") [.ref a]) Q E s := by
  refine callType_codes (Q₁ := fun obj s₁ => s₁.TypeIs obj "bytes" ∧ Q obj s₁) F.bm_called (F.bm_typeCall _) F.entry_object_init
    (ba_bytes_new ho hz fun t k => ⟨PySem.W.typeIs_bytes _ _ _, h t k⟩) fun obj s₁ h₁ => ?_
  exact ⟨h₁.1, F.args_object_init_2 obj _, object_init_meets F.bm_called.init.lookup F.bm_called.made (by decide) prog w A.in1 _ s₁ ⟨h₁.1, rfl, h₁.2⟩⟩
end

section
variable {α : Type} {M : Model} {A : Around} {E : Value → Shared → Prop} {s : Shared} {env : Env}
theorem wpG_cons {st : Stmt} {rest : List Stmt} {Q : Flow → Shared → Prop}
    (h : wpG M A (exec st env) (fun f s' => match f with | .next => wpG M A (execs rest env) Q E s' | f => Q f s') E s) : wpG M A (execs (st :: rest) env) Q E s := by
  rw [execs_cons]
  refine wpG_bind (wpG_mono h (fun f s' h' => ?_) fun _ _ x => x)
  cases f <;> first | exact h' | exact wpG_pure h'
theorem wpG_consA {st : Stmt} {rest : List Stmt} {Q : Flow → Shared → Prop}
    (h : wpAny M A (exec st env) (fun f s' => match f with | .next => wpG M A (execs rest env) Q E s' | f => Q f s') E s) : wpG M A (execs (st :: rest) env) Q E s := wpG_cons (wpG_any h)
theorem wpG_nil {Q : Flow → Shared → Prop} (h : Q .next s) : wpG M A (execs [] env) Q E s := wpG_pure h
theorem wpG_operate {vs : List Value} {m : Sem Value} {Q : Value → Shared → Prop} (h : wpG M A m Q E s) : wpG M A (operate vs m) Q E s := fun Γ p hΓ hG => by
  rw [Sem.wp_operate]; exact h Γ p hΓ hG
theorem wpG_Assign_Name {x : Str} {pos' pos : Pos} {value : Expr} {Q : Flow → Shared → Prop}
    (h : wpG M A (eval value env) (fun v s₁ => wpAny M A (storeName env x v) (fun _ => Q .next) E s₁) E s)
    (hs : swapsWith value (some (.Name x pos')) pos.line env = pure false := by rfl) : wpG M A (exec (.Assign [.Name x pos'] value pos) env) Q E s := by
  rw [exec_Assign_Name _ _ _ _ _ hs]
  refine wpG_step (wpAny_standAt (wpG_bind (wpG_mono h (fun v s₁ h₁ => ?_) fun _ _ x => x)))
  exact wpG_step (wpAny_standAt (wpG_step (wpAny_bindName (wpAny_mono h₁ (fun _ _ q => wpG_pure q) fun _ _ x => x))))
theorem wpG_Assign_Tuple {elts : List Expr} {k : Nat} {tpos pos : Pos} {value : Expr} {Q : Flow → Shared → Prop}
    (h : wpG M A (eval value env) (fun v s₁ => wpAny M A (assign (.Tuple elts k tpos) env v) (fun _ => Q .next) E s₁) E s)
    (hs : swapsWithSole [.Tuple elts k tpos] value pos.line env = pure false := by rfl)
    (hw : swappedStores [.Tuple elts k tpos] value env = pure none := by rfl) :
    wpG M A (exec (.Assign [.Tuple elts k tpos] value pos) env) Q E s := by
  rw [exec_Assign]
  refine wpG_step (wpAny_standAt ?_)
  rw [hs]
  refine wpG_step (wpAny_pure ?_)
  rw [if_neg (by decide)]
  refine wpG_bind (wpG_mono h (fun v s₁ h₁ => ?_) fun _ _ x => x)
  rw [hw]
  refine wpG_step (wpAny_pure ?_)
  show wpG M A (do assignAll v [assign (.Tuple elts k tpos) env]; pure .next) Q E s₁
  exact wpG_step (wpAny_mono h₁ (fun _ _ x => wpG_pure x) fun _ _ x => x)
theorem wpG_AugAssign_Name {x : Str} {pos' pos : Pos} {op : Operator} {value : Expr} {Q : Flow → Shared → Prop}
    (h : wpAny M A (loadName env x) (fun old s₁ => wpAny M A (eval value env) (fun v s₂ => wpG M A (inplaceOp op old v)
      (fun r s₃ => wpAny M A (storeName env x r) (fun _ => Q .next) E s₃) E s₂) E s₁) E s) :
    wpG M A (exec (.AugAssign (.Name x pos') op value pos) env) Q E s := by
  rw [exec_AugAssign_Name]
  refine wpG_step (wpAny_standAt (wpG_step (wpAny_mono h (fun old s₁ h₁ => ?_) fun _ _ x => x)))
  refine wpG_step (wpAny_holding (wpAny_mono h₁ (fun v s₂ h₂ => ?_) fun _ _ x => x))
  refine wpG_step (wpAny_standAt (wpG_bind (wpG_operate (wpG_mono h₂ (fun r s₃ h₃ => ?_) fun _ _ x => x))))
  exact wpG_step (wpAny_standAt (wpG_step (wpAny_bindName (wpAny_mono h₃ (fun _ _ q => wpG_pure q) fun _ _ x => x))))
theorem wpG_If {test : Expr} {body orelse : List Stmt} {pos : Pos} {Q : Flow → Shared → Prop}
    (h : wpG M A (isTrue test env (eval test env)) (fun b s₂ => if b then wpG M A (execs body env) Q E s₂ else wpG M A (execs orelse env) Q E s₂) E s) :
    wpG M A (exec (.If test body orelse pos) env) Q E s := by
  rw [exec_If]
  refine wpG_step (wpAny_standAt (wpG_bind (wpG_mono h (fun b s₂ h₂ => ?_) fun _ _ x => x)))
  cases b <;> exact h₂
theorem wpG_Return {e : Expr} {pos : Pos} {Q : Flow → Shared → Prop} (h : wpG M A (eval e env) (fun v => Q (.ret v)) E s) : wpG M A (exec (.Return (some e) pos) env) Q E s := by
  show wpG M A (do standAt pos; return .ret (← eval e env)) Q E s
  exact wpG_step (wpAny_standAt (wpG_bind (wpG_mono h (fun _ _ q => wpG_pure q) fun _ _ x => x)))
theorem wpG_callWith_of {P : Heap → Prop} {pos : Pos} {f : Value} {first : List Value} {Q : Value → Shared → Prop} {args : List (Bool × Sem Value)} {keywords : List (Option Str × Sem Value)} (hplain : (args.any (·.1) || keywords.any (·.1.isNone)) = false)
    (hk : ∀ h, P h → ∃ k, (k = Keeper.frame ∨ k = Keeper.machine ∨ k = Keeper.boundFrame) ∧ Looks M h (keeperOf f) k)
    (h : wpAny M A (evalArgs f true args keywords) (fun a s₁ => P s₁.heap ∧ wpG M A (call f (first ++ a.pos) a.kw) Q E s₁) E s) : wpG M A (callWith pos f first args keywords) Q E s := by
  unfold callWith
  refine wpG_step (wpAny_holding (wpAny_mono h (fun a s₁ h₁ => wpG_step (wpAny_standAt ?_)) fun _ _ x => x))
  obtain ⟨k, hk', L⟩ := hk _ h₁.1
  simp only [hplain]
  refine wpG_step (L.here ?_)
  have tail : ∀ {t : Sem Value}, wpG M A t Q E s₁ → wpG M A (t >>= fun r => holding [r] point >>= fun _ => pure r) Q E s₁ :=
    fun ht => wpG_bind (wpG_mono ht (fun r s₂ hr => wpG_step (wpAny_holding (wpAny_point (wpG_pure hr)))) fun _ _ x => x)
  have marked (mk : Value) : wpG M A (callMarked mk f (first ++ a.pos) a.kw) Q E s₁ := by unfold callMarked; exact wpG_keep h₁.2
  rcases hk' with rfl | rfl | rfl <;> dsimp only <;> first | exact tail h₁.2 | (split <;> first | exact tail h₁.2 | exact tail (marked _))
theorem wpG_callWith_K {K : Frag} {pos : Pos} {f : Value} {first : List Value} {Q : Value → Shared → Prop} {e : Expr} {rest : List Expr} (hk : keepIn K f = true)
    (h : wpAny M A (spliced (backTo pos (starEach (e :: rest) env))) (fun vs s₁ => K.In s₁.heap ∧ wpG M A (call f (first ++ vs)) Q E s₁) E s)
    (he : starEach (e :: rest) env = (false, eval e env) :: starEach rest env := by rfl) (hplain : (backTo pos (starEach rest env)).any (·.1) = false := by rfl) :
    wpG M A (callWith pos f first (backTo pos (starEach (e :: rest) env)) []) Q E s := by
  rw [he] at h ⊢
  exact wpG_callWith_of (by show ((false || (backTo pos (starEach rest env)).any (·.1)) || false) = false; rw [hplain]; rfl) (keeps_K hk) (evalArgs_plain h)
theorem wpG_callWith_type0 {pos : Pos} {T : String} {Q : Value → Shared → Prop} (h : wpG M A (call (.type T) []) Q E s) : wpG M A (callWith pos (.type T) [] (backTo pos (starEach [] env)) []) Q E s :=
  wpG_callWith_of (P := fun _ => True) rfl (fun _ _ => ⟨.machine, .inr (.inl rfl), .now⟩) (evalArgs_nil3 ⟨trivial, h⟩)
theorem wpG_Call_Name {x : Str} {p pos : Pos} {args : List Expr} {Q : Value → Shared → Prop}
    (h : wpAny M A (eval (.Name x p) env) (fun f s₁ => wpG M A (callWith pos f [] (backTo pos (starEach args env)) []) Q E s₁) E s) :
    wpG M A (eval (.Call (.Name x p) args [] pos) env) Q E s := wpG_step h
theorem wpG_noted {m : Sem α} {Q : α → Shared → Prop} (h : wpG M A m Q (notedBy M A env E) s) : wpG M A (m.onRaise fun x => do noteFrame x env; theTreesLotGoes x) Q E s :=
  wpG_onRaise (wpG_mono h (fun _ _ q => q) fun _ _ hx => wpAny_bind (wpAny_mono hx (fun _ _ e => wpAny_theTreesLotGoes e) fun _ _ e => e))
theorem wpG_runOwn {c : Code} {h : Option Value} {Q : Flow → Shared → Prop} (hl : noLend c = true)
    (hc : codeG M (A.mark h) c (fun r s' => match r with | .ok f => Q f s' | .error e => cameBackBy M A env E e s') s) (hnb : h ≠ some byPass := by intro x; cases x) :
    wpG M A (runOwn c env h) Q E s := by
  unfold runOwn
  exact wpG_onRaise (wpG_run hl hc hnb)
theorem wpG_For {target iter : Expr} {body orelse : List Stmt} {pos : Pos} {Q : Flow → Shared → Prop}
    (h : wpAny M A (eval iter env) (fun x s₁ => wpAny M A (pyIter x) (fun it s₂ =>
      codeG M A (.forLoop target it body orelse env) (fun r s' => match r with | .ok f => Q f s' | .error e => cameBackBy M A env E e s') s₂) E s₁) E s)
    (hs : ∀ x, foldedSetIterable iter env x = pure x := by intro _; rfl) :
    wpG M A (exec (.For target iter body orelse pos) env) Q E s := by
  rw [exec_For]
  refine wpG_step (wpAny_standAt (wpG_step (wpAny_mono h (fun x s₁ h₁ => wpG_step (wpAny_of_eq (hs x) (wpG_step (wpAny_standAt (wpG_step (wpAny_holding
    (wpAny_mono h₁ (fun it s₂ h₂ => wpG_runOwn rfl h₂) fun _ _ h' => h'))))))) fun _ _ h' => h')))
end
section
variable {prog : Program} {w : World} {A : Around} {R : Result → Shared → Prop} {s : Shared} {env : Env}
theorem codeG_forLoop {target : Expr} {it : Value} {body orelse : List Stmt} (I : Nat → Shared → Prop)
    (turn : ∀ n s, I n s → wpAny (model prog w) A (pyNext it) (fun r s₁ => match r with
      | none => wpAny (model prog w) A (execs orelse env) (fun f s₃ => R (.ok f) s₃) (notedBy (model prog w) A env fun e s' => R (.error e) s') s₁
      | some v => wpAny (model prog w) A (assign target env v) (fun _ s₂ => wpG (model prog w) A (execs body env) (fun f s₃ => match f with
          | .next | .cont => ∃ m, m < n ∧ I m s₃
          | .brk => R (.ok .next) s₃
          | .ret v => R (.ok (.ret v)) s₃) (notedBy (model prog w) A env fun e s' => R (.error e) s') s₂) (notedBy (model prog w) A env fun e s' => R (.error e) s') s₁) (notedBy (model prog w) A env fun e s' => R (.error e) s') s)
    (n : Nat) (h : I n s) (ht : ∀ v, letOwnedTupleGo target it v = pure () := by intro _; rfl) : codeG (model prog w) A (.forLoop target it body orelse env) R s := by
  refine codeG_loop rfl rfl I (fun n s hI => ?_) n h
  show wpG _ _ ((forTurn target it body orelse env).onRaise (fun x => do noteFrame x env; theTreesLotGoes x)) _ _ s
  refine wpG_noted ?_
  simp only [forTurn]
  refine wpG_step (wpAny_standAt (wpG_step (wpAny_onRaise (wpAny_mono (turn n s hI) (fun r s₁ h₁ => ?_) fun _ _ h' => wpAny_standAt h'))))
  cases r with
  | none => exact wpG_pure (.inr ⟨rfl, rfl, codeG_any (codeAny_block h₁)⟩)
  | some v =>
    refine wpG_step (wpAny_of_eq (ht v) ?_)
    refine wpG_step (wpAny_mono h₁ (fun _ s₂ h₂ => wpG_bind (wpG_mono h₂ (fun f s₃ h₃ => ?_) fun _ _ h' => h')) fun _ _ h' => h')
    cases f with
    | next => exact wpG_pure (.inl ⟨rfl, h₃⟩)
    | cont => exact wpG_pure (.inl ⟨rfl, h₃⟩)
    | brk => exact wpG_pure h₃
    | ret v => exact wpG_pure h₃
theorem codeG_func {body : List Stmt}
    (h : wpG (model prog w) (A.deeper env) (execs body env) (fun f s' => R (.ok (.ret (match f with | .ret v => v | _ => .none))) s')
      (fun e s' => wpAny (model prog w) (A.deeper env) (leaving env e) (fun _ s'' => R (.error e) s'') (fun e' s'' => R (.error e') s'') s') s) :
    codeG (model prog w) A (.func body env) R s := by
  refine codeG_of_tree ?_
  show wpG _ (A.deeper env) (do point; match ← (execs body env).onRaise (leaving env) with | .ret v => ret v | _ => ret .none) _ _ s
  refine wpG_step (wpAny_point (wpG_bind (wpG_onRaise (wpG_mono h (fun f s' h' => ?_) fun _ _ h' => h'))))
  cases f <;> exact wpG_pure h'
theorem codeG_call_def {a : Addr} {o : Obj} {fd : FuncData} {body : List Stmt} {args : Args} {binds : List (Str × Value)}
    (hroom : A.depth < recursionLimit) (ho : s.heap.get? a = some o) (hdata : o.data = .func fd) (hlim : s.heap.NoLimit) (hcd : s.heap.CodeRec fd.code fd.qualname)
    (hbody : fd.body = .stmts body) (hbind : BindsTo s fd args binds)
    (hcell : ∀ x ∈ fd.scope.names, x.2 ≠ .cell) (hloc : ∀ x ∈ binds, fd.scope.names.lookup x.1 = some .local)
    (h : ∀ h₀, h₀.Ns s.heap.objs.size (fun x => binds.reverse.lookup x) → (∀ b o, s.heap.get? b = some o → h₀.get? b = some o) →
      wpG (model prog w) (A.deeper (callEnv fd s.heap.objs.size a)) (execs body (callEnv fd s.heap.objs.size a)) (fun f s' => R (.ok (.ret (match f with | .ret v => v | _ => .none))) s')
        (fun e s' => wpAny (model prog w) (A.deeper (callEnv fd s.heap.objs.size a)) (leaving (callEnv fd s.heap.objs.size a) e) (fun _ s'' => R (.error e) s'') (fun e' s'' => R (.error e') s'') s')
        { s with heap := h₀, toks := s.toks + binds.length })
    (hco : fd.scope.isCoroutine = false := by rfl) (hgen : fd.scope.isGenerator = false := by rfl) (hk : fd.scope.kind = .function := by rfl) :
    codeG (model prog w) A (.call (.ref a) args) R s := by
  refine codeG_of_tree ?_
  show wpG _ A.in1 (callAny (.ref a) args) _ _ s
  simp only [callAny]
  refine wpG_step (wpAny_load ho ?_)
  obtain ⟨c, oc, vs, tq, hc, hoc, hdc, hq⟩ := hcd
  simp only [hdata, callFunction, hco, hgen, hbody, hc]
  refine wpG_step (m := field (.ref c) 1) (wpAny_field hoc hdc hq (wpG_step (wpAny_pure ?_)))
  refine wpG_step (hbind _ _ _ _ ?_)
  refine wpG_step ?_
  rw [← hc]
  refine wpAny_newFunctionEnv hcell hloc (fun h₀ hns₀ hsb₀ => ?_) hk
  refine wpG_step (wpAny_enterFrame (hlim.fresh _ hsb₀) hroom (wpG_pure ⟨rfl, rfl, codeG_func (h h₀ hns₀ fun b o e => ?_)⟩))
  exact hsb₀.extBut b o (Nat.ne_of_lt (Heap.lt_size e)) (Heap.get?_push_of_some _ e)
end

/-- an iterator's object -/
def isIter (o : Obj) : Prop := o.cls = .type "list_iterator" ∨ o.cls = .type "range_iterator"
def offIter (p : Addr × Obj) : Prop := p.2.cls ≠ .type "list_iterator" ∧ p.2.cls ≠ .type "range_iterator"
theorem off_ne {h₀ h : Heap} {L a b : Addr} {o o' : Obj} {news : List (Addr × Obj)} (N : News h₀ L h news) (h1 : (a, o) ∈ news) (h2 : (b, o') ∈ news) (hi : isIter o) (hf : offIter (b, o')) : @Ne Nat a b :=
  news_ne N h1 h2 fun e => hi.elim (fun h => hf.1 (e.symm.trans h)) fun h => hf.2 (e.symm.trans h)
/-- a turn's end: nothing is asked of the addresses but that the iterator stands -/
def FreeEnd {σ : Type} (h₀ : Heap) (L : Addr) (I : Addr) (o : Obj) (x : Str) (Led : σ → List (Addr × Obj)) (ps : σ → List (Str × Value)) (stored : List Str) (m₀ : Str → Option Value) (Pn : σ → Prop) (s₁ s₂ : Shared) : Prop :=
  ∃ (c : σ) (h' : Heap) (tk : Nat) (m' : Str → Option Value) (news' : List (Addr × Obj)), s₂ = { s₁ with heap := h', toks := tk } ∧ Fr h₀ L h' m' ∧ News h₀ L h' news' ∧ (I, o) ∈ news' ∧ (∀ p ∈ Led c, p ∈ news') ∧ (∀ p ∈ Led c, offIter p) ∧
    (∀ p ∈ ps c, m' p.1 = some p.2) ∧ (∀ z, z ≠ x → (∀ p ∈ ps c, z ≠ p.1) → stored.contains z = false → m' z = m₀ z) ∧ Pn c
def FreePost {σ : Type} (h₀ : Heap) (L : Addr) (I : Addr) (o : Obj) (x : Str) (Led : σ → List (Addr × Obj)) (ps : σ → List (Str × Value)) (stored : List Str) (m₀ : Str → Option Value) (Pn : σ → Prop) (s₁ : Shared) (Q : Flow → Shared → Prop) (f : Flow) (s₂ : Shared) : Prop :=
  match f with
  | .ret v => Q (.ret v) s₂
  | .brk => Q .next s₂
  | _ => FreeEnd h₀ L I o x Led ps stored m₀ Pn s₁ s₂
theorem free_end {σ : Type} {h₀ : Heap} {L : Addr} {I : Addr} {o : Obj} {x : Str} {Led : σ → List (Addr × Obj)} {ps : σ → List (Str × Value)} {stored : List Str} {m₀ m' : Str → Option Value} {Pn : σ → Prop} {s₁ : Shared} {h' : Heap} {tk : Nat} {news' : List (Addr × Obj)} (c : σ)
    (F : Fr h₀ L h' m') (N : News h₀ L h' news') (hI : (I, o) ∈ news') (hn : ∀ p ∈ Led c, p ∈ news') (hoff : ∀ p ∈ Led c, offIter p) (hk : ∀ p ∈ ps c, m' p.1 = some p.2) (hr : ∀ z, z ≠ x → (∀ p ∈ ps c, z ≠ p.1) → stored.contains z = false → m' z = m₀ z) (hp : Pn c) :
    FreeEnd h₀ L I o x Led ps stored m₀ Pn s₁ { s₁ with heap := h', toks := tk } := ⟨c, h', tk, m', news', rfl, F, N, hI, hn, hoff, hk, hr, hp⟩
/-- what holds between the turns -/
def FreeJ {σ : Type} (x : Str) (Led : σ → List (Addr × Obj)) (ps : σ → List (Str × Value)) (stored : List Str) (m₀ : Str → Option Value) (P : Nat → σ → Prop) (i : Nat) (m : Str → Option Value) (nx : List (Addr × Obj)) : Prop :=
  ∃ c : σ, nx = Led c ∧ (∀ p ∈ Led c, offIter p) ∧ (∀ p ∈ ps c, m p.1 = some p.2) ∧ (∀ z, z ≠ x → (∀ p ∈ ps c, z ≠ p.1) → stored.contains z = false → m z = m₀ z) ∧ P i c
theorem iter_off {h₀ h : Heap} {L I : Addr} {o : Obj} {news : List (Addr × Obj)} (N : News h₀ L h news) (hI : (I, o) ∈ news) (hi : isIter o) {nx : List (Addr × Obj)} (hn : ∀ p ∈ nx, p ∈ news) (hoff : ∀ p ∈ nx, offIter p) : ∀ p ∈ nx, p.1 ∉ [I] := by
  intro p hp hm
  exact off_ne N hI (hn p hp) hi (hoff p hp) (List.mem_singleton.mp hm).symm
theorem own_news {h₀ h : Heap} {L : Addr} {own news fp : List _} (hown : ∀ p ∈ own, p.1 ∈ fp) (hget : ∀ p ∈ own, h.get? p.1 = some p.2) (N : News h₀ L h news) (hfp : ∀ b ∈ fp, (∃ o, h₀.get? b = some o) ∨ ∃ o, (b, o) ∈ news) (hnew : ∀ p ∈ own, h₀.get? p.1 = none) : ∀ p ∈ own, p ∈ news := by
  intro p hp
  rcases hfp _ (hown p hp) with ⟨o, ho⟩ | ⟨o, ho⟩
  · rw [hnew p hp] at ho
    cases ho
  · have q := (N _ ho).1
    dsimp only at q
    rw [hget p hp] at q
    have e : p = (p.1, o) := by rw [← Option.some.inj q]
    rw [e]
    exact ho
/-- LoopAtV with the turn in wpG -/
def LoopAtG (prog : Program) (w : World) (A : Around) (h₀ : Heap) (env : Env) (x : Str) (body : List Stmt) (Q : Flow → Shared → Prop) (E : Value → Shared → Prop) (it : Value) (s₂ : Shared) : Prop :=
  ∃ (I : Addr) (fp wr : List Addr) (n : Nat) (P : Nat → Value → Prop) (St : Nat → Heap → Prop) (m : Str → Option Value) (news : List (Addr × Obj)) (J : Nat → (Str → Option Value) → List (Addr × Obj) → Prop),
    it = .ref I ∧ Walks prog w A I fp wr n P St ∧ env.locals ∉ fp ∧ (∀ b ∈ wr, h₀.get? b = none) ∧ (∀ p ∈ news, p.1 ∉ wr) ∧ St 0 s₂.heap ∧ Fr h₀ env.locals s₂.heap m ∧ News h₀ env.locals s₂.heap news ∧ J 0 m news ∧
    (∀ i v m₁ news₁ s₁ own, (∃ h tk, s₁ = { s₂ with heap := h, toks := tk }) → i < n → P i v → J i m₁ news₁ → (∀ p ∈ news₁, p.1 ∉ wr) → (∀ p ∈ own, p.1 ∈ fp) → (∀ p ∈ own, s₁.heap.get? p.1 = some p.2) → (∀ b ∈ fp, h₀.get? b = none → ∀ o, s₁.heap.get? b = some o → (b, o) ∈ own) → St (i + 1) s₁.heap →
      Fr h₀ env.locals s₁.heap (fun y => if y = x then some v else m₁ y) → News h₀ env.locals s₁.heap (own ++ news₁) →
      wpG (model prog w) A (execs body env) (LoopStepV h₀ env.locals wr own (J (i + 1)) s₁ (fun v s' => Q (.ret v) s') fun s' => Q .next s') E s₁) ∧
    ∀ h' tk m' news', Fr h₀ env.locals h' m' → News h₀ env.locals h' news' → (∀ p ∈ news', p.1 ∉ wr) → J n m' news' → Q .next { s₂ with heap := h', toks := tk }
section
variable {prog : Program} {w : World} {A : Around} {s : Shared} {env : Env} {h₀ : Heap}
theorem LoopAtG.go {E : Value → Shared → Prop} {Q : Flow → Shared → Prop} {x : Str} {px : Pos} {body : List Stmt} {it : Value} (hx : env.kindOf x = some .local)
    (hp : (env.scope.kind == .class || (env.scope.kind == .module && env.locals != env.globals)) = false) (hE : PassesOwn (model prog w) A env E) (h : LoopAtG prog w A h₀ env x body Q E it s) :
    codeG (model prog w) A (.forLoop (.Name x px) it body [] env) (fun r s' => match r with | .ok f => Q f s' | .error e => cameBackBy (model prog w) A env E e s') s := by
  obtain ⟨I, fp, wr, n, P, St, m, news, J, rfl, W, hLf, hwr, hnw, hst, F, N, h0, step, hR⟩ := h
  have hLw : env.locals ∉ wr := fun h => hLf (W.sub _ h)
  have old : ∀ b o, h₀.get? b = some o → b ∉ wr := fun b o e hb => by rw [hwr b hb] at e; cases e
  refine codeG_forLoop
    (fun k s' => ∃ h' tk m' news' i, s' = { s with heap := h', toks := tk } ∧ St i h' ∧ Fr h₀ env.locals h' m' ∧ News h₀ env.locals h' news' ∧ (∀ p ∈ news', p.1 ∉ wr) ∧ J i m' news' ∧ i ≤ n ∧ k = n + 1 - i) ?_ (n + 1)
    ⟨s.heap, s.toks, m, news, 0, rfl, hst, F, N, hnw, h0, Nat.zero_le _, rfl⟩
  rintro k s' ⟨h', tk, m', news', i, rfl, hst', F', N', hnw', hJ, hi, rfl⟩
  have next : ∀ h₁ : Heap, (∀ b o, b ∉ wr → h'.get? b = some o → h₁.get? b = some o) → Fr h₀ env.locals h₁ m' ∧ News h₀ env.locals h₁ news' := fun h₁ hk₁ =>
    ⟨⟨F'.ns.at' fun o e => hk₁ _ o hLw e, fun b o e => hk₁ b o (old b o e) (F'.keep b o e), F'.above⟩, fun p hp => ⟨hk₁ _ _ (hnw' p hp) (N' p hp).1, (N' p hp).2⟩⟩
  by_cases hlt : i < n
  · refine W.item i _ _ _ hlt hst' fun v h₁ tk₁ hP hst₁ hk₁ => ?_
    obtain ⟨F₁, N₁⟩ := next h₁ hk₁
    refine wpAny_assign_Name (wpAny_storeName_local hx F₁.ns (fun h₂ hn₂ hs₂ => ?_) hp)
    have F₂ := F₁.set hn₂ hs₂
    have Nown : News h₀ env.locals h₂ (ownOf h₀ fp h₂) := news_ownOf hLf
    have hst₂ : St (i + 1) h₂ := W.frame _ _ _ hst₁ fun b hb o e => (hs₂.2 b fun q => hLf (q ▸ hb)).trans e
    have keepSt : ∀ h₃ : Heap, (∀ b o, h₀.get? b = some o → h₃.get? b = some o) → News h₀ env.locals h₃ (ownOf h₀ fp h₂) → St (i + 1) h₃ := fun h₃ k₃ N₃ => by
      refine W.frame _ _ _ hst₂ fun b hb o e₂ => ?_
      cases hn : h₀.get? b with
      | some o₀ =>
        have : o₀ = o := by have := F₂.keep b o₀ hn; rw [e₂] at this; exact (Option.some.inj this).symm
        exact this ▸ k₃ b o₀ hn
      | none => exact (N₃ _ (mem_ownOf hb hn e₂)).1
    refine wpG_mono (step i v m' news' _ (ownOf h₀ fp h₂) ⟨_, _, rfl⟩ hlt hP hJ hnw' ownOf_sub (fun p hp => (Nown p hp).1) (fun b hb hn o e => mem_ownOf hb hn e) hst₂ F₂ (Nown.append (N₁.set hs₂))) (fun f s₃ h₃ => ?_) fun e s₃ he => hE e s₃ he
    cases f with
    | ret v => exact h₃
    | brk => exact h₃
    | cont =>
      obtain ⟨_, h₃', tk₃, m₂, news₂, rfl, F₃, N₃, ha₃, hJ₃⟩ := h₃
      exact ⟨n + 1 - (i + 1), by omega, h₃', tk₃, m₂, news₂, i + 1, rfl, keepSt _ F₃.keep fun p hp => N₃ p (List.mem_append_left _ hp), F₃, N₃.right, ha₃, hJ₃, hlt, rfl⟩
    | next =>
      obtain ⟨_, h₃', tk₃, m₂, news₂, rfl, F₃, N₃, ha₃, hJ₃⟩ := h₃
      exact ⟨n + 1 - (i + 1), by omega, h₃', tk₃, m₂, news₂, i + 1, rfl, keepSt _ F₃.keep fun p hp => N₃ p (List.mem_append_left _ hp), F₃, N₃.right, ha₃, hJ₃, hlt, rfl⟩
  · have hin : i = n := by omega
    subst hin
    refine W.done _ _ _ hst' fun h₁ tk₁ hk₁ => wpAny_execs_nil ?_
    obtain ⟨F₁, N₁⟩ := next h₁ hk₁
    exact hR h₁ tk₁ m' news' F₁ N₁ hnw' hJ
end
section
variable {prog : Program} {w : World} {A : Around} {E : Value → Shared → Prop} {s : Shared} {env : Env} {h₀ : Heap} {x : Str} {body : List Stmt} {Q : Flow → Shared → Prop}
/-- a loop over a list of the ledger; addresses free -/
theorem free_list {σ : Type} {l : Addr} {vs : List Value} {nn : Nat} {m₀ : Str → Option Value} (Led : σ → List (Addr × Obj)) (ps : σ → List (Str × Value)) (stored : List Str) (P : Nat → σ → Prop) (c₀ : σ)
    (hh : A.handled = none) (hl : ∀ c : σ, (l, listOf vs.toArray nn) ∈ Led c) (F : Fr h₀ env.locals s.heap m₀) (N : News h₀ env.locals s.heap (Led c₀)) (hoff : ∀ p ∈ Led c₀, offIter p) (hk : ∀ p ∈ ps c₀, m₀ p.1 = some p.2) (hp : P 0 c₀)
    (turn : ∀ (c : σ) (i : Nat) (v : Value) (u : Str → Option Value) h tk I o, vs[i]? = some v → isIter o → (∀ p ∈ Led c, offIter p) → P i c →
      Fr h₀ env.locals h (fun y => if y = x then some v else kstB (fun z => if stored.contains z then u z else m₀ z) (ps c) y) → News h₀ env.locals h ((I, o) :: Led c) →
      wpAny (model prog w) A (execs body env) (FreePost h₀ env.locals I o x Led ps stored m₀ (P (i + 1)) { s with heap := h, toks := tk } Q) E { s with heap := h, toks := tk })
    (done : ∀ (c : σ) (u : Str → Option Value) h tk, P vs.length c → Fr h₀ env.locals h (fun y => if y = x then u y else kstB (fun z => if stored.contains z then u z else m₀ z) (ps c) y) → News h₀ env.locals h (Led c) → Q .next { s with heap := h, toks := tk }) :
    wpAny (model prog w) A (pyIter (.ref l)) (fun it s₂ => LoopAtV prog w A h₀ env x body Q E it s₂) E s := by
  have hls : s.heap.IsList l vs.toArray := N.isList (hl c₀)
  have hll := (N _ (hl c₀)).1
  have hne : l ≠ s.heap.objs.size := Nat.ne_of_lt (Heap.lt_size hll)
  refine wpAny_pyIter_list hls ?_
  have W := Walks.list (prog := prog) (w := w) hh s.heap.objs.size l hne vs.toArray
  have hlen : vs.toArray.size = vs.length := by simp
  rw [hlen] at W
  refine ⟨_, _, _, vs.length, _, _, m₀, Led c₀, FreeJ x Led ps stored m₀ P, rfl, W, ?_, ?_, ?_, ⟨⟨_, Heap.get?_push_size _ rfl, rfl, rfl⟩, hls.at fun o e => Heap.get?_push_of_some _ e⟩, F.push _, (fun p hp => ⟨Heap.get?_push_of_some _ (N p hp).1, (N p hp).2⟩), ⟨c₀, rfl, hoff, hk, fun _ _ _ _ => rfl, hp⟩, ?_, ?_⟩
  · intro hm
    rcases List.mem_cons.mp hm with e | hm
    · exact absurd F.ns.lt (e ▸ Nat.lt_irrefl _)
    · exact (N _ (hl c₀)).2.1 (List.mem_singleton.mp hm).symm
  · intro b hb
    rw [List.mem_singleton.mp hb]
    exact next_is_new F
  · intro p hp hI
    exact absurd (Heap.lt_size (N p hp).1) ((List.mem_singleton.mp hI) ▸ Nat.lt_irrefl _)
  · rintro i v m₁ nx s₁ own ⟨hh', tk', rfl⟩ hin hP ⟨c, rfl, hf', h1, h2, hp'⟩ hoff' hown hget hall hst F₁ N₁
    obtain ⟨o, ho, hc, _⟩ := hst.1
    have hi : isIter o := .inl hc
    have hI : (s.heap.objs.size, o) ∈ own := hall _ (by simp) (next_is_new F) o ho
    have Nc : News h₀ env.locals hh' ((s.heap.objs.size, o) :: Led c) := fun p hp => by
      rcases List.mem_cons.mp hp with rfl | hp
      · exact N₁ _ (List.mem_append_left _ hI)
      · exact N₁ _ (List.mem_append_right _ hp)
    have hv : vs[i]? = some v := by simpa using hP
    refine wpAny_mono (turn c i v m₁ hh' tk' s.heap.objs.size o hv hi hf' hp' (kst_fr h1 h2 F₁) Nc) (fun f s₂ p => ?_) fun _ _ e => e
    have fin : FreeEnd h₀ env.locals s.heap.objs.size o x Led ps stored m₀ (P (i + 1)) { s with heap := hh', toks := tk' } s₂ → LoopStepU h₀ env.locals [s.heap.objs.size] own (FreeJ x Led ps stored m₀ P (i + 1)) { s with heap := hh', toks := tk' } .next s₂ := by
      rintro ⟨c', h', tk, m', news', e, F', N', hI', hn, hof, hk', hr', hP'⟩
      refine ⟨rfl, h', tk, m', Led c', e, F', fun p hp => N' p ?_, iter_off N' hI' hi hn hof, c', rfl, hof, hk', hr', hP'⟩
      rcases List.mem_append.mp hp with hp | hp
      · have hpo : p ∈ (s.heap.objs.size, o) :: Led c := own_news hown hget Nc (fun b hb => .inr (by
          rcases List.mem_cons.mp hb with rfl | hb
          · exact ⟨o, .head _⟩
          · rw [List.mem_singleton.mp hb]
            exact ⟨_, .tail _ (hl c)⟩)) (fun p hp => (N₁ p (List.mem_append_left _ hp)).2.2) p hp
        have hb := hown p hp
        rcases List.mem_cons.mp hb with hb | hb
        · have e1 := (Nc _ hpo).1
          rw [hb, ho] at e1
          have : p = (s.heap.objs.size, o) := by rw [← hb]; exact congrArg (Prod.mk p.1) (Option.some.inj e1).symm
          rw [this]
          exact hI'
        · have hb := List.mem_singleton.mp hb
          have e1 := (Nc _ hpo).1
          rw [hb, (Nc _ (.tail _ (hl c))).1] at e1
          have : p = (l, listOf vs.toArray nn) := by rw [← hb]; exact congrArg (Prod.mk p.1) (Option.some.inj e1).symm
          rw [this]
          exact hn _ (hl c')
      · exact hn p hp
    cases f with
    | ret v => exact .ret p
    | brk => exact .brk p
    | next => exact .next (fin p)
    | cont => exact .cont (fin p)
  · rintro h' tk m' news' F' N' _ ⟨c, rfl, hf', h1, h2, hp'⟩
    exact done c m' h' tk hp' (kst_frOut h1 h2 F') N'
/-- the same over a range by ones -/
theorem free_range {σ : Type} {r : Addr} {a₀ b₀ : Int} {t₀ u₀ v₀ : Tok} {n : Nat} {m₀ : Str → Option Value} (Led : σ → List (Addr × Obj)) (ps : σ → List (Str × Value)) (stored : List Str) (P : Nat → σ → Prop) (c₀ : σ)
    (hh : A.handled = none) (hr : IsRange s.heap r a₀ b₀ 1 t₀ u₀ v₀) (hsmall : Builtin.Range.small a₀ b₀ 1 = true) (hn : Builtin.Range.rangeSize a₀ b₀ 1 = (n : Int)) (F : Fr h₀ env.locals s.heap m₀) (N : News h₀ env.locals s.heap (Led c₀)) (hoff : ∀ p ∈ Led c₀, offIter p) (hk : ∀ p ∈ ps c₀, m₀ p.1 = some p.2) (hp : P 0 c₀)
    (turn : ∀ (c : σ) (i : Nat) (t : Tok) (u : Str → Option Value) h tk I o, i < n → isIter o → (∀ p ∈ Led c, offIter p) → P i c →
      Fr h₀ env.locals h (fun y => if y = x then some (.int (a₀ + (i : Int)) t) else kstB (fun z => if stored.contains z then u z else m₀ z) (ps c) y) → News h₀ env.locals h ((I, o) :: Led c) →
      wpAny (model prog w) A (execs body env) (FreePost h₀ env.locals I o x Led ps stored m₀ (P (i + 1)) { s with heap := h, toks := tk } Q) E { s with heap := h, toks := tk })
    (done : ∀ (c : σ) (u : Str → Option Value) h tk, P n c → Fr h₀ env.locals h (fun y => if y = x then u y else kstB (fun z => if stored.contains z then u z else m₀ z) (ps c) y) → News h₀ env.locals h (Led c) → Q .next { s with heap := h, toks := tk }) :
    wpAny (model prog w) A (pyIter (.ref r)) (fun it s₂ => LoopAtV prog w A h₀ env x body Q E it s₂) E s := by
  refine wpAny_pyIter_range hr hsmall ?_
  have W : Walks prog w A s.heap.objs.size [s.heap.objs.size] [s.heap.objs.size] n (fun i v => i < n ∧ ∃ t, v = .int (a₀ + i * 1) t)
      (fun i h => IsRangeIter h s.heap.objs.size (a₀ + (i : Nat) * 1) ((n : Int) - (i : Nat)) 1) := (Walks.range hh _ a₀ 1 n).bound
  refine ⟨_, _, _, n, _, _, m₀, Led c₀, FreeJ x Led ps stored m₀ P, rfl, W, ?_, ?_, ?_, (by show IsRangeIter _ _ _ _ _; rw [hn]; simpa using Heap.get?_push_size _ rfl), F.push _, (fun p hp => ⟨Heap.get?_push_of_some _ (N p hp).1, (N p hp).2⟩), ⟨c₀, rfl, hoff, hk, fun _ _ _ _ => rfl, hp⟩, ?_, ?_⟩
  · intro hm
    exact absurd F.ns.lt ((List.mem_singleton.mp hm) ▸ Nat.lt_irrefl _)
  · intro b hb
    rw [List.mem_singleton.mp hb]
    exact next_is_new F
  · intro p hp hI
    exact absurd (Heap.lt_size (N p hp).1) ((List.mem_singleton.mp hI) ▸ Nat.lt_irrefl _)
  · rintro i v m₁ nx s₁ own ⟨hh', tk', rfl⟩ hin hP ⟨c, rfl, hf', h1, h2, hp'⟩ hoff' hown hget hall hst F₁ N₁
    obtain ⟨o, ho, hi⟩ : ∃ o, hh'.get? s.heap.objs.size = some o ∧ isIter o := ⟨_, hst, .inr rfl⟩
    have hI : (s.heap.objs.size, o) ∈ own := hall _ (by simp) (next_is_new F) o ho
    have Nc : News h₀ env.locals hh' ((s.heap.objs.size, o) :: Led c) := fun p hp => by
      rcases List.mem_cons.mp hp with rfl | hp
      · exact N₁ _ (List.mem_append_left _ hI)
      · exact N₁ _ (List.mem_append_right _ hp)
    obtain ⟨hin', t, rfl⟩ := hP
    have e1 : a₀ + (i : Int) * 1 = a₀ + (i : Int) := by omega
    rw [e1] at F₁
    refine wpAny_mono (turn c i t m₁ hh' tk' s.heap.objs.size o hin' hi hf' hp' (kst_fr h1 h2 F₁) Nc) (fun f s₂ p => ?_) fun _ _ e => e
    have fin : FreeEnd h₀ env.locals s.heap.objs.size o x Led ps stored m₀ (P (i + 1)) { s with heap := hh', toks := tk' } s₂ → LoopStepU h₀ env.locals [s.heap.objs.size] own (FreeJ x Led ps stored m₀ P (i + 1)) { s with heap := hh', toks := tk' } .next s₂ := by
      rintro ⟨c', h', tk, m', news', e, F', N', hI', hn, hof, hk', hr', hP'⟩
      refine ⟨rfl, h', tk, m', Led c', e, F', fun p hp => N' p ?_, iter_off N' hI' hi hn hof, c', rfl, hof, hk', hr', hP'⟩
      rcases List.mem_append.mp hp with hp | hp
      · have hpo : p ∈ (s.heap.objs.size, o) :: Led c := own_news hown hget Nc (fun b hb => .inr (by
          rw [List.mem_singleton.mp hb]
          exact ⟨o, .head _⟩)) (fun p hp => (N₁ p (List.mem_append_left _ hp)).2.2) p hp
        have hb := List.mem_singleton.mp (hown p hp)
        have e1 := (Nc _ hpo).1
        rw [hb, ho] at e1
        have : p = (s.heap.objs.size, o) := by rw [← hb]; exact congrArg (Prod.mk p.1) (Option.some.inj e1).symm
        rw [this]
        exact hI'
      · exact hn p hp
    cases f with
    | ret v => exact .ret p
    | brk => exact .brk p
    | next => exact .next (fin p)
    | cont => exact .cont (fin p)
  · rintro h' tk m' news' F' N' _ ⟨c, rfl, hf', h1, h2, hp'⟩
    exact done c m' h' tk hp' (kst_frOut h1 h2 F') N'
/-- the same in wpG -/
theorem free_listG {σ : Type} {l : Addr} {vs : List Value} {nn : Nat} {m₀ : Str → Option Value} (Led : σ → List (Addr × Obj)) (ps : σ → List (Str × Value)) (stored : List Str) (P : Nat → σ → Prop) (c₀ : σ)
    (hh : A.handled = none) (hl : ∀ c : σ, (l, listOf vs.toArray nn) ∈ Led c) (F : Fr h₀ env.locals s.heap m₀) (N : News h₀ env.locals s.heap (Led c₀)) (hoff : ∀ p ∈ Led c₀, offIter p) (hk : ∀ p ∈ ps c₀, m₀ p.1 = some p.2) (hp : P 0 c₀)
    (turn : ∀ (c : σ) (i : Nat) (v : Value) (u : Str → Option Value) h tk I o, vs[i]? = some v → isIter o → (∀ p ∈ Led c, offIter p) → P i c →
      Fr h₀ env.locals h (fun y => if y = x then some v else kstB (fun z => if stored.contains z then u z else m₀ z) (ps c) y) → News h₀ env.locals h ((I, o) :: Led c) →
      wpG (model prog w) A (execs body env) (FreePost h₀ env.locals I o x Led ps stored m₀ (P (i + 1)) { s with heap := h, toks := tk } Q) E { s with heap := h, toks := tk })
    (done : ∀ (c : σ) (u : Str → Option Value) h tk, P vs.length c → Fr h₀ env.locals h (fun y => if y = x then u y else kstB (fun z => if stored.contains z then u z else m₀ z) (ps c) y) → News h₀ env.locals h (Led c) → Q .next { s with heap := h, toks := tk }) :
    wpAny (model prog w) A (pyIter (.ref l)) (fun it s₂ => LoopAtG prog w A h₀ env x body Q E it s₂) E s := by
  have hls : s.heap.IsList l vs.toArray := N.isList (hl c₀)
  have hll := (N _ (hl c₀)).1
  have hne : l ≠ s.heap.objs.size := Nat.ne_of_lt (Heap.lt_size hll)
  refine wpAny_pyIter_list hls ?_
  have W := Walks.list (prog := prog) (w := w) hh s.heap.objs.size l hne vs.toArray
  have hlen : vs.toArray.size = vs.length := by simp
  rw [hlen] at W
  refine ⟨_, _, _, vs.length, _, _, m₀, Led c₀, FreeJ x Led ps stored m₀ P, rfl, W, ?_, ?_, ?_, ⟨⟨_, Heap.get?_push_size _ rfl, rfl, rfl⟩, hls.at fun o e => Heap.get?_push_of_some _ e⟩, F.push _, (fun p hp => ⟨Heap.get?_push_of_some _ (N p hp).1, (N p hp).2⟩), ⟨c₀, rfl, hoff, hk, fun _ _ _ _ => rfl, hp⟩, ?_, ?_⟩
  · intro hm
    rcases List.mem_cons.mp hm with e | hm
    · exact absurd F.ns.lt (e ▸ Nat.lt_irrefl _)
    · exact (N _ (hl c₀)).2.1 (List.mem_singleton.mp hm).symm
  · intro b hb
    rw [List.mem_singleton.mp hb]
    exact next_is_new F
  · intro p hp hI
    exact absurd (Heap.lt_size (N p hp).1) ((List.mem_singleton.mp hI) ▸ Nat.lt_irrefl _)
  · rintro i v m₁ nx s₁ own ⟨hh', tk', rfl⟩ hin hP ⟨c, rfl, hf', h1, h2, hp'⟩ hoff' hown hget hall hst F₁ N₁
    obtain ⟨o, ho, hc, _⟩ := hst.1
    have hi : isIter o := .inl hc
    have hI : (s.heap.objs.size, o) ∈ own := hall _ (by simp) (next_is_new F) o ho
    have Nc : News h₀ env.locals hh' ((s.heap.objs.size, o) :: Led c) := fun p hp => by
      rcases List.mem_cons.mp hp with rfl | hp
      · exact N₁ _ (List.mem_append_left _ hI)
      · exact N₁ _ (List.mem_append_right _ hp)
    have hv : vs[i]? = some v := by simpa using hP
    refine wpG_mono (turn c i v m₁ hh' tk' s.heap.objs.size o hv hi hf' hp' (kst_fr h1 h2 F₁) Nc) (fun f s₂ p => ?_) fun _ _ e => e
    have fin : FreeEnd h₀ env.locals s.heap.objs.size o x Led ps stored m₀ (P (i + 1)) { s with heap := hh', toks := tk' } s₂ → LoopStepU h₀ env.locals [s.heap.objs.size] own (FreeJ x Led ps stored m₀ P (i + 1)) { s with heap := hh', toks := tk' } .next s₂ := by
      rintro ⟨c', h', tk, m', news', e, F', N', hI', hn, hof, hk', hr', hP'⟩
      refine ⟨rfl, h', tk, m', Led c', e, F', fun p hp => N' p ?_, iter_off N' hI' hi hn hof, c', rfl, hof, hk', hr', hP'⟩
      rcases List.mem_append.mp hp with hp | hp
      · have hpo : p ∈ (s.heap.objs.size, o) :: Led c := own_news hown hget Nc (fun b hb => .inr (by
          rcases List.mem_cons.mp hb with rfl | hb
          · exact ⟨o, .head _⟩
          · rw [List.mem_singleton.mp hb]
            exact ⟨_, .tail _ (hl c)⟩)) (fun p hp => (N₁ p (List.mem_append_left _ hp)).2.2) p hp
        have hb := hown p hp
        rcases List.mem_cons.mp hb with hb | hb
        · have e1 := (Nc _ hpo).1
          rw [hb, ho] at e1
          have : p = (s.heap.objs.size, o) := by rw [← hb]; exact congrArg (Prod.mk p.1) (Option.some.inj e1).symm
          rw [this]
          exact hI'
        · have hb := List.mem_singleton.mp hb
          have e1 := (Nc _ hpo).1
          rw [hb, (Nc _ (.tail _ (hl c))).1] at e1
          have : p = (l, listOf vs.toArray nn) := by rw [← hb]; exact congrArg (Prod.mk p.1) (Option.some.inj e1).symm
          rw [this]
          exact hn _ (hl c')
      · exact hn p hp
    cases f with
    | ret v => exact .ret p
    | brk => exact .brk p
    | next => exact .next (fin p)
    | cont => exact .cont (fin p)
  · rintro h' tk m' news' F' N' _ ⟨c, rfl, hf', h1, h2, hp'⟩
    exact done c m' h' tk hp' (kst_frOut h1 h2 F') N'
end

section
variable {prog : Program} {w : World} {A A₀ : Around} {s : Shared} {K : Frag} {L : Addr} {h₀ base : Heap} {m mg mb : Str → Option Value} {own rest : List (Addr × Obj)} {p : Program} {loose : List Str} {mean : ExcName → Option Value}
theorem code_ownG {env : Env} {outer : List Env} {R : Result → Shared → Prop} {name qual : Str} {params : Arguments} {body : List Stmt} {scope : Scope} {dV kV doc pm cdv ct oc : Value} {an od : Option Addr} {osl : Array (Option Value)} {f : Addr} {args : Args} {binds : List (Str × Value)}
    (B : Below A₀ base outer h₀) (F : Fr h₀ L s.heap m) (X₀ : K.In h₀) (N : News h₀ L s.heap (own ++ rest)) (hap : ∀ a ∈ own, ∀ b ∈ rest, a.1 ≠ b.1) (T : Top p loose mean mg mb h₀) (hA : A.frames = some (env :: outer)) (hf : env.frame = some L) (hke : env.scope.kind = .function)
    (ho : K.lookup f = some ⟨oc, od, .func (fnOf name qual params body scope dV kV doc pm an cdv ct), osl⟩) (hcd : codeIn K cdv qual = true) (hroom : A.depth < recursionLimit)
    (hbind : BindsTo s (fnOf name qual params body scope dV kV doc pm an cdv ct) args binds) (hloc : ∀ y ∈ binds, scope.names.lookup y.1 = some .local)
    (h : ∀ g L' h₁, Fr h₀ L g m → Fr g L' h₁ (fun y => binds.reverse.lookup y) → News g L' h₁ own → Below A base (env :: outer) g → K.In g → Top p loose mean mg mb g → (∀ q ∈ rest, g.get? q.1 = some q.2) →
      wpG (model prog w) (A.deeper (envOf qual scope L' f cdv)) (execs body (envOf qual scope L' f cdv))
        (fun fl s' => LeaveR h₀ L m g rest R (match fl with | .ret v => v | _ => .none) s')
        (fun e s' => wpAny (model prog w) (A.deeper (envOf qual scope L' f cdv)) (leaving (envOf qual scope L' f cdv) e) (fun _ s'' => R (.error e) s'') (fun e' s'' => R (.error e') s'') s')
        { s with heap := h₁, toks := s.toks + binds.length })
    (hco : scope.isCoroutine = false) (hgen : scope.isGenerator = false) (hk : scope.kind = .function)
    (hcell : ∀ x ∈ scope.names, x.2 ≠ .cell) : codeG (model prog w) A (.call (.ref f) args) R s := by
  have No : News h₀ L s.heap own := fun q hq => N q (List.mem_append_left _ hq)
  obtain ⟨FG, BG, st, lv⟩ := groundX (R := R) B F No hA hf hke
  have hr : ∀ q ∈ rest, (hideAll s.heap (own.map (·.1))).get? q.1 = some q.2 := fun q hq =>
    hideAll_get _ (N q (List.mem_append_right _ hq)).1 fun hm => by
      obtain ⟨a, ha, e⟩ := List.mem_map.mp hm
      exact hap a ha q hq e
  refine codeG_call_def (fd := fnOf name qual params body scope dV kV doc pm an cdv ct) (body := body) (binds := binds) hroom ((X₀.keeps F.keep) _ _ ho) rfl (T.nolimit.keeps F.keep) (codeRec_of (X₀.keeps F.keep) hcd) rfl hbind hcell hloc (fun h₁ hns hk₁ => ?_) hco hgen hk
  exact wpG_mono (h _ s.heap.objs.size h₁ FG ⟨hns, fun b o e => hk₁ b o (of_hideAll _ e), Nat.le_of_eq (hideAll_size _ _)⟩
    (fun p hp => ⟨hk₁ _ _ (No p hp).1, Nat.ne_of_lt (Heap.lt_size (No p hp).1), hideAll_none _ (List.mem_map_of_mem hp)⟩) BG (X₀.keeps st) (T.keeps st) hr)
    (fun fl s' hl => lv _ _ (leaveR_K (fun q hq => ⟨hr q hq, (N q (List.mem_append_right _ hq)).2⟩) hl)) fun _ _ y => y
end

/-- a contract in wpG -/
def SpecG (w : World) (mean : ExcName → Option Value) (mg mb : Str → Option Value) (f : Addr) (d u : Nat) (own : List (Addr × Obj)) (vs : List Value) (Good : Value → List (Addr × Obj) → Prop) (Bad : Prop) : Prop :=
  ∀ (dp un : Nat) (gd : Option (List Code)) (cn : Str) (cs : Scope) (a : Addr) (ccd : Value) (cl : List (Str × Addr)) (outer : List Env) (A₀ : Around) (base h₀ : Heap) (L : Addr) (m : Str → Option Value) (rest : List (Addr × Obj)) (s : Shared) (R : Result → Shared → Prop),
    Below A₀ base outer h₀ → Fr h₀ L s.heap m → (hd.heap_1_39 w.params).In h₀ → News h₀ L s.heap (own ++ rest) → (∀ a ∈ own, ∀ b ∈ rest, a.1 ≠ b.1) → Top VV LO mean mg mb h₀ → cs.kind = .function → dp + d < recursionLimit → un + u < cLine →
    (∀ r own' h' tk', Fr h₀ L h' m → News h₀ L h' (own' ++ rest) → Good r own' → R (.ok (.ret r)) { s with heap := h', toks := tk' }) →
    (Bad → ∀ e h' tk', Thrown base h₀ L m (envX cn cs L a ccd cl :: outer) e h' → R (.error (.ref e)) { s with heap := h', toks := tk' }) →
    codeG (model PP w) (ktrTop dp un gd cn cs L a ccd cl outer) (.call (.ref f) ⟨vs, []⟩) R s


section
variable {w : World} {mean : ExcName → Option Value} {mg mb : Str → Option Value} {f : Addr} {d u : Nat} {own news rest : List (Addr × Obj)} {vs : List Value} {Good : Value → List (Addr × Obj) → Prop} {Bad : Prop}
  {dp un : Nat} {gd : Option (List Code)} {cn : Str} {cs : Scope} {a : Addr} {ccd : Value} {cl : List (Str × Addr)} {outer : List Env} {A₀ : Around} {base h₀ : Heap} {L : Addr} {m : Str → Option Value} {s : Shared}
theorem SpecG.use {Q E : Value → Shared → Prop} (S : SpecG w mean mg mb f d u own vs Good Bad)
    (B : Below A₀ base outer h₀) (F : Fr h₀ L s.heap m) (X : (hd.heap_1_39 w.params).In h₀) (N : News h₀ L s.heap news) (P : Pick own news rest) (hap : ∀ a ∈ own, ∀ b ∈ rest, a.1 ≠ b.1) (T : Top VV LO mean mg mb h₀) (hk : cs.kind = .function) (hd : dp + d < recursionLimit) (hu : un + u < cLine)
    (good : ∀ r own' h' tk', Fr h₀ L h' m → News h₀ L h' (own' ++ rest) → Good r own' → Q r { s with heap := h', toks := tk' })
    (bad : Bad → ∀ e h' tk', Thrown base h₀ L m (envX cn cs L a ccd cl :: outer) e h' → E (.ref e) { s with heap := h', toks := tk' }) :
    wpG (model PP w) (ktrTop dp un gd cn cs L a ccd cl outer) (call (.ref f) vs) Q E s :=
  wpG_call (S _ _ _ _ _ _ _ _ _ _ _ _ _ _ _ _ (fun r s' => match r with | .ok (.ret v) => Q v s' | .ok _ => False | .error e => E e s') B F X (fun q hq => N q (P.sub q hq)) hap T hk hd hu good bad)
theorem SpecG.use0 {Q E : Value → Shared → Prop} (S : SpecG w mean mg mb f d u [] vs Good Bad)
    (B : Below A₀ base outer h₀) (F : Fr h₀ L s.heap m) (X : (hd.heap_1_39 w.params).In h₀) (N : News h₀ L s.heap news) (T : Top VV LO mean mg mb h₀) (hk : cs.kind = .function) (hd : dp + d < recursionLimit) (hu : un + u < cLine)
    (good : ∀ r own' h' tk', Fr h₀ L h' m → News h₀ L h' (own' ++ news) → Good r own' → Q r { s with heap := h', toks := tk' })
    (bad : Bad → ∀ e h' tk', Thrown base h₀ L m (envX cn cs L a ccd cl :: outer) e h' → E (.ref e) { s with heap := h', toks := tk' }) :
    wpG (model PP w) (ktrTop dp un gd cn cs L a ccd cl outer) (call (.ref f) vs) Q E s :=
  S.use B F X N .nil (fun _ h => nomatch h) T hk hd hu good bad
end

def offEnum (p : Addr × Obj) : Prop := p.2.cls ≠ .type "enumerate" ∧ p.2.cls ≠ .type "list_iterator"
def EnumEnd {σ : Type} (h₀ : Heap) (L : Addr) (I1 I2 : Addr) (o1 o2 : Obj) (Led : σ → List (Addr × Obj)) (ps : σ → List (Str × Value)) (stored : List Str) (m₀ : Str → Option Value) (Pn : σ → Prop) (s₁ s₂ : Shared) : Prop :=
  ∃ (c : σ) (h' : Heap) (tk : Nat) (m' : Str → Option Value) (news' : List (Addr × Obj)), s₂ = { s₁ with heap := h', toks := tk } ∧ Fr h₀ L h' m' ∧ News h₀ L h' news' ∧ (I1, o1) ∈ news' ∧ (I2, o2) ∈ news' ∧ (∀ p ∈ Led c, p ∈ news') ∧ (∀ p ∈ Led c, offEnum p) ∧
    (∀ p ∈ ps c, m' p.1 = some p.2) ∧ (∀ z, (∀ p ∈ ps c, z ≠ p.1) → stored.contains z = false → m' z = m₀ z) ∧ Pn c
def EnumPost {σ : Type} (h₀ : Heap) (L : Addr) (I1 I2 : Addr) (o1 o2 : Obj) (Led : σ → List (Addr × Obj)) (ps : σ → List (Str × Value)) (stored : List Str) (m₀ : Str → Option Value) (Pn : σ → Prop) (s₁ : Shared) (Q : Flow → Shared → Prop) (f : Flow) (s₂ : Shared) : Prop :=
  match f with
  | .ret v => Q (.ret v) s₂
  | .brk => Q .next s₂
  | _ => EnumEnd h₀ L I1 I2 o1 o2 Led ps stored m₀ Pn s₁ s₂
theorem enum_end {σ : Type} {h₀ : Heap} {L : Addr} {I1 I2 : Addr} {o1 o2 : Obj} {Led : σ → List (Addr × Obj)} {ps : σ → List (Str × Value)} {stored : List Str} {m₀ m' : Str → Option Value} {Pn : σ → Prop} {s₁ : Shared} {h' : Heap} {tk : Nat} {news' : List (Addr × Obj)} (c : σ)
    (F : Fr h₀ L h' m') (N : News h₀ L h' news') (h1 : (I1, o1) ∈ news') (h2 : (I2, o2) ∈ news') (hn : ∀ p ∈ Led c, p ∈ news') (hoff : ∀ p ∈ Led c, offEnum p) (hk : ∀ p ∈ ps c, m' p.1 = some p.2) (hr : ∀ z, (∀ p ∈ ps c, z ≠ p.1) → stored.contains z = false → m' z = m₀ z) (hp : Pn c) :
    EnumEnd h₀ L I1 I2 o1 o2 Led ps stored m₀ Pn s₁ { s₁ with heap := h', toks := tk } := ⟨c, h', tk, m', news', rfl, F, N, h1, h2, hn, hoff, hk, hr, hp⟩
section
variable {prog : Program} {w : World} {A : Around} {E : Value → Shared → Prop} {s : Shared} {env : Env} {h₀ : Heap} {body : List Stmt} {Q : Flow → Shared → Prop}
theorem enum_rest {σ : Type} {elts : List Expr} {kk : Nat} {pos : Pos} {I : Addr} {l : Addr} {lo : Obj} {m₀ : Str → Option Value} (Led : σ → List (Addr × Obj)) (ps : σ → List (Str × Value)) (stored : List Str) (P : Nat → σ → Prop) (vs : List Value)
    (hl : ∀ c : σ, (l, lo) ∈ Led c)
    (turn : ∀ (c : σ) (i : Nat) (v : Value) (t : Tok) (u : Str → Option Value) h tk T I1 I2 o1 o2, vs[i]? = some v → o1.cls = .type "enumerate" → o2.cls = .type "list_iterator" → (∀ p ∈ Led c, offEnum p) → P i c → IsTup h T #[.int (i : Int) t, v] →
      Fr h₀ env.locals h (kstB (fun z => if stored.contains z then u z else m₀ z) (ps c)) → News h₀ env.locals h ((I1, o1) :: (I2, o2) :: Led c) →
      wpAny (model prog w) A (assign (.Tuple elts kk pos) env (.ref T)) (fun _ s₂ => wpAny (model prog w) A (execs body env) (EnumPost h₀ env.locals I1 I2 o1 o2 Led ps stored m₀ (P (i + 1)) { s with heap := h, toks := tk } Q) E s₂) E { s with heap := h, toks := tk })
    (done : ∀ (c : σ) (u : Str → Option Value) h tk, P vs.length c → Fr h₀ env.locals h (kstB (fun z => if stored.contains z then u z else m₀ z) (ps c)) → News h₀ env.locals h (Led c) → Q .next { s with heap := h, toks := tk }) :
    ∀ (rs : List Value) (i : Nat), vs.drop i = rs → ∀ (m : Str → Option Value) (news : List (Addr × Obj)), (∃ c, news = Led c ∧ (∀ p ∈ Led c, offEnum p) ∧ (∀ p ∈ ps c, m p.1 = some p.2) ∧ (∀ z, (∀ p ∈ ps c, z ≠ p.1) → stored.contains z = false → m z = m₀ z) ∧ P i c) → i ≤ vs.length →
      ItemsRest prog w A E h₀ env (.Tuple elts kk pos) body Q s [(I + 1, "enumerate"), (I, "list_iterator")] [(l, lo)] (enumItems i rs) m news
  | [], i, hd, m, news, ⟨c, hn, hoff, h1, h2, hp⟩, hi => by
    intro h tk F N
    have e : i = vs.length := by
      have := congrArg List.length hd
      simp only [List.length_drop, List.length_nil] at this
      omega
    subst e hn
    exact done c m h tk hp (ksw_fr h1 h2 F) N
  | v :: rs, i, hd, m, news, ⟨c, hn, hoff, h1, h2, hp⟩, hi => by
    subst hn
    have hv : vs[i]? = some v := by
      have := congrArg (fun l => l[0]?) hd
      simpa using this
    have hlt : i < vs.length := by
      rcases Nat.lt_or_ge i vs.length with h | h
      · exact h
      · rw [List.getElem?_eq_none h] at hv
        cases hv
    have hd2 : vs.drop (i + 1) = rs := by
      have := congrArg (List.drop 1) hd
      simpa using this
    refine ItemsRest.pair fun T t h tk hT F => ?_
    refine AllObj.cons fun o1 ho1 => AllObj.cons fun o2 ho2 => AllObj.nil fun N => ?_
    refine wpAny_mono (turn c i v t m h tk T (I + 1) I o1 o2 hv ho1 ho2 hoff hp hT (ksw_fr h1 h2 F) (by simpa using N)) (fun _ s₂ x => wpAny_mono x (fun f s₃ p => ?_) fun _ _ e => e) fun _ _ e => e
    have fin : EnumEnd h₀ env.locals (I + 1) I o1 o2 Led ps stored m₀ (P (i + 1)) { s with heap := h, toks := tk } s₃ → UnrEndW h₀ env.locals { s with heap := h, toks := tk } [(I + 1, o1), (I, o2)] (fun m' n' => SubL [(l, lo)] n' ∧ ItemsRest prog w A E h₀ env (.Tuple elts kk pos) body Q s [(I + 1, "enumerate"), (I, "list_iterator")] [(l, lo)] (enumItems (i + 1) rs) m' n') s₃ := by
      rintro ⟨c', h', tk', m', news', e, F', N', hI1, hI2, hn, hof, hk', hr', hP'⟩
      refine ⟨h', tk', m', Led c', e, F', fun p hp => ?_, fun p hp q hq e9 => ?_, And.intro (hl c') trivial, enum_rest Led ps stored P vs hl turn done rs (i + 1) hd2 m' (Led c') ⟨c', rfl, hof, hk', hr', hP'⟩ hlt⟩
      · rcases List.mem_append.mp hp with hp | hp
        · rcases List.mem_cons.mp hp with rfl | hp
          · exact N' _ hI1
          · rw [List.mem_singleton.mp hp]
            exact N' _ hI2
        · exact N' _ (hn p hp)
      · have q1 := (N' _ (hn p hp)).1
        rcases List.mem_cons.mp hq with rfl | hq
        · have q2 := (N' _ hI1).1
          dsimp only at q2 e9
          rw [e9, q2] at q1
          exact (hof p hp).1 ((congrArg Obj.cls (Option.some.inj q1)).symm.trans ho1)
        · rw [List.mem_singleton.mp hq] at e9
          have q2 := (N' _ hI2).1
          dsimp only at q2 e9
          rw [e9, q2] at q1
          exact (hof p hp).2 ((congrArg Obj.cls (Option.some.inj q1)).symm.trans ho2)
    cases f with
    | ret v => exact p
    | brk => exact p
    | next => exact fin p
    | cont => exact fin p
/-- a loop over enumerate(list); addresses free -/
theorem free_enum {σ : Type} {elts : List Expr} {kk : Nat} {pos : Pos} {l : Addr} {vs : List Value} {nn : Nat} {m₀ : Str → Option Value} (Led : σ → List (Addr × Obj)) (ps : σ → List (Str × Value)) (stored : List Str) (P : Nat → σ → Prop) (c₀ : σ)
    (hh : A.handled = none) (hl : ∀ c : σ, (l, listOf vs.toArray nn) ∈ Led c) (F : Fr h₀ env.locals s.heap m₀) (N : News h₀ env.locals s.heap (Led c₀)) (hoff : ∀ p ∈ Led c₀, offEnum p) (hk : ∀ p ∈ ps c₀, m₀ p.1 = some p.2) (hp : P 0 c₀)
    (turn : ∀ (c : σ) (i : Nat) (v : Value) (t : Tok) (u : Str → Option Value) h tk T I1 I2 o1 o2, vs[i]? = some v → o1.cls = .type "enumerate" → o2.cls = .type "list_iterator" → (∀ p ∈ Led c, offEnum p) → P i c → IsTup h T #[.int (i : Int) t, v] →
      Fr h₀ env.locals h (kstB (fun z => if stored.contains z then u z else m₀ z) (ps c)) → News h₀ env.locals h ((I1, o1) :: (I2, o2) :: Led c) →
      wpAny (model prog w) A (assign (.Tuple elts kk pos) env (.ref T)) (fun _ s₂ => wpAny (model prog w) A (execs body env) (EnumPost h₀ env.locals I1 I2 o1 o2 Led ps stored m₀ (P (i + 1)) { s with heap := h, toks := tk } Q) E s₂) E { s with heap := h, toks := tk })
    (done : ∀ (c : σ) (u : Str → Option Value) h tk, P vs.length c → Fr h₀ env.locals h (kstB (fun z => if stored.contains z then u z else m₀ z) (ps c)) → News h₀ env.locals h (Led c) → Q .next { s with heap := h, toks := tk }) :
    wpAny (model prog w) A (call (.type "enumerate") [.ref l]) (fun xv s₁ => wpAny (model prog w) A (pyIter xv) (fun it s₂ => TurnsAt prog w A h₀ env (.Tuple elts kk pos) body Q E it s₂) E s₁) E s :=
  ktu_enum hh F N (hl c₀) rfl rfl rfl fun I _ => enum_rest Led ps stored P vs hl turn done vs 0 rfl m₀ (Led c₀) ⟨c₀, rfl, hoff, hk, (fun _ _ _ => rfl), hp⟩ (Nat.zero_le _)
end

section
variable {prog : Program} {w : World} {A A₀ : Around} {s : Shared} {K : Frag} {L : Addr} {h₀ base : Heap} {m mg mb : Str → Option Value} {own rest : List (Addr × Obj)} {p : Program} {loose : List Str} {mean : ExcName → Option Value}
theorem code_ownC {env : Env} {outer : List Env} {R : Result → Shared → Prop} {name qual : Str} {params : Arguments} {body : List Stmt} {scope : Scope} {dV kV doc pm cdv ct oc : Value} {an od : Option Addr} {osl : Array (Option Value)} {f : Addr} {args : Args} {binds : List (Str × Value)}
    (B : Below A₀ base outer h₀) (F : Fr h₀ L s.heap m) (X₀ : K.In h₀) (N : News h₀ L s.heap (own ++ rest)) (hap : ∀ a ∈ own, ∀ b ∈ rest, a.1 ≠ b.1) (T : Top p loose mean mg mb h₀) (hA : A.frames = some (env :: outer)) (hf : env.frame = some L) (hke : env.scope.kind = .function)
    (ho : K.lookup f = some ⟨oc, od, .func (fnOf name qual params body scope dV kV doc pm an cdv ct), osl⟩) (hcd : codeIn K cdv qual = true) (hroom : A.depth < recursionLimit)
    (hbind : BindsTo s (fnOf name qual params body scope dV kV doc pm an cdv ct) args binds) (hkind : (binds.all fun y => scope.names.lookup y.1 == some .local || scope.names.lookup y.1 == some .cell) = true)
    (hnd : ((cellsFrom 0 scope.names []).map (·.1)).Nodup)
    (h : ∀ g L' h₁ tk cells, Fr h₀ L g m → Fr g L' h₁ (bindL (envOfC qual scope L' f cdv).kindOf binds fun _ => none) → News g L' h₁ (cells ++ own) →
      CellsAre (bindC (envOfC qual scope L' f cdv).kindOf binds fun _ => none) (cellsFrom (L' + 1) scope.names []) cells → Below A base (env :: outer) g → K.In g → Top p loose mean mg mb g → (∀ p ∈ own, p.1 < L') → (∀ q ∈ rest, g.get? q.1 = some q.2) →
      wpAny (model prog w) (A.deeper (envOfC qual scope L' f cdv)) (execs body (envOfC qual scope L' f cdv))
        (fun fl s' => LeaveR h₀ L m g rest R (match fl with | .ret v => v | _ => .none) s')
        (fun e s' => wpAny (model prog w) (A.deeper (envOfC qual scope L' f cdv)) (leaving (envOfC qual scope L' f cdv) e) (fun _ s'' => R (.error e) s'') (fun e' s'' => R (.error e') s'') s')
        { s with heap := h₁, toks := tk })
    (hco : scope.isCoroutine = false) (hgen : scope.isGenerator = false) (hk : scope.kind = .function) : codeAny (model prog w) A (.call (.ref f) args) R s := by
  have No : News h₀ L s.heap own := fun q hq => N q (List.mem_append_left _ hq)
  obtain ⟨FG, BG, st, lv⟩ := groundX (R := R) B F No hA hf hke
  have hr : ∀ q ∈ rest, (hideAll s.heap (own.map (·.1))).get? q.1 = some q.2 := fun q hq =>
    hideAll_get _ (N q (List.mem_append_right _ hq)).1 fun hm => by
      obtain ⟨a, ha, e⟩ := List.mem_map.mp hm
      exact hap a ha q hq e
  refine codeAny_call_function (fd := fnOf name qual params body scope dV kV doc pm an cdv ct) hroom ((X₀.keeps F.keep) _ _ ho) rfl hco hgen rfl (codeRec_of (X₀.keeps F.keep) hcd) (hbind _ _ _ _ ?_)
  refine wpAny_newFunctionEnv_cells hk (kindsX hkind _) fun env' he s' x => ?_
  subst he
  refine ⟨(T.nolimit.keeps F.keep).keeps x.toInCall.keep, codeAny_func ?_⟩
  obtain ⟨h₁, tk, rfl, _⟩ := x.done
  have hk₁ := x.toInCall.keep
  obtain ⟨cells, NC, Y⟩ := Cl.news (h₀ := s.heap) (Nat.le_refl _) fun n c hm => ⟨x.cell n c (lookup_of_mem_nodup (cellsFrom_names scope.names 0 (s.heap.objs.size + 1) [] [] rfl ▸ hnd) hm), x.above n c hm⟩
  refine wpAny_mono (h _ s.heap.objs.size h₁ tk cells FG ⟨x.toInCall.ns, fun b o e => hk₁ b o (of_hideAll _ e), Nat.le_of_eq (hideAll_size _ _)⟩ (fun p hp => ?_) Y BG (X₀.keeps st) (T.keeps st) (fun p hp => Heap.lt_size (No p hp).1) hr)
    (fun fl s' hl => lv _ _ (leaveR_K (fun q hq => ⟨hr q hq, (N q (List.mem_append_right _ hq)).2⟩) hl)) fun _ _ y => y
  rcases List.mem_append.mp hp with hp | hp
  · refine ⟨(NC p hp).1, (NC p hp).2.1, ?_⟩
    cases q : (hideAll s.heap (own.map (·.1))).get? p.1 with
    | none => rfl
    | some o => have := of_hideAll _ q; rw [(NC p hp).2.2] at this; cases this
  · exact ⟨hk₁ _ _ (No p hp).1, Nat.ne_of_lt (Heap.lt_size (No p hp).1), hideAll_none _ (List.mem_map_of_mem hp)⟩
end

/-- a turn's end over any target; what the ledger holds lies off the iterator -/
def TurnEnd {σ : Type} (h₀ : Heap) (L : Addr) (I : Addr) (o : Obj) (Led : σ → List (Addr × Obj)) (ps : σ → List (Str × Value)) (stored : List Str) (m₀ : Str → Option Value) (Pn : σ → Prop) (s₁ s₂ : Shared) : Prop :=
  ∃ (c : σ) (h' : Heap) (tk : Nat) (m' : Str → Option Value) (news' : List (Addr × Obj)), s₂ = { s₁ with heap := h', toks := tk } ∧ Fr h₀ L h' m' ∧ News h₀ L h' news' ∧ (I, o) ∈ news' ∧ (∀ p ∈ Led c, p ∈ news') ∧ (∀ p ∈ Led c, p.1 ≠ I ∨ p.2.cls ≠ .type "list_iterator") ∧
    (∀ p ∈ ps c, m' p.1 = some p.2) ∧ (∀ z, (∀ p ∈ ps c, z ≠ p.1) → stored.contains z = false → m' z = m₀ z) ∧ Pn c
def TurnPost {σ : Type} (h₀ : Heap) (L : Addr) (I : Addr) (o : Obj) (Led : σ → List (Addr × Obj)) (ps : σ → List (Str × Value)) (stored : List Str) (m₀ : Str → Option Value) (Pn : σ → Prop) (s₁ : Shared) (Q : Flow → Shared → Prop) (f : Flow) (s₂ : Shared) : Prop :=
  match f with
  | .ret v => Q (.ret v) s₂
  | .brk => Q .next s₂
  | _ => TurnEnd h₀ L I o Led ps stored m₀ Pn s₁ s₂
theorem turn_end {σ : Type} {h₀ : Heap} {L : Addr} {I : Addr} {o : Obj} {Led : σ → List (Addr × Obj)} {ps : σ → List (Str × Value)} {stored : List Str} {m₀ m' : Str → Option Value} {Pn : σ → Prop} {s₁ : Shared} {h' : Heap} {tk : Nat} {news' : List (Addr × Obj)} (c : σ)
    (F : Fr h₀ L h' m') (N : News h₀ L h' news') (h1 : (I, o) ∈ news') (hn : ∀ p ∈ Led c, p ∈ news') (hoff : ∀ p ∈ Led c, p.1 ≠ I ∨ p.2.cls ≠ .type "list_iterator") (hk : ∀ p ∈ ps c, m' p.1 = some p.2) (hr : ∀ z, (∀ p ∈ ps c, z ≠ p.1) → stored.contains z = false → m' z = m₀ z) (hp : Pn c) :
    TurnEnd h₀ L I o Led ps stored m₀ Pn s₁ { s₁ with heap := h', toks := tk } := ⟨c, h', tk, m', news', rfl, F, N, h1, hn, hoff, hk, hr, hp⟩
section
variable {prog : Program} {w : World} {A : Around} {E : Value → Shared → Prop} {s : Shared} {env : Env} {h₀ : Heap} {body : List Stmt} {Q : Flow → Shared → Prop} {target : Expr}
theorem turns_rest {σ : Type} {I : Addr} {l : Addr} {lo : Obj} {m₀ : Str → Option Value} (Led : σ → List (Addr × Obj)) (ps : σ → List (Str × Value)) (stored : List Str) (P : Nat → σ → Prop) (vs : List Value)
    (hl : ∀ c : σ, (l, lo) ∈ Led c)
    (turn : ∀ (c : σ) (i : Nat) (v : Value) (u : Str → Option Value) h tk o, vs[i]? = some v → o.cls = .type "list_iterator" → (∀ p ∈ Led c, p.1 ≠ I ∨ p.2.cls ≠ .type "list_iterator") → P i c →
      Fr h₀ env.locals h (kstB (fun z => if stored.contains z then u z else m₀ z) (ps c)) → News h₀ env.locals h ((I, o) :: Led c) →
      wpAny (model prog w) A (assign target env v) (fun _ s₂ => wpAny (model prog w) A (execs body env) (TurnPost h₀ env.locals I o Led ps stored m₀ (P (i + 1)) { s with heap := h, toks := tk } Q) E s₂) E { s with heap := h, toks := tk })
    (done : ∀ (c : σ) (u : Str → Option Value) h tk, P vs.length c → Fr h₀ env.locals h (kstB (fun z => if stored.contains z then u z else m₀ z) (ps c)) → News h₀ env.locals h (Led c) → Q .next { s with heap := h, toks := tk }) :
    ∀ (rs : List Value) (i : Nat), vs.drop i = rs → ∀ (m : Str → Option Value) (news : List (Addr × Obj)), (∃ c, news = Led c ∧ (∀ p ∈ Led c, p.1 ≠ I ∨ p.2.cls ≠ .type "list_iterator") ∧ (∀ p ∈ ps c, m p.1 = some p.2) ∧ (∀ z, (∀ p ∈ ps c, z ≠ p.1) → stored.contains z = false → m z = m₀ z) ∧ P i c) → i ≤ vs.length →
      ItemsRest prog w A E h₀ env target body Q s [(I, "list_iterator")] [(l, lo)] (rs.map .val) m news
  | [], i, hd, m, news, ⟨c, hn, hoff, h1, h2, hp⟩, hi => by
    intro h tk F N
    have e : i = vs.length := by
      have := congrArg List.length hd
      simp only [List.length_drop, List.length_nil] at this
      omega
    subst e hn
    exact done c m h tk hp (ksw_fr h1 h2 F) N
  | v :: rs, i, hd, m, news, ⟨c, hn, hoff, h1, h2, hp⟩, hi => by
    subst hn
    have hv : vs[i]? = some v := by
      have := congrArg (fun l => l[0]?) hd
      simpa using this
    have hlt : i < vs.length := by
      rcases Nat.lt_or_ge i vs.length with h | h
      · exact h
      · rw [List.getElem?_eq_none h] at hv
        cases hv
    have hd2 : vs.drop (i + 1) = rs := by
      have := congrArg (List.drop 1) hd
      simpa using this
    refine ItemsRest.val fun h tk F => ?_
    refine AllObj.cons fun o1 ho1 => AllObj.nil fun N => ?_
    refine wpAny_mono (turn c i v m h tk o1 hv ho1 hoff hp (ksw_fr h1 h2 F) (by simpa using N)) (fun _ s₂ x => wpAny_mono x (fun f s₃ p => ?_) fun _ _ e => e) fun _ _ e => e
    have fin : TurnEnd h₀ env.locals I o1 Led ps stored m₀ (P (i + 1)) { s with heap := h, toks := tk } s₃ → UnrEndW h₀ env.locals { s with heap := h, toks := tk } [(I, o1)] (fun m' n' => SubL [(l, lo)] n' ∧ ItemsRest prog w A E h₀ env target body Q s [(I, "list_iterator")] [(l, lo)] (rs.map .val) m' n') s₃ := by
      rintro ⟨c', h', tk', m', news', e, F', N', hI1, hn, hof, hk', hr', hP'⟩
      refine ⟨h', tk', m', Led c', e, F', fun p hp => ?_, fun p hp q hq e9 => ?_, And.intro (hl c') trivial, turns_rest Led ps stored P vs hl turn done rs (i + 1) hd2 m' (Led c') ⟨c', rfl, hof, hk', hr', hP'⟩ hlt⟩
      · rcases List.mem_append.mp hp with hp | hp
        · rw [List.mem_singleton.mp hp]
          exact N' _ hI1
        · exact N' _ (hn p hp)
      · rw [List.mem_singleton.mp hq] at e9
        have q1 := (N' _ (hn p hp)).1
        have q2 := (N' _ hI1).1
        dsimp only at q2 e9
        rcases hof p hp with z | z
        · exact z e9
        · rw [e9, q2] at q1
          exact z ((congrArg Obj.cls (Option.some.inj q1)).symm.trans ho1)
    cases f with
    | ret v => exact p
    | brk => exact p
    | next => exact fin p
    | cont => exact fin p
/-- a loop over a list of the ledger, any target; addresses free -/
theorem free_turns {σ : Type} {l : Addr} {vs : List Value} {nn : Nat} {m₀ : Str → Option Value} (Led : σ → List (Addr × Obj)) (ps : σ → List (Str × Value)) (stored : List Str) (P : Nat → σ → Prop) (c₀ : σ)
    (hh : A.handled = none) (hl : ∀ c : σ, (l, listOf vs.toArray nn) ∈ Led c) (F : Fr h₀ env.locals s.heap m₀) (N : News h₀ env.locals s.heap (Led c₀)) (hk : ∀ p ∈ ps c₀, m₀ p.1 = some p.2) (hp : P 0 c₀)
    (turn : ∀ (I : Addr), (∀ p ∈ Led c₀, p.1 < I) → ∀ (c : σ) (i : Nat) (v : Value) (u : Str → Option Value) h tk o, vs[i]? = some v → o.cls = .type "list_iterator" → (∀ p ∈ Led c, p.1 ≠ I ∨ p.2.cls ≠ .type "list_iterator") → P i c →
      Fr h₀ env.locals h (kstB (fun z => if stored.contains z then u z else m₀ z) (ps c)) → News h₀ env.locals h ((I, o) :: Led c) →
      wpAny (model prog w) A (assign target env v) (fun _ s₂ => wpAny (model prog w) A (execs body env) (TurnPost h₀ env.locals I o Led ps stored m₀ (P (i + 1)) { s with heap := h, toks := tk } Q) E s₂) E { s with heap := h, toks := tk })
    (done : ∀ (c : σ) (u : Str → Option Value) h tk, P vs.length c → Fr h₀ env.locals h (kstB (fun z => if stored.contains z then u z else m₀ z) (ps c)) → News h₀ env.locals h (Led c) → Q .next { s with heap := h, toks := tk }) :
    wpAny (model prog w) A (pyIter (.ref l)) (fun it s₂ => TurnsAt prog w A h₀ env target body Q E it s₂) E s :=
  iter_listTurns hh F N (hl c₀) rfl rfl fun I hI => turns_rest Led ps stored P vs hl (turn I hI) done vs 0 rfl m₀ (Led c₀) ⟨c₀, rfl, (fun p hp => .inl (Nat.ne_of_lt (hI p hp))), hk, (fun _ _ _ => rfl), hp⟩ (Nat.zero_le _)
end

theorem kstB_self {m : Str → Option Value} : ∀ {ps : List (Str × Value)}, (∀ p ∈ ps, m p.1 = some p.2) → kstB m ps = m
  | [], _ => rfl
  | p :: r, h => by
    funext z
    show (if z = p.1 then some p.2 else kstB m r z) = m z
    rw [kstB_self (ps := r) fun q hq => h q (.tail _ hq)]
    by_cases e : z = p.1
    · rw [if_pos e, e]
      exact (h p (.head _)).symm
    · rw [if_neg e]
/-- the state between two halves of a body: what the frame holds (a list with some facts), the ledger -/
def MidPost (s : Shared) (g : Heap) (L : Addr) (led : List (Addr × Obj)) (P : (Str → Option Value) → List (Str × Value) → Prop) (s' : Shared) : Prop :=
  ∃ ps m0 h tk, s' = { s with heap := h, toks := tk } ∧ Fr g L h (kstB m0 ps) ∧ News g L h led ∧ P m0 ps
def MidEnd (s : Shared) (g : Heap) (L : Addr) (led : List (Addr × Obj)) (P : (Str → Option Value) → List (Str × Value) → Prop) (Q : Flow → Shared → Prop) (fl : Flow) (s' : Shared) : Prop := (fl = .next ∧ MidPost s g L led P s') ∨ (fl ≠ .next ∧ Q fl s')
section
variable {M : Model} {A : Around} {E : Value → Shared → Prop} {s s0 : Shared} {env : Env} {g : Heap} {L : Addr} {led : List (Addr × Obj)} {P : (Str → Option Value) → List (Str × Value) → Prop} {Q : Flow → Shared → Prop}
theorem MidEnd.mk {h : Heap} {tk : Nat} {m : Str → Option Value} {news : List (Addr × Obj)} (F : Fr g L h m) (N : News g L h news) (ps : List (Str × Value)) (hk : ∀ p ∈ ps, m p.1 = some p.2) (hn : ∀ p ∈ led, p ∈ news) (hP : P m ps) :
    MidEnd s g L led P Q .next { s with heap := h, toks := tk } := .inl ⟨rfl, ps, m, h, tk, rfl, (kstB_self hk).symm ▸ F, fun p hp => N p (hn p hp), hP⟩
theorem MidEnd.out {fl : Flow} {s' : Shared} (h : Q fl s') (hf : fl ≠ .next) : MidEnd s g L led P Q fl s' := .inr ⟨hf, h⟩
theorem execs_mid (a b : List Stmt) (P : (Str → Option Value) → List (Str × Value) → Prop) (led : List (Addr × Obj)) (h1 : wpAny M A (execs a env) (MidEnd s0 g L led P Q) E s)
    (h2 : ∀ ps m0 h tk, P m0 ps → Fr g L h (kstB m0 ps) → News g L h led → wpAny M A (execs b env) Q E { s0 with heap := h, toks := tk }) : wpAny M A (execs (a ++ b) env) Q E s := fun Γ p hΓ => by
  have go : ∀ (a : List Stmt) p s, Sem.wp M Γ (execs a env) (fun fl _ s' => MidEnd s0 g L led P Q fl s') (fun e _ s' => E e s') p s → Sem.wp M Γ (execs (a ++ b) env) (fun fl _ s' => Q fl s') (fun e _ s' => E e s') p s := by
    intro a
    induction a with
    | nil =>
      rintro p s (⟨_, ps, m0, h, tk, rfl, F, N, hP⟩ | ⟨hf, _⟩)
      · exact h2 ps m0 h tk hP F N Γ p hΓ
      · exact absurd rfl hf
    | cons x a ih =>
      intro p s h
      rw [execs_cons, Sem.wp_bind'] at h
      rw [List.cons_append, execs_cons, Sem.wp_bind']
      refine Sem.wp_mono M Γ _ (fun f p' s' h' => ?_) (fun _ _ _ h' => h') _ _ h
      cases f with
      | next => exact ih p' s' h'
      | _ =>
        rcases h' with ⟨hf, _⟩ | ⟨_, hq⟩
        · cases hf
        · exact hq
  exact go a p s (h1 Γ p hΓ)
theorem MidEnd.mk2 {h : Heap} {tk : Nat} {m m5 : Str → Option Value} {news : List (Addr × Obj)} {P : List (Str × Value) → Prop} (F : Fr g L h m) (N : News g L h news) (ps : List (Str × Value)) (hm : ∀ z, m z = kstB m5 ps z) (hn : ∀ p ∈ led, p ∈ news) (hP : P ps) :
    MidEnd s g L led (fun m0 ps => m0 = m5 ∧ P ps) Q .next { s with heap := h, toks := tk } := .inl ⟨rfl, ps, m5, h, tk, rfl, (funext hm : m = kstB m5 ps) ▸ F, fun p hp => N p (hn p hp), rfl, hP⟩
theorem execs_mid2 {h5 : Heap} {m5 : Str → Option Value} (_ : Fr g L h5 m5) (a b : List Stmt) (P : List (Str × Value) → Prop) (led : List (Addr × Obj))
    (h1 : wpAny M A (execs a env) (MidEnd s0 g L led (fun m0 ps => m0 = m5 ∧ P ps) Q) E s)
    (h2 : ∀ ps h tk, P ps → Fr g L h (kstB m5 ps) → News g L h led → wpAny M A (execs b env) Q E { s0 with heap := h, toks := tk }) : wpAny M A (execs (a ++ b) env) Q E s :=
  execs_mid a b _ led h1 fun ps m0 h tk hP F => by
    rw [hP.1] at F
    exact h2 ps h tk hP.2 F
end

/-- the way back from a def that has caught: the frames below may have got slots -/
def LeaveT (fs : List Addr) (A₀ : Around) (base : Heap) (outer : List Env) (h₀ : Heap) (L : Addr) (m : Str → Option Value) (g : Heap) (rest : List (Addr × Obj)) (R : Result → Shared → Prop) (v : Value) (s' : Shared) : Prop :=
  ∃ g' L' m' own', KtsTurn fs g g' ∧ Fr g' L' s'.heap m' ∧ News g' L' s'.heap own' ∧ ∀ h₀', KtsTurn (outer.filterMap (·.frame)) h₀ h₀' → Below A₀ base outer h₀' → Fr h₀' L s'.heap m → News h₀' L s'.heap (own' ++ rest) → R (.ok (.ret v)) s'

section
variable {A₀ A : Around} {s : Shared} {base h₀ : Heap} {outer : List Env} {L a : Addr} {m : Str → Option Value} {cn : Str} {cs : Scope} {ccd : Value} {cl : List (Str × Addr)} {own rest : List (Addr × Obj)}
theorem turn_enter (B : Below A₀ base outer h₀) (F : Fr h₀ L s.heap m) (N : News h₀ L s.heap (own ++ rest)) (hap : ∀ a ∈ own, ∀ b ∈ rest, a.1 ≠ b.1) (hA : A.frames = some (envX cn cs L a ccd cl :: outer)) (hck : cs.kind = .function) (D : KtsDicts (outer.filterMap (·.frame)) h₀) :
    ∃ g, Fr h₀ L g m ∧ Below A base (envX cn cs L a ccd cl :: outer) g ∧ h₀.StaysIn g ∧ KtsDicts ((envX cn cs L a ccd cl :: outer).filterMap (·.frame)) g ∧ (∀ b o, g.get? b = some o → s.heap.get? b = some o) ∧ g.objs.size = s.heap.objs.size ∧
      (∀ p ∈ own, s.heap.get? p.1 = some p.2 ∧ g.get? p.1 = none) ∧ (∀ q ∈ rest, g.get? q.1 = some q.2) ∧
      ∀ (R : Result → Shared → Prop) (v : Value) (s' : Shared), LeaveT ((envX cn cs L a ccd cl :: outer).filterMap (·.frame)) A₀ base outer h₀ L m g rest R v s' → R (.ok (.ret v)) s' := by
  have No : News h₀ L s.heap own := fun q hq => N q (List.mem_append_left _ hq)
  have nm : ∀ b o, h₀.get? b = some o → b ∉ own.map (·.1) := fun b o e q => by
    obtain ⟨p, hp, rfl⟩ := List.mem_map.mp q
    rw [(No p hp).2.2] at e; cases e
  have st : h₀.StaysIn (hideAll s.heap (own.map (·.1))) := fun b o e => hideAll_get _ (F.keep b o e) (nm b o e)
  have F0 := F
  obtain ⟨oL, es, ep, hL, hLd, hLk, hLf⟩ := F.ns
  have nL : L ∉ own.map (·.1) := fun q => by
    obtain ⟨p, hp, e⟩ := List.mem_map.mp q
    exact (No p hp).2.1 e
  have hLg := hideAll_get (own.map (·.1)) hL nL
  obtain ⟨FG, BG, _, _⟩ := groundX (R := fun _ _ => True) B F No hA rfl hck
  have hr : ∀ q ∈ rest, (hideAll s.heap (own.map (·.1))).get? q.1 = some q.2 := fun q hq =>
    hideAll_get _ (N q (List.mem_append_right _ hq)).1 fun hm => by
      obtain ⟨a, ha, e⟩ := List.mem_map.mp hm
      exact hap a ha q hq e
  refine ⟨_, FG, BG, st, ?_, fun b o e => of_hideAll _ e, hideAll_size _ _, fun p hp => ⟨(No p hp).1, hideAll_none _ (List.mem_map_of_mem hp)⟩, hr, ?_⟩
  · intro b hb
    obtain ⟨env, he, hf⟩ := List.mem_filterMap.mp hb
    rcases List.mem_cons.mp he with rfl | he
    · rw [← (Option.some.inj hf : L = b)]
      exact ⟨oL, es, ep, hLg, hLd⟩
    · obtain ⟨o, es', n', ho', hd'⟩ := D b (List.mem_filterMap.mpr ⟨env, he, hf⟩)
      exact ⟨o, es', n', st b o ho', hd'⟩
  · rintro R v s' ⟨g', L', m', own', T', F', N', k⟩
    have nL₀ : h₀.get? L = none := kts_self F0
    have memL : ∀ b, b ∈ (envX cn cs L a ccd cl :: outer).filterMap (·.frame) → b = L ∨ b ∈ outer.filterMap (·.frame) := fun b hb => by
      obtain ⟨env, he, hf⟩ := List.mem_filterMap.mp hb
      rcases List.mem_cons.mp he with rfl | he
      · exact .inl (Option.some.inj hf).symm
      · exact .inr (List.mem_filterMap.mpr ⟨env, he, hf⟩)
    obtain ⟨sl, hs⟩ := T'.up hLg
    obtain ⟨T₁, S₁⟩ := kts_turn_at (h := s'.heap) (fs := outer.filterMap (·.frame)) (g := h₀)
      (fun b hb => by
        obtain ⟨_, o, ho', _⟩ := B.frames.mem hb
        exact ⟨o, ho'⟩)
      (fun b o e nmem => F'.keep b o (T'.other b o (st b o e) (fun q => by
        rcases memL b q with z | z
        · rw [z, nL₀] at e
          cases e
        · exact nmem z)))
      (fun b o e hm => by
        obtain ⟨sl', hs'⟩ := T'.up (st b o e)
        exact ⟨sl', F'.keep _ _ hs'⟩)
    have B₃ : Below A₀ base outer (ktsHeap s'.heap (outer.filterMap (·.frame)) h₀) := ⟨B.stack, fun b o e => T₁.other b o (B.stays b o e) (fun hm => by
      rw [(B.frames.mem hm).1] at e
      cases e), B.frames.of_keeps fun b o e _ => by
      obtain ⟨sl', hs'⟩ := T₁.up e
      exact ⟨_, hs', rfl⟩⟩
    have none₃ : ∀ b, (hideAll s.heap (own.map (·.1))).get? b = none → (ktsHeap s'.heap (outer.filterMap (·.frame)) h₀).get? b = none := fun b e => by
      refine T₁.none_ _ ?_
      cases q : h₀.get? b with
      | none => rfl
      | some o => rw [st _ _ q] at e; cases e
    have up : ∀ b, g'.get? b = none → (hideAll s.heap (own.map (·.1))).get? b = none := fun b e => by
      cases q : (hideAll s.heap (own.map (·.1))).get? b with
      | none => rfl
      | some o =>
        obtain ⟨sl', hs'⟩ := T'.up q
        rw [hs'] at e
        cases e
    refine k _ T₁ B₃ ⟨⟨_, es, ep, F'.keep _ _ hs, hLd, hLk, hLf⟩, S₁, by rw [T₁.size]; exact F0.above⟩ fun p hp => ?_
    rcases List.mem_append.mp hp with hp | hp
    · refine ⟨(N' p hp).1, fun q => ?_, none₃ _ (up _ (N' p hp).2.2)⟩
      have := (N' p hp).2.2
      rw [q, hs] at this
      cases this
    · have hg := hr p hp
      have hN := N p (List.mem_append_right _ hp)
      refine ⟨F'.keep _ _ (T'.other _ _ hg fun hm => ?_), hN.2.1, T₁.none_ _ hN.2.2⟩
      rcases memL _ hm with z | z
      · exact hN.2.1 z
      · obtain ⟨_, o, ho', _⟩ := B.frames.mem z
        rw [hN.2.2] at ho'
        cases ho'
end

section
variable {prog : Program} {w : World} {A A₀ : Around} {s : Shared} {K : Frag} {L : Addr} {h₀ base : Heap} {m mg mb : Str → Option Value} {own rest : List (Addr × Obj)} {p : Program} {loose : List Str} {mean : ExcName → Option Value}
theorem code_ownT {outer : List Env} {R : Result → Shared → Prop} {cn : Str} {cs : Scope} {a : Addr} {ccd : Value} {cl : List (Str × Addr)} {name qual : Str} {params : Arguments} {body : List Stmt} {scope : Scope} {dV kV doc pm cdv ct oc : Value} {an od : Option Addr} {osl : Array (Option Value)} {f : Addr} {args : Args} {binds : List (Str × Value)}
    (B : Below A₀ base outer h₀) (F : Fr h₀ L s.heap m) (X₀ : K.In h₀) (N : News h₀ L s.heap (own ++ rest)) (hap : ∀ a ∈ own, ∀ b ∈ rest, a.1 ≠ b.1) (T : Top p loose mean mg mb h₀) (D : KtsDicts (outer.filterMap (·.frame)) h₀) (hA : A.frames = some (envX cn cs L a ccd cl :: outer)) (hke : cs.kind = .function)
    (ho : K.lookup f = some ⟨oc, od, .func (fnOf name qual params body scope dV kV doc pm an cdv ct), osl⟩) (hcd : codeIn K cdv qual = true) (hroom : A.depth < recursionLimit)
    (hbind : BindsTo s (fnOf name qual params body scope dV kV doc pm an cdv ct) args binds) (hloc : ∀ y ∈ binds, scope.names.lookup y.1 = some .local)
    (h : ∀ g L' h₁, Fr h₀ L g m → Fr g L' h₁ (fun y => binds.reverse.lookup y) → News g L' h₁ own → Below A base (envX cn cs L a ccd cl :: outer) g → K.In g → Top p loose mean mg mb g → KtsDicts ((envX cn cs L a ccd cl :: outer).filterMap (·.frame)) g → (∀ q ∈ rest, g.get? q.1 = some q.2) →
      wpAny (model prog w) (A.deeper (envOf qual scope L' f cdv)) (execs body (envOf qual scope L' f cdv))
        (fun fl s' => LeaveT ((envX cn cs L a ccd cl :: outer).filterMap (·.frame)) A₀ base outer h₀ L m g rest R (match fl with | .ret v => v | _ => .none) s')
        (fun e s' => wpAny (model prog w) (A.deeper (envOf qual scope L' f cdv)) (leaving (envOf qual scope L' f cdv) e) (fun _ s'' => R (.error e) s'') (fun e' s'' => R (.error e') s'') s')
        { s with heap := h₁, toks := s.toks + binds.length })
    (hco : scope.isCoroutine = false) (hgen : scope.isGenerator = false) (hk : scope.kind = .function)
    (hcell : ∀ x ∈ scope.names, x.2 ≠ .cell) : codeAny (model prog w) A (.call (.ref f) args) R s := by
  obtain ⟨g, FG, BG, st, DG, ofg, gsz, gown, hr, lv⟩ := turn_enter B F N hap hA hke D
  refine codeAny_call_def (fd := fnOf name qual params body scope dV kV doc pm an cdv ct) (body := body) (binds := binds) hroom ((X₀.keeps F.keep) _ _ ho) rfl (T.nolimit.keeps F.keep) (codeRec_of (X₀.keeps F.keep) hcd) rfl hbind hcell hloc (fun h₁ hns hk₁ => ?_) hco hgen hk
  exact wpAny_mono (h g s.heap.objs.size h₁ FG ⟨hns, fun b o e => hk₁ b o (ofg _ _ e), Nat.le_of_eq gsz⟩
    (fun p hp => ⟨hk₁ _ _ (gown p hp).1, Nat.ne_of_lt (Heap.lt_size (gown p hp).1), (gown p hp).2⟩) BG (X₀.keeps st) (T.keeps st) DG hr)
    (fun fl s' hl => lv _ _ _ hl) fun _ _ y => y
end
/-- a contract of a def that catches and never raises -/
def SpecT (w : World) (mean : ExcName → Option Value) (mg mb : Str → Option Value) (f : Addr) (d u : Nat) (own : List (Addr × Obj)) (vs : List Value) (Good : Value → List (Addr × Obj) → Prop) : Prop :=
  ∀ (dp un : Nat) (gd : Option (List Code)) (cn : Str) (cs : Scope) (a : Addr) (ccd : Value) (cl : List (Str × Addr)) (outer : List Env) (A₀ : Around) (base h₀ : Heap) (L : Addr) (m : Str → Option Value) (rest : List (Addr × Obj)) (s : Shared) (R : Result → Shared → Prop),
    Below A₀ base outer h₀ → Fr h₀ L s.heap m → (hd.heap_1_39 w.params).In h₀ → News h₀ L s.heap (own ++ rest) → (∀ a ∈ own, ∀ b ∈ rest, a.1 ≠ b.1) → Top VV LO mean mg mb h₀ → (hd.heap_1_39 w.params).In base → Top VV LO mean mg mb base → KtsDicts (outer.filterMap (·.frame)) h₀ → cs.kind = .function → dp + d < recursionLimit → un + u < cLine →
    (∀ r own' h₀' h' tk', KtsTurn (outer.filterMap (·.frame)) h₀ h₀' → Below A₀ base outer h₀' → Fr h₀' L h' m → News h₀' L h' (own' ++ rest) → Good r own' → R (.ok (.ret r)) { s with heap := h', toks := tk' }) →
    codeAny (model PP w) (ktrTop dp un gd cn cs L a ccd cl outer) (.call (.ref f) ⟨vs, []⟩) R s
section
variable {w : World} {mean : ExcName → Option Value} {mg mb : Str → Option Value} {f : Addr} {d u : Nat} {own news rest : List (Addr × Obj)} {vs : List Value} {Good : Value → List (Addr × Obj) → Prop}
  {dp un : Nat} {gd : Option (List Code)} {cn : Str} {cs : Scope} {a : Addr} {ccd : Value} {cl : List (Str × Addr)} {outer : List Env} {A₀ : Around} {base h₀ : Heap} {L : Addr} {m : Str → Option Value} {s : Shared}
theorem SpecT.use {Q E : Value → Shared → Prop} (S : SpecT w mean mg mb f d u own vs Good)
    (B : Below A₀ base outer h₀) (F : Fr h₀ L s.heap m) (X : (hd.heap_1_39 w.params).In h₀) (N : News h₀ L s.heap news) (P : Pick own news rest) (hap : ∀ a ∈ own, ∀ b ∈ rest, a.1 ≠ b.1) (T : Top VV LO mean mg mb h₀) (XB : (hd.heap_1_39 w.params).In base) (TB : Top VV LO mean mg mb base) (D : KtsDicts (outer.filterMap (·.frame)) h₀) (hk : cs.kind = .function) (hd : dp + d < recursionLimit) (hu : un + u < cLine)
    (good : ∀ r own' h₀' h' tk', KtsTurn (outer.filterMap (·.frame)) h₀ h₀' → Below A₀ base outer h₀' → Fr h₀' L h' m → News h₀' L h' (own' ++ rest) → Good r own' → Q r { s with heap := h', toks := tk' }) :
    wpAny (model PP w) (ktrTop dp un gd cn cs L a ccd cl outer) (call (.ref f) vs) Q E s :=
  wpAny_call (S _ _ _ _ _ _ _ _ _ _ _ _ _ _ _ _ (fun r s' => match r with | .ok (.ret v) => Q v s' | .ok _ => False | .error e => E e s') B F X (fun q hq => N q (P.sub q hq)) hap T XB TB D hk hd hu good)
theorem SpecT.use0 {Q E : Value → Shared → Prop} (S : SpecT w mean mg mb f d u [] vs Good)
    (B : Below A₀ base outer h₀) (F : Fr h₀ L s.heap m) (X : (hd.heap_1_39 w.params).In h₀) (N : News h₀ L s.heap news) (T : Top VV LO mean mg mb h₀) (XB : (hd.heap_1_39 w.params).In base) (TB : Top VV LO mean mg mb base) (D : KtsDicts (outer.filterMap (·.frame)) h₀) (hk : cs.kind = .function) (hd : dp + d < recursionLimit) (hu : un + u < cLine)
    (good : ∀ r own' h₀' h' tk', KtsTurn (outer.filterMap (·.frame)) h₀ h₀' → Below A₀ base outer h₀' → Fr h₀' L h' m → News h₀' L h' (own' ++ news) → Good r own' → Q r { s with heap := h', toks := tk' }) :
    wpAny (model PP w) (ktrTop dp un gd cn cs L a ccd cl outer) (call (.ref f) vs) Q E s :=
  S.use B F X N .nil (fun _ h => nomatch h) T XB TB D hk hd hu good
end

section
variable {prog : Program} {w : World} {A A₀ : Around} {s : Shared} {K : Frag} {L : Addr} {h₀ base : Heap} {m mg mb : Str → Option Value} {own rest : List (Addr × Obj)} {p : Program} {loose : List Str} {mean : ExcName → Option Value}
theorem code_ownTG {outer : List Env} {R : Result → Shared → Prop} {cn : Str} {cs : Scope} {a : Addr} {ccd : Value} {cl : List (Str × Addr)} {name qual : Str} {params : Arguments} {body : List Stmt} {scope : Scope} {dV kV doc pm cdv ct oc : Value} {an od : Option Addr} {osl : Array (Option Value)} {f : Addr} {args : Args} {binds : List (Str × Value)}
    (B : Below A₀ base outer h₀) (F : Fr h₀ L s.heap m) (X₀ : K.In h₀) (N : News h₀ L s.heap (own ++ rest)) (hap : ∀ a ∈ own, ∀ b ∈ rest, a.1 ≠ b.1) (T : Top p loose mean mg mb h₀) (D : KtsDicts (outer.filterMap (·.frame)) h₀) (hA : A.frames = some (envX cn cs L a ccd cl :: outer)) (hke : cs.kind = .function)
    (ho : K.lookup f = some ⟨oc, od, .func (fnOf name qual params body scope dV kV doc pm an cdv ct), osl⟩) (hcd : codeIn K cdv qual = true) (hroom : A.depth < recursionLimit)
    (hbind : BindsTo s (fnOf name qual params body scope dV kV doc pm an cdv ct) args binds) (hloc : ∀ y ∈ binds, scope.names.lookup y.1 = some .local)
    (h : ∀ g L' h₁, Fr h₀ L g m → Fr g L' h₁ (fun y => binds.reverse.lookup y) → News g L' h₁ own → Below A base (envX cn cs L a ccd cl :: outer) g → K.In g → Top p loose mean mg mb g → KtsDicts ((envX cn cs L a ccd cl :: outer).filterMap (·.frame)) g → (∀ q ∈ rest, g.get? q.1 = some q.2) →
      wpG (model prog w) (A.deeper (envOf qual scope L' f cdv)) (execs body (envOf qual scope L' f cdv))
        (fun fl s' => LeaveT ((envX cn cs L a ccd cl :: outer).filterMap (·.frame)) A₀ base outer h₀ L m g rest R (match fl with | .ret v => v | _ => .none) s')
        (fun e s' => wpAny (model prog w) (A.deeper (envOf qual scope L' f cdv)) (leaving (envOf qual scope L' f cdv) e) (fun _ s'' => R (.error e) s'') (fun e' s'' => R (.error e') s'') s')
        { s with heap := h₁, toks := s.toks + binds.length })
    (hco : scope.isCoroutine = false) (hgen : scope.isGenerator = false) (hk : scope.kind = .function)
    (hcell : ∀ x ∈ scope.names, x.2 ≠ .cell) : codeG (model prog w) A (.call (.ref f) args) R s := by
  obtain ⟨g, FG, BG, st, DG, ofg, gsz, gown, hr, lv⟩ := turn_enter B F N hap hA hke D
  refine codeG_call_def (fd := fnOf name qual params body scope dV kV doc pm an cdv ct) (body := body) (binds := binds) hroom ((X₀.keeps F.keep) _ _ ho) rfl (T.nolimit.keeps F.keep) (codeRec_of (X₀.keeps F.keep) hcd) rfl hbind hcell hloc (fun h₁ hns hk₁ => ?_) hco hgen hk
  exact wpG_mono (h g s.heap.objs.size h₁ FG ⟨hns, fun b o e => hk₁ b o (ofg _ _ e), Nat.le_of_eq gsz⟩
    (fun p hp => ⟨hk₁ _ _ (gown p hp).1, Nat.ne_of_lt (Heap.lt_size (gown p hp).1), (gown p hp).2⟩) BG (X₀.keeps st) (T.keeps st) DG hr)
    (fun fl s' hl => lv _ _ _ hl) fun _ _ y => y
end
/-- a contract of a def that catches and never raises -/
def SpecTG (w : World) (mean : ExcName → Option Value) (mg mb : Str → Option Value) (f : Addr) (d u : Nat) (own : List (Addr × Obj)) (vs : List Value) (Good : Value → List (Addr × Obj) → Prop) : Prop :=
  ∀ (dp un : Nat) (gd : Option (List Code)) (cn : Str) (cs : Scope) (a : Addr) (ccd : Value) (cl : List (Str × Addr)) (outer : List Env) (A₀ : Around) (base h₀ : Heap) (L : Addr) (m : Str → Option Value) (rest : List (Addr × Obj)) (s : Shared) (R : Result → Shared → Prop),
    Below A₀ base outer h₀ → Fr h₀ L s.heap m → (hd.heap_1_39 w.params).In h₀ → News h₀ L s.heap (own ++ rest) → (∀ a ∈ own, ∀ b ∈ rest, a.1 ≠ b.1) → Top VV LO mean mg mb h₀ → (hd.heap_1_39 w.params).In base → Top VV LO mean mg mb base → KtsDicts (outer.filterMap (·.frame)) h₀ → cs.kind = .function → dp + d < recursionLimit → un + u < cLine →
    (∀ r own' h₀' h' tk', KtsTurn (outer.filterMap (·.frame)) h₀ h₀' → Below A₀ base outer h₀' → Fr h₀' L h' m → News h₀' L h' (own' ++ rest) → Good r own' → R (.ok (.ret r)) { s with heap := h', toks := tk' }) →
    codeG (model PP w) (ktrTop dp un gd cn cs L a ccd cl outer) (.call (.ref f) ⟨vs, []⟩) R s
section
variable {w : World} {mean : ExcName → Option Value} {mg mb : Str → Option Value} {f : Addr} {d u : Nat} {own news rest : List (Addr × Obj)} {vs : List Value} {Good : Value → List (Addr × Obj) → Prop}
  {dp un : Nat} {gd : Option (List Code)} {cn : Str} {cs : Scope} {a : Addr} {ccd : Value} {cl : List (Str × Addr)} {outer : List Env} {A₀ : Around} {base h₀ : Heap} {L : Addr} {m : Str → Option Value} {s : Shared}
theorem SpecTG.use {Q E : Value → Shared → Prop} (S : SpecTG w mean mg mb f d u own vs Good)
    (B : Below A₀ base outer h₀) (F : Fr h₀ L s.heap m) (X : (hd.heap_1_39 w.params).In h₀) (N : News h₀ L s.heap news) (P : Pick own news rest) (hap : ∀ a ∈ own, ∀ b ∈ rest, a.1 ≠ b.1) (T : Top VV LO mean mg mb h₀) (XB : (hd.heap_1_39 w.params).In base) (TB : Top VV LO mean mg mb base) (D : KtsDicts (outer.filterMap (·.frame)) h₀) (hk : cs.kind = .function) (hd : dp + d < recursionLimit) (hu : un + u < cLine)
    (good : ∀ r own' h₀' h' tk', KtsTurn (outer.filterMap (·.frame)) h₀ h₀' → Below A₀ base outer h₀' → Fr h₀' L h' m → News h₀' L h' (own' ++ rest) → Good r own' → Q r { s with heap := h', toks := tk' }) :
    wpG (model PP w) (ktrTop dp un gd cn cs L a ccd cl outer) (call (.ref f) vs) Q E s :=
  wpG_call (S _ _ _ _ _ _ _ _ _ _ _ _ _ _ _ _ (fun r s' => match r with | .ok (.ret v) => Q v s' | .ok _ => False | .error e => E e s') B F X (fun q hq => N q (P.sub q hq)) hap T XB TB D hk hd hu good)
theorem SpecTG.use0 {Q E : Value → Shared → Prop} (S : SpecTG w mean mg mb f d u [] vs Good)
    (B : Below A₀ base outer h₀) (F : Fr h₀ L s.heap m) (X : (hd.heap_1_39 w.params).In h₀) (N : News h₀ L s.heap news) (T : Top VV LO mean mg mb h₀) (XB : (hd.heap_1_39 w.params).In base) (TB : Top VV LO mean mg mb base) (D : KtsDicts (outer.filterMap (·.frame)) h₀) (hk : cs.kind = .function) (hd : dp + d < recursionLimit) (hu : un + u < cLine)
    (good : ∀ r own' h₀' h' tk', KtsTurn (outer.filterMap (·.frame)) h₀ h₀' → Below A₀ base outer h₀' → Fr h₀' L h' m → News h₀' L h' (own' ++ news) → Good r own' → Q r { s with heap := h', toks := tk' }) :
    wpG (model PP w) (ktrTop dp un gd cn cs L a ccd cl outer) (call (.ref f) vs) Q E s :=
  S.use B F X N .nil (fun _ h => nomatch h) T XB TB D hk hd hu good
end

abbrev excOf (t : Addr) : Obj := { cls := .ref 45, data := .fields #[.ref t, .none, .none, .none, .bool false, .none] }

theorem peek_of {α : Type} {w : World} {h : Heap} {t : Sem α} {r : α} (X : (hd.heap_1_39 w.params).In h) (e : peek (hd.heap_1_39 w.params) ⟨PP, w.params⟩ t = some r) : Looks (model PP w) h t r :=
  Looks.of_peek X e

theorem bad_typ {w : World} {h : Heap} (X : (hd.heap_1_39 w.params).In h) {e : Addr} {ob : Obj} (he : h.get? e = some ob) (hc : ob.cls = .ref 45) : Looks (model PP w) h (typeOf (.ref e)) (.ref 45) := by
  refine (Looks.ld (part := some headPart) he).andThen ?_
  rw [hc]
  exact .now

theorem bad_set {w : World} {A : Around} {E : Value → Shared → Prop} {s : Shared} {e : Addr} {ob : Obj} {vs : Array Value} {v : Value} {Q : Unit → Shared → Prop}
    (X : (hd.heap_1_39 w.params).In s.heap) (he : s.heap.get? e = some ob) (hc : ob.cls = .ref 45) (hd : ob.dict = none) (hv : ob.data = .fields vs)
    (hq : ∀ h' tk', (∀ b o, b ≠ e → s.heap.get? b = some o → h'.get? b = some o) → (∃ d, h'.get? e = some { ob with dict := some d }) → Q () { s with heap := h', toks := tk' }) :
    wpAny (model PP w) A (setAttr (.ref e) "told" v) Q E s := by
  have I : InstAt s.heap e ob 45 none := ⟨he, hc, by unfold notCls; rw [hv], by rw [hd]; trivial⟩
  have SF := PySem.F.store_object
  refine set_plain X I (by k_is) ?_
  have sub : Looks (model PP w) s.heap (isInstance (.ref e) (.type "object")) true := (bad_typ X he hc).andThen (peek_of X (by kernel_rfl))
  refine codeAny_call_builtin SF.slot.plain SF.entry (@check_slot (model PP w) _ _ _ "object.__setattr__" "object" "__setattr__" (.ref e) [.str "told" s.toks, v] [] _ SF.kind SF.split sub (SF.args (.ref e) (.str "told" s.toks) v) ?_)
  rw [osa_eq, refuse_eq]
  have L1 : Looks (model PP w) s.heap (mroOf (.ref 45) >>= fun l => refuseLoop (.ref e) "__setattr__" l) () := peek_of X (by kernel_rfl)
  have L2 : Looks (model PP w) s.heap (typeLookup (.ref 45) "told") none := peek_of X (by kernel_rfl)
  have L3 : Looks (model PP w) s.heap (classData 45) _ := looks_clsIn X (by k_is)
  have T := bad_typ X he hc
  refine wpAny_bind (wpAny_bind (T _ _ _ _ (fun _ _ e => e) ?_))
  refine L1 _ _ _ _ (fun _ _ e => e) ?_
  refine wpAny_bind (T _ _ _ _ (fun _ _ e => e) (wpAny_bind (L2 _ _ _ _ (fun _ _ e => e) (wpAny_bind (wpAny_pure ?_)))))
  dsimp only
  unfold Builtin.ObjectAttr.storeInOwnDict ownStreamTells Builtin.ObjectAttr.ownDictForStores instanceDict
  obtain ⟨oc, od, oda, osl⟩ := ob
  dsimp only at hc hd hv
  subst hc hd hv
  refine wpAny_bind (wpAny_pure (wpAny_bind ?_))
  dsimp only
  refine wpAny_bind (wpAny_loadPart he ?_)
  dsimp only
  refine wpAny_bind (L3 _ _ _ _ (fun _ _ e => e) ?_)
  dsimp only
  refine wpAny_bind (wpAny_alloc (wpAny_bind (wpAny_update (Heap.get?_push_of_some _ he) ?_)))
  unfold dictMade
  refine wpAny_bind (wpAny_pure (wpAny_pure ?_))
  dsimp only
  unfold Builtin.ObjectAttr.storeInDict Builtin.ObjectAttr.newKeyGuard nsSet
  have he1 : (s.heap.push { cls := Value.type "dict", data := Data.dict #[] }).get? s.heap.objs.size = some { cls := Value.type "dict", data := Data.dict #[] } := Heap.get?_push_size _ rfl
  have ne1 : e ≠ s.heap.objs.size := Nat.ne_of_lt (Heap.lt_size he)
  refine wpAny_bind (wpAny_pure (wpAny_bind ?_))
  refine wpAny_bind (wpAny_bind (wpAny_askSetting (wpAny_pure ?_)))
  refine wpAny_bind (wpAny_mkText (wpAny_bind (wpAny_loadPart ((Heap.get?_update_other _ _ ne1).trans he1) ?_)))
  dsimp only
  rw [if_neg (by decide +kernel)]
  have hn1 : ∀ (f : Obj → Obj) b o, b ≠ e → s.heap.get? b = some o → ((((s.heap.push { cls := Value.type "dict", data := Data.dict #[] }).update e fun o => { cls := o.cls, dict := some s.heap.objs.size, data := o.data, slots := o.slots }).update s.heap.objs.size f).get? b = some o) := fun f b o hb ho => by
    rw [Heap.get?_update_other _ _ (Nat.ne_of_gt (Heap.lt_size ho)), Heap.get?_update_other _ _ (Ne.symm hb)]
    exact Heap.get?_push_of_some _ ho
  have he2 : ∀ (f : Obj → Obj), (((s.heap.push { cls := Value.type "dict", data := Data.dict #[] }).update e fun o => { cls := o.cls, dict := some s.heap.objs.size, data := o.data, slots := o.slots }).update s.heap.objs.size f).get? e = some { cls := .ref 45, dict := some s.heap.objs.size, data := .fields vs, slots := osl } := fun f => by
    rw [Heap.get?_update_other _ _ (Ne.symm ne1)]
    exact Heap.get?_update_self _ (Heap.get?_push_of_some _ he) rfl
  refine wpAny_updatePart ((Heap.get?_update_other _ _ ne1).trans he1) ?_
  refine wpAny_bind (wpAny_lookBehind (Heap.get?_update_self _ ((Heap.get?_update_other _ _ ne1).trans he1) rfl) (pastItsLine_dict (by rw [sizeLine_eq]; exact Nat.succ_le_succ (Nat.zero_le _))) ?_)
  exact wpAny_pure (hq _ _ (hn1 _) ⟨_, he2 _⟩)

theorem init_code {w : World} {A : Around} {R : Result → Shared → Prop} {s : Shared} {g₀ : Heap} {e tt : Addr} {x : Str} {tk : Tok}
    (Xg : (hd.heap_1_39 w.params).In g₀) (hl : g₀.NoLimit) (k : ∀ b o, g₀.get? b = some o → s.heap.get? b = some o) (hn : g₀.get? e = none) (he : s.heap.get? e = some (excOf tt)) (hroom : A.depth < recursionLimit)
    (hq : ∀ h' tk', (∀ b o, b ≠ e → s.heap.get? b = some o → h'.get? b = some o) → (∃ d, h'.get? e = some { excOf tt with dict := some d }) → R (.ok (.ret .none)) { s with heap := h', toks := tk' }) :
    codeAny (model PP w) A (.call (.ref 29) ⟨[.ref e, .str x tk], []⟩) R s := by
  w_top off
  refine codeAny_call_def (body := _) (binds := [(Str.ofString "self", .ref e), (Str.ofString "told", .str x tk)]) hroom (k _ _ (Xg _ _ (by k_is))) rfl (hl.keeps k) (codeRec_of (Xg.keeps k) (by k_is)) rfl (binds_K (Xg.keeps k) rfl (by k_is) rfl rfl rfl) (by decide) (locs rfl) (fun h₁ hns hk₁ => ?_) rfl rfl rfl
  have F9 : Fr (s.heap.hide e) s.heap.objs.size h₁ (fun x' => ([(Str.ofString "self", Value.ref e), (Str.ofString "told", Value.str x tk)] : List (Str × Value)).reverse.lookup x') :=
    ⟨hns, fun b o q => hk₁ b o (Heap.of_hide q), Nat.le_of_eq (Heap.hide_size _ _)⟩
  have X9 : (hd.heap_1_39 w.params).In (s.heap.hide e) := Xg.keeps fun b o q => (Heap.hide_ne _ (fun z => by rw [z, hn] at q; cases q)).trans (k b o q)
  have N9 : News (s.heap.hide e) s.heap.objs.size h₁ [(e, excOf tt)] := fun p hp => by
    rw [List.mem_singleton.mp hp]
    exact ⟨hk₁ _ _ he, Nat.ne_of_lt (Heap.lt_size he), Heap.hide_self _ _⟩
  (repeat' (first | (k_unfold; (try dsimp only)) | ((with_reducible show wpAny _ _ (call (Value.ref _) _) _ _ _); (fail_if_success (with_reducible show wpAny _ _ (call (Value.ref 87) _) _ _ _)); (fail_if_success ((with_reducible rename GoIn => hgo9); (with_reducible show wpAny _ _ (call (Value.ref 137) _) _ _ _))); refine Stop.mk ?_) | (k_here; (with_reducible show wpAny _ _ (call (Value.type "list") [Value.bytes _ _]) _ _ _); k_dflt (refine' lb_list ?kbaiN1 ?kbahN1 ?kbaFN1 ?kbaNN1 ?kbanN1 ?_; (case kbaFN1 => k_asm); (case kbaNN1 => k_asm); (case kbahN1 => rfl); (case kbaiN1 => kba_ints); (case kbanN1 => kba_size)); intro D9z us9z c9z h9z tk9z F9z N9z l19z hI9z; (try k_lt l19z); (try k_sweep)) | walk1 | (dsimp only; first | ((with_reducible show wpAny _ _ (call (Value.ref _) _) _ _ _); (fail_if_success (with_reducible show wpAny _ _ (call (Value.ref 87) _) _ _ _)); (fail_if_success ((with_reducible rename GoIn => hgo9); (with_reducible show wpAny _ _ (call (Value.ref 137) _) _ _ _))); refine Stop.mk ?_) | walk1)))
  refine bad_set (X9.keeps F9.keep) (hk₁ _ _ he) rfl rfl rfl fun h' tk' a b => ?_
  (repeat' (first | (k_unfold; (try dsimp only)) | ((with_reducible show wpAny _ _ (call (Value.ref _) _) _ _ _); (fail_if_success (with_reducible show wpAny _ _ (call (Value.ref 87) _) _ _ _)); (fail_if_success ((with_reducible rename GoIn => hgo9); (with_reducible show wpAny _ _ (call (Value.ref 137) _) _ _ _))); refine Stop.mk ?_) | (k_here; (with_reducible show wpAny _ _ (call (Value.type "list") [Value.bytes _ _]) _ _ _); k_dflt (refine' lb_list ?kbaiN2 ?kbahN2 ?kbaFN2 ?kbaNN2 ?kbanN2 ?_; (case kbaFN2 => k_asm); (case kbaNN2 => k_asm); (case kbahN2 => rfl); (case kbaiN2 => kba_ints); (case kbanN2 => kba_size)); intro D9z us9z c9z h9z tk9z F9z N9z l19z hI9z; (try k_lt l19z); (try k_sweep)) | walk1 | (dsimp only; first | ((with_reducible show wpAny _ _ (call (Value.ref _) _) _ _ _); (fail_if_success (with_reducible show wpAny _ _ (call (Value.ref 87) _) _ _ _)); (fail_if_success ((with_reducible rename GoIn => hgo9); (with_reducible show wpAny _ _ (call (Value.ref 137) _) _ _ _))); refine Stop.mk ?_) | walk1)))
  exact hq _ _ (fun b' o hb ho => a b' o hb (hk₁ _ _ ho)) b

theorem bad_cls {w : World} {h : Heap} (X : (hd.heap_1_39 w.params).In h) : ∃ nm q N bs hdct sn sub ab col dd k0 k1 k2 k3 k5, h.get? 45 = some (excClassObj nm q 45 N bs [.ref 32, .type "Exception", .type "BaseException", .type "object"] hdct sn sub ab col dd k0 k1 k2 k3 k5 "Exception.__new__") :=
  ⟨_, _, _, _, _, _, _, _, _, _, _, _, _, _, _, X 45 _ (by k_is)⟩

theorem bad_new {w : World} {A : Around} {R : Result → Shared → Prop} {h : Heap} {g : Array GenState} {d : Drawn} {t : Nat} {os : OsState} {v : Value} (X : (hd.heap_1_39 w.params).In h)
    (hq : R (.ok (.ret (.ref (h.objs.size + 1)))) ⟨(h.push { cls := .type "tuple", data := .seq #[v] }).push (excOf h.objs.size), g, d, t, os⟩) :
    codeAny (model PP w) A (.call (.builtin "Exception.__new__") ⟨[.ref 45, v], []⟩) R ⟨h, g, d, t, os⟩ := by
  have F := PySem.F.excBase_Exception
  obtain ⟨nm, q, N, bs, hdct, sn, sub, ab, col, dd, k0, k1, k2, k3, k5, hC⟩ := bad_cls X
  have hcont : (Value.ref 45 :: [.ref 32, .type "Exception", .type "BaseException", .type "object"]).contains (Value.type "Exception") = true := by decide +kernel
  have hcA : (Value.ref 45 :: [.ref 32, .type "Exception", .type "BaseException", .type "object"]).contains (Value.type "AttributeError") = false := by decide +kernel
  have hcN : (Value.ref 45 :: [.ref 32, .type "Exception", .type "BaseException", .type "object"]).contains (Value.type "NameError") = false := by decide +kernel
  refine codeAny_call_builtin_code (Code.quiet_builtin _ F.quiet) ?_
  have hstar := F.noStar
  simp only [checkBuiltinCall, F.newKind, F.newSplit, F.newRow]
  repeat (first | refine wpAny_loadPart_at hC ?_ | (refine wpAny_isSubtype_exc hC ?_; rw [hcont]) | refine wpAny_staticBase_exc hC ?_ | refine wpAny_madeBy_exc hC ?_ | simp only [bne_self_eq_false, Bool.false_eq_true, if_false] | wp_step)
  have hends := F.ends
  refine codeAny_builtinAt F.entry ?_
  unfold Builtin.«BaseException.__new__»
  refine PySem.wpAt_bind ?_
  show PySem.wpAt _ _ _ (stack >>= _) _ _ _
  refine PySem.wpAt_bind (PySem.wpAt_stack fun p below => PySem.wpAt_of_wpAny ?_)
  wp_walk
  refine PySem.wpAt_of_wpAny ?_
  rw [F.owner]
  repeat (first | with_reducible refine wpAny_madeHere_exc F.canon hC ?_ | with_reducible refine wpAny_loadPart_at hC ?_ | (with_reducible refine wpAny_isSubtype_exc hC ?_; first | rw [hcont] | rw [hcA] | rw [hcN]) | wp_step)
  show R _ _
  rw [Heap.size_push]
  exact hq

theorem call_bad {w : World} {A : Around} {Q E : _} {s : Shared} {x : Str} {tk : Tok} {g₀ : Heap}
    (Xg : (hd.heap_1_39 w.params).In g₀) (hl : g₀.NoLimit) (k : ∀ b o, g₀.get? b = some o → s.heap.get? b = some o) (hroom : A.depth + 2 < recursionLimit)
    (hq : ∀ e h' tk', MadeBad s.heap h' e → Q (.ref e) { s with heap := h', toks := tk' }) :
    wpAny (model PP w) A (call (.ref 45) [.str x tk]) Q E s := by
  refine wpAny_call ?_
  obtain ⟨h, g, d, t, os⟩ := s
  have X := Xg.keeps k
  refine codeAny_of_tree ?_
  show wpAny _ _ (callAny (.ref 45) _) _ _ _
  refine nd_load (X 45 _ (by k_is)) ?_
  show wpAny _ _ (callAny.viaDunder (.ref 45) _) _ _ _
  unfold callAny.viaDunder
  have call : Looks (model PP w) h (specialOf (.ref 45) "__call__") (some (.builtin "type.__call__")) := looks_specialIn X (by k_is)
  have typ : Looks (model PP w) h (isInstance (.ref 45) (.type "type")) true := peek_of X (by kernel_rfl)
  have hm : Looks (model PP w) h (mroOf (.ref 45)) [.ref 45, .ref 32, .type "Exception", .type "BaseException", .type "object"] := peek_of X (by kernel_rfl)
  have made : Looks (model PP w) h (Bind.madeBy (.ref 45)) (some "Exception.__new__") := peek_of X (by kernel_rfl)
  have hi : Looks (model PP w) h (typeLookup (.ref 45) "__init__") (some (.ref 29)) := looks_findIn X (by k_is)
  refine wpAny_bind (call.at ?_)
  dsimp only
  rw [tc_bind]
  refine wpAny_bind (wpAny_pure (wpAny_bind (wpAny_pure ?_)))
  refine wpAny_pure (a := Fin.again (.call (.builtin "type.__call__") ⟨[.ref 45, .str x tk], []⟩)) (And.intro rfl ?_)
  refine codeAny_call_builtin_at (Code.quiet_builtin _ (by decide +kernel)) entry_typeCall (check_slot tc_kind tc_split typ (tc_args _ _ _) ?_)
  unfold Builtin.«type.__call__»
  repeat (first | with_reducible refine wpAny_call ?_ | lk)
  refine bad_new X ?_
  dsimp only
  have kk : ∀ b o, h.get? b = some o → ((h.push { cls := .type "tuple", data := .seq #[.str x tk] }).push (excOf h.objs.size)).get? b = some o := fun b o e => Heap.get?_push_of_some _ (Heap.get?_push_of_some _ e)
  have hx : ((h.push { cls := .type "tuple", data := .seq #[.str x tk] }).push (excOf h.objs.size)).get? (h.objs.size + 1) = some (excOf h.objs.size) := by heap_get
  have t1 : Looks (model PP w) ((h.push { cls := .type "tuple", data := .seq #[.str x tk] }).push (excOf h.objs.size)) (typeOf (.ref (h.objs.size + 1))) (.ref 45) := bad_typ (X.keeps kk) hx rfl
  have s1 : Looks (model PP w) ((h.push { cls := .type "tuple", data := .seq #[.str x tk] }).push (excOf h.objs.size)) (isSubtype (.ref 45) (.ref 45)) true := peek_of (X.keeps kk) (by kernel_rfl)
  have i1 := hi.keeps kk
  have b1 : Looks (model PP w) ((h.push { cls := .type "tuple", data := .seq #[.str x tk] }).push (excOf h.objs.size)) (bindSpecial (.ref 29) (.ref (h.objs.size + 1))) (.ref 29, [.ref (h.objs.size + 1)]) := bind_fn (X.keeps kk) _ (by k_is)
  unfold isInstance callSpecial? specialOf
  repeat (first | with_reducible refine wpAny_call ?_ | lk)
  have hn : g₀.get? (h.objs.size + 1) = none := by
    cases q : g₀.get? (h.objs.size + 1) with
    | none => rfl
    | some o => exact absurd (Heap.lt_size (k _ _ q)) (by show ¬ h.objs.size + 1 < h.objs.size; omega)
  refine init_code Xg hl (fun b o e => kk b o (k b o e)) hn hx ?_ fun h' tk' a b => ?_
  · show (A.under _).depth < _
    simp only [depth_under_make]
    omega
  · dsimp only
    refine wpAny_pure (wpAny_pure ?_)
    have mb : MadeBad h h' (h.objs.size + 1) := by
      obtain ⟨dd, hb⟩ := b
      exact ⟨fun b o e => a b o (Nat.ne_of_lt (Nat.lt_succ_of_lt (Heap.lt_size e))) (kk b o e), Heap.get?_none_of_le (Nat.le_succ _), _, _, hb, rfl, rfl⟩
    exact hq _ _ _ mb

theorem Raise_bad {w : World} {A : Around} {E : Value → Shared → Prop} {s : Shared} {env : Env} {e : Expr} {pos : Pos} {Q : Flow → Shared → Prop} (hh : A.handled = none)
    (h : wpAny (model PP w) A (eval e env) (fun v s₁ => ∃ a h, v = .ref a ∧ MadeBad h s₁.heap a ∧ (hd.heap_1_39 w.params).In s₁.heap ∧ E (.ref a) s₁) E s) : wpAny (model PP w) A (exec (.Raise (some e) none pos) env) Q E s := by
  show wpAny _ A (do standAt pos; raiseStmt env (some (do let v ← eval e env; standAt pos; pure v)) none) Q E s
  refine wpAny_bind (wpAny_standAt ?_)
  unfold raiseStmt
  dsimp only
  refine wpAny_bind (wpAny_bind (wpAny_mono h (fun v s₁ h₁ => wpAny_bind (wpAny_standAt (wpAny_pure ?_))) fun _ _ x => x))
  obtain ⟨a, h, rfl, mb, X, hE⟩ := h₁
  obtain ⟨ob, t, ha, hcls, hd⟩ := mb.there
  obtain ⟨nm, q, N, bs, hdct, sn, sub, ab, col, dd, k0, k1, k2, k3, k5, hC⟩ := bad_cls X
  have hcB : (Value.ref 45 :: [.ref 32, .type "Exception", .type "BaseException", .type "object"]).contains (Value.type "BaseException") = true := by decide +kernel
  obtain ⟨oc, od, oda, osl⟩ := ob
  dsimp only at hcls hd
  subst hcls hd
  obtain ⟨hp, g, d, tk, os⟩ := s₁
  repeat (first | with_reducible refine wpAny_loadPart_at ha ?_ | with_reducible refine wpAny_loadPart_at hC ?_ | (with_reducible refine wpAny_isSubtype_exc hC ?_; rw [hcB]) | wp_step)
  exact wpAny_raiseNew_none hh hE

/-- a size at the head of a list of octets: the number, and what is left -/
def szAt : List Int → Option (Int × List Int)
  | [] => none
  | o :: r => if o < 128 then some (o, r) else (szAt r).map fun p => (o % 128 + 128 * p.1, p.2)
theorem szAt_len : ∀ {l : List Int} {n : Int} {r : List Int}, szAt l = some (n, r) → r.length < l.length
  | [], _, _, h => by cases h
  | o :: l, n, r, h => by
    rw [szAt] at h
    split at h
    · cases h; simp
    · obtain ⟨q, hq, e⟩ := Option.map_eq_some_iff.mp h
      cases e
      have := szAt_len (n := q.1) (r := q.2) hq
      simp only [List.length_cons]; omega
theorem szAt_nonneg : ∀ {l : List Int} {n : Int} {r : List Int}, (∀ x ∈ l, 0 ≤ x) → szAt l = some (n, r) → 0 ≤ n
  | [], _, _, _, h => by cases h
  | o :: l, n, r, hl, h => by
    rw [szAt] at h
    have h0 := hl o (.head _)
    split at h
    · cases h; exact h0
    · obtain ⟨q, hq, e⟩ := Option.map_eq_some_iff.mp h
      cases e
      have := szAt_nonneg (n := q.1) (r := q.2) (fun x hx => hl x (.tail _ hx)) hq
      omega

/-- how far a reader of sizes has come: the number so far, the unit, what is left -/
@[irreducible] def AtInv (l : List Int) (nu un : Int) (r : List Int) : Prop := szAt l = (szAt r).map fun q => (nu + un * q.1, q.2)
theorem AtInv.start (l : List Int) : AtInv l 0 1 l := by
  unfold AtInv
  cases szAt l with
  | none => rfl
  | some q => simp
theorem AtInv.fin {l r : List Int} {nu un o : Int} (h : AtInv l nu un (o :: r)) (ho : o < 128) : szAt l = some (nu + un * o, r) := by
  unfold AtInv at h
  rw [h, szAt, if_pos ho]
  rfl
theorem AtInv.none {l : List Int} {nu un : Int} (h : AtInv l nu un []) : szAt l = Option.none := by
  unfold AtInv at h
  rw [h]; rfl
theorem AtInv.step {l r : List Int} {nu un o : Int} (h : AtInv l nu un (o :: r)) (ho : ¬ o < 128) : AtInv l (nu + un * (o % 128)) (un * 128) r := by
  unfold AtInv at h ⊢
  rw [h, szAt, if_neg ho, Option.map_map]
  congr 1
  funext q
  simp only [Function.comp, Prod.mk.injEq, and_true]
  rw [Int.mul_add, Int.mul_assoc, Int.add_assoc]
theorem drop_cons {ks : List Int} {p : Int} (h0 : 0 ≤ p) (h1 : p < ks.length) : ks.drop p.toNat = ks.getD p.toNat 0 :: ks.drop (p + 1).toNat := by
  have hp : p.toNat < ks.length := by omega
  rw [show (p + 1).toNat = p.toNat + 1 from by omega, List.drop_eq_getElem_cons hp, List.getD_eq_getElem?_getD, List.getElem?_eq_getElem hp]
  rfl
theorem drop_none {ks : List Int} {p : Int} (h1 : ¬ p < ks.length) : ks.drop p.toNat = [] := List.drop_eq_nil_of_le (by omega)
/-- an or of a number below a power and a multiple of it -/
theorem or_shift {nu x : Int} {j : Nat} (h0 : 0 ≤ nu) (h1 : nu < 2 ^ j) (hx : 0 ≤ x) : Builtin.bitOr nu (x * 2 ^ j) = nu + 2 ^ j * x := by
  rw [bitOr_and]
  have hp : (0 : Int) < 2 ^ j := Int.pow_pos (by decide)
  have hm : 0 ≤ x * 2 ^ j := Int.mul_nonneg hx (Int.le_of_lt hp)
  rw [bitAnd_pp h0 hm]
  have e1 : (x * 2 ^ j).toNat = x.toNat <<< j := by
    rw [Nat.shiftLeft_eq]
    have : x * 2 ^ j = ((x.toNat * 2 ^ j : Nat) : Int) := by
      rw [Int.natCast_mul, Int.natCast_pow, Int.toNat_of_nonneg hx]; rfl
    rw [this]; rfl
  have e2 : nu.toNat < 2 ^ j := by
    have : ((nu.toNat : Nat) : Int) < ((2 ^ j : Nat) : Int) := by rw [Int.toNat_of_nonneg h0, Int.natCast_pow]; exact h1
    exact Int.ofNat_lt.mp this
  have e3 : nu.toNat &&& (x * 2 ^ j).toNat = 0 := by
    rw [e1]
    apply Nat.eq_of_testBit_eq
    intro i
    rw [Nat.testBit_and, Nat.testBit_shiftLeft, Nat.zero_testBit]
    by_cases hi : i < j
    · simp [Nat.not_le.mpr hi]
    · rw [Nat.testBit_lt_two_pow (Nat.lt_of_lt_of_le e2 (Nat.pow_le_pow_right (by decide) (Nat.le_of_not_lt hi)))]
      rfl
  rw [e3, Int.mul_comm]
  simp

/-- a reader's own dict -/
abbrev rdEnt (w : World) (k1 k2 k3 k4 : Tok) (b : Array UInt8) (tb : Tok) (bs : Int) (t1 : Tok) (sz : Int) (t2 : Tok) (p : Int) (t3 : Tok) : List DictEntry :=
  [⟨PyData.keyHash w.params "delta", .str "delta" k1, .bytes b tb⟩, ⟨PyData.keyHash w.params "base_size", .str "base_size" k2, .int bs t1⟩, ⟨PyData.keyHash w.params "size", .str "size" k3, .int sz t2⟩, ⟨PyData.keyHash w.params "at", .str "at" k4, .int p t3⟩]

section
variable {prog : Program} {w : World} {A : Around} {E : Value → Shared → Prop} {s : Shared}
theorem lb_hint {b : Array UInt8} {t : Tok} {Q : Bool → Shared → Prop} (h : Q false s) : wpAny (model prog w) A (Builtin.List.listLengthHint (.bytes b t)) Q E s := by
  unfold Builtin.List.listLengthHint
  refine wpAny_bind (wpAny_specialOf (typeIs_bytes s b t) FB.slot_bytes_len.lookup ?_)
  generalize hid : ("bytes.__len__" : String) = id0
  wp_delta
  rw [show splitId id0 = some ("bytes", "__len__") from by subst hid; decide +kernel]
  subst hid
  refine wpAny_bind (wpAny_isInstance (T := "bytes") (b := true) (typeIs_bytes s b t) (by rw [isSubtype_type]; kernel_rfl) ?_)
  refine wpAny_ite_split (fun hab => absurd hab (by decide)) (fun _ => ?_)
  refine wpAny_ite_split (fun _ => ?_) (fun hab => absurd (by decide +kernel) hab)
  exact wpAny_bind (wpAny_typeOf (T := "bytes") (typeIs_bytes s b t) (wpAny_pure h))
theorem lb_extend {R : Result → Shared → Prop} {b : Array UInt8} {t : Tok} (hh : A.handled = none) (hz : b.size ≤ 2 ^ 24) (S : Addr) (res : Value) (c₀ : Nat) (hS : s.heap.get? S = some { cls := .type "list", data := .seq #[] c₀ })
    (hR : ∀ h' tk acc' c', (∀ b o, b ≠ S → s.heap.get? b = some o → h'.get? b = some o) → h'.get? S = some { cls := .type "list", dict := none, data := .seq acc' c', slots := #[] } →
      ItemsOf (fun i v => ∃ c u, b[i]? = some c ∧ v = .int (c.toNat : Int) u) acc' b.size → R (.ok (.ret res)) { s with heap := h', toks := tk }) :
    wpAny (model prog w) A.in1 (Builtin.List.listExtendWith (.ref S) (.bytes b t) res)
      (fun fin s' => match fin with | .done f => R (.ok f) s' | .again c' => c'.quiet = true ∧ codeAny (model prog w) A c' R s') (fun e s' => R (.error e) s') s := by
  have hSlt : S < s.heap.objs.size := Heap.lt_size hS
  have hSI : S ≠ s.heap.objs.size := Nat.ne_of_lt hSlt
  have hSf : S ∉ [s.heap.objs.size] := fun hm => hSI (List.mem_singleton.mp hm)
  have W := (KBw.walks (prog := prog) (w := w) (A := A.in1) hh s.heap.objs.size b t).toS
  have key : ∀ (h : Heap) (c₁ tk : Nat), KBw.IsBytesIter h s.heap.objs.size b t 0 → (∀ b o, b ≠ S → s.heap.get? b = some o → h.get? b = some o) →
      h.get? S = some { cls := .type "list", data := .seq #[] c₁ } → codeAny (model prog w) A (.builtin "list.extend.loop" ⟨[.ref S, .ref s.heap.objs.size, res], []⟩) R { s with heap := h, toks := tk } := by
    intro h c₁ tk hit hk hS₁
    refine codeAny_extend_loopS W (by rw [sizeLine_eq]; omega) S hSf res b.size 0 _ #[] c₁ rfl (Nat.zero_le _) hit hS₁ (ItemsOf.nil _) fun s' acc' c' hm hS' hacc => ?_
    rw [Moved.eq_with hm]
    refine hR s'.heap s'.toks acc' c' (fun b o hb e => hm.heap b o (fun hmem => ?_) (hk b o hb e)) hS' hacc
    rcases List.mem_cons.mp hmem with e' | hmem
    · exact hb e'
    · exact absurd (Heap.lt_size e) (by rw [List.mem_singleton.mp hmem]; exact Nat.lt_irrefl _)
  unfold Builtin.List.listExtendWith
  refine wpAny_bind (wpAny_typeOf (T := "bytes") (typeIs_bytes s b t) ?_)
  have h1 : Builtin.List.listSameRef (.ref S) (.bytes b t) = false := rfl
  have h2 : (Value.type "bytes" == Value.type "list") = false := by decide
  have h3 : (Value.type "bytes" == Value.type "tuple") = false := by decide
  simp only [h1, h2, h3, Bool.or_false, Bool.false_eq_true, if_false]
  refine wpAny_bind (KBw.pyIter_bytes ?_)
  refine wpAny_bind (wpAny_holding (lb_hint ?_))
  have hit₁ : KBw.IsBytesIter (s.heap.push { cls := .type "bytes_iterator", data := .fields #[.bytes b t, .int 0 0] }) s.heap.objs.size b t 0 := ⟨_, Heap.get?_push_size _ rfl, rfl, rfl⟩
  have hS₁ := Heap.get?_push_of_some { cls := .type "bytes_iterator", data := .fields #[.bytes b t, .int 0 0] } hS
  exact wpAny_ite_split (fun hab => absurd hab (by decide)) (fun _ => wpAny_pure ⟨plainId_quiet F.plain_extend_loop _, key _ c₀ _ hit₁ (fun b o _ e => Heap.get?_push_of_some _ e) hS₁⟩)
theorem lb_init {R : Result → Shared → Prop} {b : Array UInt8} {t : Tok} (hh : A.handled = none) (hz : b.size ≤ 2 ^ 24) (S : Addr) (hS : s.heap.get? S = some { cls := .type "list", data := .seq #[] })
    (hR : ∀ h' tk acc' c', (∀ b o, b ≠ S → s.heap.get? b = some o → h'.get? b = some o) → h'.get? S = some { cls := .type "list", dict := none, data := .seq acc' c', slots := #[] } →
      ItemsOf (fun i v => ∃ c u, b[i]? = some c ∧ v = .int (c.toNat : Int) u) acc' b.size → R (.ok (.ret .none)) { s with heap := h', toks := tk }) :
    wpAny (model prog w) A.in1 (Builtin.«list.__init__» ⟨[.ref S, .bytes b t], []⟩)
      (fun fin s' => match fin with | .done f => R (.ok f) s' | .again c' => c'.quiet = true ∧ codeAny (model prog w) A c' R s') (fun e s' => R (.error e) s') s := by
  show wpAny _ _ (do let old ← Builtin.List.listItems (.ref S); Builtin.List.listUpdate (.ref S) (fun _ => #[]); letGo old.toList.reverse; Builtin.List.listExtendWith (.ref S) (.bytes b t) .none) _ _ s
  refine wpAny_bind ?_
  unfold Builtin.List.listItems
  refine wpAny_bind (wpAny_seqItems hS rfl (wpAny_pure ?_))
  show wpAny _ _ (updateSeq S (fun _ => #[]) >>= fun _ => letGo (#[] : Array Value).toList.reverse >>= fun _ => Builtin.List.listExtendWith (.ref S) (.bytes b t) .none) _ _ s
  refine wpAny_bind (wpAny_updateSeq hS rfl ?_)
  have hS₂ := Heap.get?_update_self (Obj.mapSeq (fun _ => (#[] : Array Value))) hS rfl
  have oth : ∀ b o, b ≠ S → s.heap.get? b = some o → (s.heap.update S (Obj.mapSeq (fun _ => (#[] : Array Value)))).get? b = some o :=
    fun b o hb e => (Heap.get?_update_other _ _ (Ne.symm hb)).trans e
  refine wpAny_bind (wpAny_letGo ?_)
  refine lb_extend hh hz S .none _ hS₂ fun h' tk acc' c' hk hS' hacc => ?_
  exact hR h' tk acc' c' (fun b o hb e => hk b o hb (oth b o hb e)) hS' hacc
theorem lb_call {Q : Value → Shared → Prop} {b : Array UInt8} {t : Tok} (hh : A.handled = none) (hz : b.size ≤ 2 ^ 24)
    (hQ : ∀ h' tk acc' c', (∀ b o, s.heap.get? b = some o → h'.get? b = some o) →
      h'.get? s.heap.objs.size = some { cls := .type "list", dict := none, data := .seq acc' c', slots := #[] } → ItemsOf (fun i v => ∃ c u, b[i]? = some c ∧ v = .int (c.toNat : Int) u) acc' b.size → Q (.ref s.heap.objs.size) { s with heap := h', toks := tk }) :
    wpAny (model prog w) A (call (.type "list") [.bytes b t]) Q E s := by
  refine callType_codes (Q₁ := fun obj s₁ => obj = .ref s.heap.objs.size ∧ s₁ = { s with heap := s.heap.push { cls := .type "list", data := .seq #[] } }) F.called_list (F.typeCall_list_1 _) F.entry_list_init
    (code_list_new _ ⟨rfl, rfl⟩) fun obj s₁ h₁ => ?_
  obtain ⟨rfl, rfl⟩ := h₁
  have hS : (s.heap.push { cls := .type "list", data := .seq #[] }).get? s.heap.objs.size = some { cls := .type "list", data := .seq #[] } := Heap.get?_push_size _ rfl
  refine ⟨⟨_, hS, rfl⟩, F.args_list_init_2 _ _, lb_init (A := A.in1) hh hz _ hS fun h' tk acc' c' hk hS' hacc => ?_⟩
  exact ⟨rfl, hQ h' tk acc' c' (fun b o e => hk b o (Nat.ne_of_lt (Heap.lt_size e)) (Heap.get?_push_of_some _ e)) hS' hacc⟩
theorem lb_ints {b : Array UInt8} {vs : List Value} (hl : vs.length = b.size) (h : ∀ (j : Nat) (v : Value), vs[j]? = some v → ∃ (c : UInt8) (u : Tok), b[j]? = some c ∧ v = Value.int (c.toNat : Int) u) : IntsAre vs (KBw.bInts b) := by
  refine kdy_ints (by rw [KBw.ints_length]; exact hl) fun j v hj => ?_
  obtain ⟨c, u, hc, rfl⟩ := h j v hj
  exact ⟨_, KBw.ints_get hc, u, rfl⟩
/-- list(octets) -/
theorem lb_list {Q : Value → Shared → Prop} {h₀ : Heap} {L : Addr} {m : Str → Option Value} {news : List (Addr × Obj)} {b : Array UInt8} {t : Tok} {ks : List Int} (hk : KBw.bInts b = ks) (hh : A.handled = none) (F : Fr h₀ L s.heap m) (N : News h₀ L s.heap news) (hz : ks.length ≤ 16777216)
    (h : ∀ D us c h' tk, Fr h₀ L h' m → News h₀ L h' ((D, W.listOf (List.toArray us) c) :: news) → (∀ p ∈ news, p.1 < D) → IntsAre us ks → Q (.ref D) { s with heap := h', toks := tk }) :
    wpAny (model prog w) A (call (.type "list") [.bytes b t]) Q E s := by
  subst hk
  rw [KBw.ints_length] at hz
  refine lb_call hh (by omega) fun h' tk acc c hk hD hI => ?_
  have hD' : h'.get? s.heap.objs.size = some (W.listOf (List.toArray acc.toList) c) := by
    rw [Array.toArray_toList]
    exact hD
  exact h _ acc.toList c h' tk (F.keeps hk) (news_pushed F N hk hD' rfl) (fun p hp => Heap.lt_size (N p hp).1) (lb_ints (by rw [Array.length_toList]; exact hI.1) fun j v hj => hI.2 j v (by rw [← hj, Array.getElem?_toList]))
end

local macro_rules | `(tactic| walk_at $k:str) => if ["exec While Compare cons nil", "exec While Constant cons nil", "exec While UnaryOp cons nil", "exec For Name Name cons nil", "exec For Name Call cons nil", "exec For Tuple Call cons nil", "pyIter ref", "call type:bytes", "call type:bytearray", "call type:enumerate", "EnumEnd", "FreeEnd", "KswEnd", "LeaveR", "leaving ref", "binaryOp LShift int int", "TurnEnd", "CompSrcT"].contains k.getString then `(tactic| refine Stop.mk ?_) else Lean.Macro.throwUnsupported
local macro_rules | `(tactic| walk_at $k:str) => if ["KswPost", "EnumPost", "FreePost", "TurnPost"].contains k.getString then `(tactic| (dsimp only [KswPost, EnumPost, FreePost, TurnPost])) else Lean.Macro.throwUnsupported
local macro_rules | `(tactic| walk_at "exec Raise some none") => `(tactic| refine Raise_bad rfl ?_)
local macro_rules | `(tactic| k_room) => `(tactic| ktr_room)
local macro_rules | `(tactic| k_units) => `(tactic| ktr_units)
local macro_rules | `(tactic| ktr_units) => `(tactic| ((have hcL9 := cLine_is); (try simp only [units_make, units_in1, units_deeper, Around.mark_units, units_caller] at *); (try dsimp only [ktrTop] at *); omega))
theorem spec_octet {w : World} {mean : ExcName → Option Value} {mg mb : Str → Option Value} {x dx : Addr} {k1 k2 k3 k4 : Tok} {b : Array UInt8} {tb : Tok} {bs : Int} {t1 : Tok} {sz : Int} {t2 : Tok} {p : Int} {t3 : Tok} {ks : List Int}
    (hb : KBw.bInts b = ks) (hz : ks.length ≤ 100000) (hxd : @LT.lt Nat _ dx x) (h0 : 0 ≤ p) (h1 : p ≤ ks.length) :
    Spec w mean mg mb 120 6 32 [(x, instObj 137 dx), (dx, dictOf (rdEnt w k1 k2 k3 k4 b tb bs t1 sz t2 p t3) 4)] [.ref x]
      (fun r o => ∃ c t t3', p < ks.length ∧ c = ks.getD p.toNat 0 ∧ r = .int c t ∧ o = [(x, instObj 137 dx), (dx, dictOf (rdEnt w k1 k2 k3 k4 b tb bs t1 sz t2 (p + 1) t3') 4)]) (¬ p < ks.length) := by
  unfold Spec
  w_top off
  intro dp un gd cn cs a ccd cl outer A₀ base h₀ L m rest s R B F X N hap T hk hd hu hret hbad
  ((k_dflt (refine' code_own ?k1N1 ?k2N1 ?k3N1 ?k4N1 ?kapN1 ?k5N1 ?kAN1 ?kFN1 ?kKN1 ?k6N1 ?k7N1 ?k8N1 ?k9N1 ?kBN1 ?_ ?c2N1 ?c3N1 ?c4N1 ?c5N1; (case kAN1 => exact rfl); (case kFN1 => exact rfl); (case kKN1 => assumption); (case k1N1 => k_asm); (case k2N1 => k_asm); (case k3N1 => k_asm); (case k4N1 => k_asm); (case kapN1 => k_asm); (case k5N1 => k_asm); (case k6N1 => k_is); (case k7N1 => k_is); (case k8N1 => ktr_room); (case k9N1 => first | exact BindsTo.of_eq rfl | exact binds_K (by k_in) rfl (by k_is) rfl rfl rfl); (case c5N1 => decide); (case kBN1 => exact locs rfl); (case c2N1 => exact rfl); (case c3N1 => exact rfl); (case c4N1 => exact rfl); k_whole)))
  intro g' L' h' FG' F' N' B' X' T' hrest
  (try dsimp only)
  (try k_fold)
  (repeat' (first | (k_unfold; (try dsimp only)) | ((with_reducible show wpAny _ _ (call (Value.ref _) _) _ _ _); (fail_if_success (with_reducible show wpAny _ _ (call (Value.ref 87) _) _ _ _)); (fail_if_success ((with_reducible rename GoIn => hgo9); (with_reducible show wpAny _ _ (call (Value.ref 137) _) _ _ _))); refine Stop.mk ?_) | (k_here; (with_reducible show wpAny _ _ (call (Value.type "list") [Value.bytes _ _]) _ _ _); k_dflt (refine' lb_list ?kbaiN2 ?kbahN2 ?kbaFN2 ?kbaNN2 ?kbanN2 ?_; (case kbaFN2 => k_asm); (case kbaNN2 => k_asm); (case kbahN2 => rfl); (case kbaiN2 => kba_ints); (case kbanN2 => kba_size)); intro D9z us9z c9z h9z tk9z F9z N9z l19z hI9z; (try k_lt l19z); (try k_sweep)) | walk1 | (dsimp only; first | ((with_reducible show wpAny _ _ (call (Value.ref _) _) _ _ _); (fail_if_success (with_reducible show wpAny _ _ (call (Value.ref 87) _) _ _ _)); (fail_if_success ((with_reducible rename GoIn => hgo9); (with_reducible show wpAny _ _ (call (Value.ref 137) _) _ _ _))); refine Stop.mk ?_) | walk1)))
  · ((unfold Stop; (with_reducible rename Fr _ _ _ _ => rF); (refine' call_bad ?xxN3 ?xlN3 ?xkN3 ?xrN3 ?xqN3); (case xkN3 => exact Fr.keep rF); (case xxN3 => assumption); (case xlN3 => exact Top.nolimit (by assumption)); (case xrN3 => ktr_room); (intro rE rH rT rM); (refine ⟨_, _, rfl, rM, Frag.In.keeps (by assumption) (fun b o q => rM.keeps _ _ (rF.keep b o q)), ?_⟩); (repeat' (first | (k_unfold; (try dsimp only)) | ((with_reducible show wpAny _ _ (call (Value.ref _) _) _ _ _); (fail_if_success (with_reducible show wpAny _ _ (call (Value.ref 87) _) _ _ _)); (fail_if_success ((with_reducible rename GoIn => hgo9); (with_reducible show wpAny _ _ (call (Value.ref 137) _) _ _ _))); refine Stop.mk ?_) | (k_here; (with_reducible show wpAny _ _ (call (Value.type "list") [Value.bytes _ _]) _ _ _); k_dflt (refine' lb_list ?kbaiN4 ?kbahN4 ?kbaFN4 ?kbaNN4 ?kbanN4 ?_; (case kbaFN4 => k_asm); (case kbaNN4 => k_asm); (case kbahN4 => rfl); (case kbaiN4 => kba_ints); (case kbanN4 => kba_size)); intro D9z us9z c9z h9z tk9z F9z N9z l19z hI9z; (try k_lt l19z); (try k_sweep)) | walk1 | (dsimp only; first | ((with_reducible show wpAny _ _ (call (Value.ref _) _) _ _ _); (fail_if_success (with_reducible show wpAny _ _ (call (Value.ref 87) _) _ _ _)); (fail_if_success ((with_reducible rename GoIn => hgo9); (with_reducible show wpAny _ _ (call (Value.ref 137) _) _ _ _))); refine Stop.mk ?_) | walk1))); unfold Stop; (refine leave_bad (by assumption) (by assumption) rM rF ?_); (intro rH2 rTh)))
    refine hbad ?_ _ _ _ (by assumption)
    omega
  · unfold Stop
    rename Fr _ _ _ _ => F9
    rename News _ _ _ _ => N9
    exact LeaveR.ret (own' := _) hret F9 N9 ⟨_, _, _, by omega, rfl, rfl, rfl⟩

/-- what 'number' reads from the turn k on, n turns being left: the number, the place behind -/
def numP (ks : List Int) (fl fb : Int) : Nat → Nat → Int → Option (Int × Int)
  | _, 0, p => some (0, p)
  | k, n + 1, p => if Builtin.bitAnd fl (fb * 2 ^ k) = 0 then numP ks fl fb (k + 1) n p
      else if p < ks.length then (numP ks fl fb (k + 1) n (p + 1)).map fun q => (ks.getD p.toNat 0 * 2 ^ (8 * k) + q.1, q.2) else none
@[irreducible] def NumSt (ks : List Int) (fl fb : Int) (nn : Nat) (p : Int) (k : Nat) (nu q : Int) : Prop :=
  0 ≤ nu ∧ nu < 2 ^ (8 * k) ∧ numP ks fl fb 0 nn p = (numP ks fl fb k (nn - k) q).map fun r => (nu + r.1, r.2)
theorem NumSt.start (ks : List Int) (fl fb : Int) (nn : Nat) (p : Int) : NumSt ks fl fb nn p 0 0 p := by
  unfold NumSt
  refine ⟨Int.le_refl _, by decide, ?_⟩
  cases numP ks fl fb 0 nn p <;> simp
theorem NumSt.fin {ks : List Int} {fl fb : Int} {nn : Nat} {p : Int} {nu q : Int} (h : NumSt ks fl fb nn p nn nu q) : numP ks fl fb 0 nn p = some (nu, q) := by
  unfold NumSt at h
  rw [h.2.2, Nat.sub_self, numP]
  simp
theorem NumSt.skip {ks : List Int} {fl fb : Int} {nn k : Nat} {p : Int} {nu q : Int} (h : NumSt ks fl fb nn p k nu q) (hk : k < nn) (hb : Builtin.bitAnd fl (fb * 2 ^ k) = 0) : NumSt ks fl fb nn p (k + 1) nu q := by
  unfold NumSt at h ⊢
  obtain ⟨a, b, c⟩ := h
  refine ⟨a, ?_, ?_⟩
  · rw [show 8 * (k + 1) = 8 * k + 8 from by omega, Int.pow_add]
    have hp : (0 : Int) < 2 ^ (8 * k) := Int.pow_pos (by decide)
    omega
  · rw [c, show nn - k = (nn - (k + 1)) + 1 from by omega, numP, if_pos hb]
theorem NumSt.cut {ks : List Int} {fl fb : Int} {nn k : Nat} {p : Int} {nu q : Int} (h : NumSt ks fl fb nn p k nu q) (hk : k < nn) (hb : ¬ Builtin.bitAnd fl (fb * 2 ^ k) = 0) (hq : ¬ q < ks.length) : numP ks fl fb 0 nn p = none := by
  unfold NumSt at h
  rw [h.2.2, show nn - k = (nn - (k + 1)) + 1 from by omega, numP, if_neg hb, if_neg hq]
  rfl
theorem NumSt.take {ks : List Int} {fl fb : Int} {nn k : Nat} {p : Int} {nu q : Int} (h : NumSt ks fl fb nn p k nu q) (hk : k < nn) (hb : ¬ Builtin.bitAnd fl (fb * 2 ^ k) = 0) (hq : q < ks.length)
    (ho : 0 ≤ ks.getD q.toNat 0) (ho2 : ks.getD q.toNat 0 ≤ 255) : NumSt ks fl fb nn p (k + 1) (Builtin.bitOr nu (ks.getD q.toNat 0 * 2 ^ (8 * k))) (q + 1) := by
  unfold NumSt at h ⊢
  obtain ⟨a, b, c⟩ := h
  rw [or_shift a b ho]
  have hp : (0 : Int) < 2 ^ (8 * k) := Int.pow_pos (by decide)
  have m0 := Int.mul_nonneg (Int.le_of_lt hp) ho
  have m1 := Int.mul_le_mul_of_nonneg_left ho2 (Int.le_of_lt hp)
  refine ⟨by omega, ?_, ?_⟩
  · rw [show 8 * (k + 1) = 8 * k + 8 from by omega, Int.pow_add]
    omega
  · rw [c, show nn - k = (nn - (k + 1)) + 1 from by omega, numP, if_neg hb, if_pos hq, Option.map_map]
    congr 1
    funext r
    simp only [Function.comp, Prod.mk.injEq, and_true]
    rw [Int.mul_comm, Int.add_assoc]

theorem spec_number {w : World} {mean : ExcName → Option Value} {mg mb : Str → Option Value} {x dx : Addr} {k1 k2 k3 k4 : Tok} {b : Array UInt8} {tb : Tok} {bs : Int} {t1 : Tok} {sz : Int} {t2 : Tok} {p : Int} {t3 : Tok} {ks : List Int} {fl fb : Int} {nn : Nat} {u1 u2 u3 : Tok}
    (hb : KBw.bInts b = ks) (hz : ks.length ≤ 100000) (hxd : @LT.lt Nat _ dx x) (h0 : 0 ≤ p) (h1 : p ≤ ks.length) (hf : 0 ≤ fl) (hf2 : fl ≤ 255) (hfb : 0 < fb) (hfb2 : fb ≤ 16) (hn : nn ≤ 4) :
    Spec w mean mg mb 127 12 64 [(x, instObj 137 dx), (dx, dictOf (rdEnt w k1 k2 k3 k4 b tb bs t1 sz t2 p t3) 4)] [.ref x, .int fl u1, .int fb u2, .int (nn : Int) u3]
      (fun r o => ∃ c q t t3', numP ks fl fb 0 nn p = some (c, q) ∧ p ≤ q ∧ q ≤ ks.length ∧ r = .int c t ∧ o = [(x, instObj 137 dx), (dx, dictOf (rdEnt w k1 k2 k3 k4 b tb bs t1 sz t2 q t3') 4)]) (numP ks fl fb 0 nn p = none) := by
  unfold Spec
  w_top off
  intro dp un gd cn cs a ccd cl outer A₀ base h₀ L m rest s R B F X N hap T hk hd hu hret hbad
  ((k_dflt (refine' code_own ?k1N1 ?k2N1 ?k3N1 ?k4N1 ?kapN1 ?k5N1 ?kAN1 ?kFN1 ?kKN1 ?k6N1 ?k7N1 ?k8N1 ?k9N1 ?kBN1 ?_ ?c2N1 ?c3N1 ?c4N1 ?c5N1; (case kAN1 => exact rfl); (case kFN1 => exact rfl); (case kKN1 => assumption); (case k1N1 => k_asm); (case k2N1 => k_asm); (case k3N1 => k_asm); (case k4N1 => k_asm); (case kapN1 => k_asm); (case k5N1 => k_asm); (case k6N1 => k_is); (case k7N1 => k_is); (case k8N1 => ktr_room); (case k9N1 => first | exact BindsTo.of_eq rfl | exact binds_K (by k_in) rfl (by k_is) rfl rfl rfl); (case c5N1 => decide); (case kBN1 => exact locs rfl); (case c2N1 => exact rfl); (case c3N1 => exact rfl); (case c4N1 => exact rfl); k_whole)))
  intro g' L' h' FG' F' N' B' X' T' hrest
  (try dsimp only)
  (try k_fold)
  (repeat' (first | (k_unfold; (try dsimp only)) | ((with_reducible show wpAny _ _ (call (Value.ref _) _) _ _ _); (fail_if_success (with_reducible show wpAny _ _ (call (Value.ref 87) _) _ _ _)); (fail_if_success ((with_reducible rename GoIn => hgo9); (with_reducible show wpAny _ _ (call (Value.ref 137) _) _ _ _))); refine Stop.mk ?_) | (k_here; (with_reducible show wpAny _ _ (call (Value.type "list") [Value.bytes _ _]) _ _ _); k_dflt (refine' lb_list ?kbaiN2 ?kbahN2 ?kbaFN2 ?kbaNN2 ?kbanN2 ?_; (case kbaFN2 => k_asm); (case kbaNN2 => k_asm); (case kbahN2 => rfl); (case kbaiN2 => kba_ints); (case kbanN2 => kba_size)); intro D9z us9z c9z h9z tk9z F9z N9z l19z hI9z; (try k_lt l19z); (try k_sweep)) | walk1 | (dsimp only; first | ((with_reducible show wpAny _ _ (call (Value.ref _) _) _ _ _); (fail_if_success (with_reducible show wpAny _ _ (call (Value.ref 87) _) _ _ _)); (fail_if_success ((with_reducible rename GoIn => hgo9); (with_reducible show wpAny _ _ (call (Value.ref 137) _) _ _ _))); refine Stop.mk ?_) | walk1)))
  unfold Stop
  rename Fr _ _ _ _ => F9
  rename News _ _ _ _ => N9
  refine For_invVF F9 rfl rfl ?_
  (repeat' (first | (k_unfold; (try dsimp only)) | ((with_reducible show wpAny _ _ (call (Value.ref _) _) _ _ _); (fail_if_success (with_reducible show wpAny _ _ (call (Value.ref 87) _) _ _ _)); (fail_if_success ((with_reducible rename GoIn => hgo9); (with_reducible show wpAny _ _ (call (Value.ref 137) _) _ _ _))); refine Stop.mk ?_) | (k_here; (with_reducible show wpAny _ _ (call (Value.type "list") [Value.bytes _ _]) _ _ _); k_dflt (refine' lb_list ?kbaiN3 ?kbahN3 ?kbaFN3 ?kbaNN3 ?kbanN3 ?_; (case kbaFN3 => k_asm); (case kbaNN3 => k_asm); (case kbahN3 => rfl); (case kbaiN3 => kba_ints); (case kbanN3 => kba_size)); intro D9z us9z c9z h9z tk9z F9z N9z l19z hI9z; (try k_lt l19z); (try k_sweep)) | walk1 | (dsimp only; first | ((with_reducible show wpAny _ _ (call (Value.ref _) _) _ _ _); (fail_if_success (with_reducible show wpAny _ _ (call (Value.ref 87) _) _ _ _)); (fail_if_success ((with_reducible rename GoIn => hgo9); (with_reducible show wpAny _ _ (call (Value.ref 137) _) _ _ _))); refine Stop.mk ?_) | walk1)))
  unfold Stop
  rename Fr _ _ _ _ => F9
  rename News _ _ _ _ => N9
  rename IsRange _ _ _ _ _ _ _ _ => R9
  refine' kst_range (n := nn) (σ := (Int × Tok) × (Int × Tok)) (fun c => [(x, instObj 137 dx), (dx, dictOf (rdEnt w k1 k2 k3 k4 b tb bs t1 sz t2 c.2.1 c.2.2) 4)]) (fun c => [(Str.ofString "found", .int c.1.1 c.1.2)])
      (fun c => True) [] (fun pre c => p ≤ c.2.1 ∧ c.2.1 ≤ ks.length ∧ pre.length ≤ nn ∧ NumSt ks fl fb nn p pre.length c.1.1 c.2.1) ((0, _), (p, t3)) rfl R9 ?ks ?kn F9 N9 ?kf ?kk ?kp ?_ ?_
  case ks => exact small_one (by omega) (by omega) (by omega) (by omega)
  case kn => exact rangeSize_nat _ _
  case kf => trivial
  case kk => kst_all
  case kp => exact ⟨Int.le_refl _, h1, Nat.zero_le _, NumSt.start _ _ _ _ _⟩
  · rintro ⟨⟨nu, tn⟩, ⟨q, tq⟩⟩ pre k t u h8 tk8 own8 hk8 hk9 hoff8 hF ⟨q0, q1, q2, hP⟩ F8 N8
    (try dsimp only at hF q0 q1 q2 hP F8 N8)
    simp only [Int.zero_add] at hk8
    subst hk8
    generalize hk0 : pre.length = k at *
    (repeat' (first | (k_unfold; (try dsimp only)) | ((with_reducible show wpAny _ _ (call (Value.ref _) _) _ _ _); (fail_if_success (with_reducible show wpAny _ _ (call (Value.ref 87) _) _ _ _)); (fail_if_success ((with_reducible rename GoIn => hgo9); (with_reducible show wpAny _ _ (call (Value.ref 137) _) _ _ _))); refine Stop.mk ?_) | (k_here; (with_reducible show wpAny _ _ (call (Value.type "list") [Value.bytes _ _]) _ _ _); k_dflt (refine' lb_list ?kbaiN4 ?kbahN4 ?kbaFN4 ?kbaNN4 ?kbanN4 ?_; (case kbaFN4 => k_asm); (case kbaNN4 => k_asm); (case kbahN4 => rfl); (case kbaiN4 => kba_ints); (case kbanN4 => kba_size)); intro D9z us9z c9z h9z tk9z F9z N9z l19z hI9z; (try k_lt l19z); (try k_sweep)) | walk1 | (dsimp only; first | ((with_reducible show wpAny _ _ (call (Value.ref _) _) _ _ _); (fail_if_success (with_reducible show wpAny _ _ (call (Value.ref 87) _) _ _ _)); (fail_if_success ((with_reducible rename GoIn => hgo9); (with_reducible show wpAny _ _ (call (Value.ref 137) _) _ _ _))); refine Stop.mk ?_) | walk1)))
    unfold Stop
    refine lshift_int_small (by omega) (by omega) (by omega) ?_
    (repeat' (first | (k_unfold; (try dsimp only)) | ((with_reducible show wpAny _ _ (call (Value.ref _) _) _ _ _); (fail_if_success (with_reducible show wpAny _ _ (call (Value.ref 87) _) _ _ _)); (fail_if_success ((with_reducible rename GoIn => hgo9); (with_reducible show wpAny _ _ (call (Value.ref 137) _) _ _ _))); refine Stop.mk ?_) | (k_here; (with_reducible show wpAny _ _ (call (Value.type "list") [Value.bytes _ _]) _ _ _); k_dflt (refine' lb_list ?kbaiN5 ?kbahN5 ?kbaFN5 ?kbaNN5 ?kbanN5 ?_; (case kbaFN5 => k_asm); (case kbaNN5 => k_asm); (case kbahN5 => rfl); (case kbaiN5 => kba_ints); (case kbanN5 => kba_size)); intro D9z us9z c9z h9z tk9z F9z N9z l19z hI9z; (try k_lt l19z); (try k_sweep)) | walk1 | (dsimp only; first | ((with_reducible show wpAny _ _ (call (Value.ref _) _) _ _ _); (fail_if_success (with_reducible show wpAny _ _ (call (Value.ref 87) _) _ _ _)); (fail_if_success ((with_reducible rename GoIn => hgo9); (with_reducible show wpAny _ _ (call (Value.ref 137) _) _ _ _))); refine Stop.mk ?_) | walk1)))
    · unfold Stop
      rename Fr _ _ _ _ => F9
      rename News _ _ _ _ => N9
      rename Builtin.bitAnd fl _ ≠ 0 => hbit
      rw [Int.toNat_natCast] at hbit
      dsimp only
      refine' Spec.use (spec_octet (ks := ks) (p := q) (k1 := k1) (k2 := k2) (k3 := k3) (k4 := k4) (t1 := t1) (t2 := t2) (t3 := tq) (bs := bs) (sz := sz) (dx := dx) (tb := tb) hb hz hxd (by omega) q1) B' F9 X' N9 (.cons .here (.cons .here .nil)) ?ua T' rfl ?ud ?uu ?_ ?_
      case ud => ktr_room
      case uu => ktr_units
      case ua =>
        intro a9 ha9 b9 hb9
        simp only [List.mem_cons, List.not_mem_nil, or_false] at ha9
        rcases ha9 with rfl | rfl
        · exact (hoff8 b9 hb9 _ (.head _)).symm
        · exact (hoff8 b9 hb9 _ (.tail _ (.head _))).symm
      · rintro r9 o9 h9 tk9 F9 N9 A9 ⟨c9, t9, t9', hlt, rfl, rfl, rfl⟩
        (try simp only [List.append_eq, List.nil_append] at N9)
        have hr := KBw.getD_in (ks := ks) (j := q.toNat) (fun k hk => KBw.ints_in (b := b) (hb ▸ hk))
        (repeat' (first | (k_unfold; (try dsimp only)) | ((with_reducible show wpAny _ _ (call (Value.ref _) _) _ _ _); (fail_if_success (with_reducible show wpAny _ _ (call (Value.ref 87) _) _ _ _)); (fail_if_success ((with_reducible rename GoIn => hgo9); (with_reducible show wpAny _ _ (call (Value.ref 137) _) _ _ _))); refine Stop.mk ?_) | (k_here; (with_reducible show wpAny _ _ (call (Value.type "list") [Value.bytes _ _]) _ _ _); k_dflt (refine' lb_list ?kbaiN6 ?kbahN6 ?kbaFN6 ?kbaNN6 ?kbanN6 ?_; (case kbaFN6 => k_asm); (case kbaNN6 => k_asm); (case kbahN6 => rfl); (case kbaiN6 => kba_ints); (case kbanN6 => kba_size)); intro D9z us9z c9z h9z tk9z F9z N9z l19z hI9z; (try k_lt l19z); (try k_sweep)) | walk1 | (dsimp only; first | ((with_reducible show wpAny _ _ (call (Value.ref _) _) _ _ _); (fail_if_success (with_reducible show wpAny _ _ (call (Value.ref 87) _) _ _ _)); (fail_if_success ((with_reducible rename GoIn => hgo9); (with_reducible show wpAny _ _ (call (Value.ref 137) _) _ _ _))); refine Stop.mk ?_) | walk1)))
        unfold Stop
        refine lshift_int_small (by omega) (by omega) (by omega) ?_
        (repeat' (first | (k_unfold; (try dsimp only)) | ((with_reducible show wpAny _ _ (call (Value.ref _) _) _ _ _); (fail_if_success (with_reducible show wpAny _ _ (call (Value.ref 87) _) _ _ _)); (fail_if_success ((with_reducible rename GoIn => hgo9); (with_reducible show wpAny _ _ (call (Value.ref 137) _) _ _ _))); refine Stop.mk ?_) | (k_here; (with_reducible show wpAny _ _ (call (Value.type "list") [Value.bytes _ _]) _ _ _); k_dflt (refine' lb_list ?kbaiN7 ?kbahN7 ?kbaFN7 ?kbaNN7 ?kbanN7 ?_; (case kbaFN7 => k_asm); (case kbaNN7 => k_asm); (case kbahN7 => rfl); (case kbaiN7 => kba_ints); (case kbanN7 => kba_size)); intro D9z us9z c9z h9z tk9z F9z N9z l19z hI9z; (try k_lt l19z); (try k_sweep)) | walk1 | (dsimp only; first | ((with_reducible show wpAny _ _ (call (Value.ref _) _) _ _ _); (fail_if_success (with_reducible show wpAny _ _ (call (Value.ref 87) _) _ _ _)); (fail_if_success ((with_reducible rename GoIn => hgo9); (with_reducible show wpAny _ _ (call (Value.ref 137) _) _ _ _))); refine Stop.mk ?_) | walk1)))
        rename Fr _ _ _ _ => F9
        rename News _ _ _ _ => N9
        refine kst_end ((_, _), (_, _)) F9 N9 (by (((try simp only [List.cons_append, List.nil_append, List.append_assoc]); (repeat' (first | (refine List.forall_mem_cons.mpr (And.intro ?_ ?_)) | (intro p9 hp9; exact absurd hp9 List.not_mem_nil) | (intro p9 hp9; (repeat refine List.mem_cons_of_mem _ ?_); exact hp9) | exact List.mem_cons_self | (refine List.mem_cons_of_mem _ ?_)))))) (by ((intro p9 hp9; repeat' (first | exact hp9 | exact List.mem_append_right _ hp9 | exact List.mem_append_left _ hp9 | (refine List.mem_cons_of_mem _ ?_) | (refine List.mem_append_right _ ?_))))) (by rfl) trivial (by kst_all) (by ((intro z9 hz9 h29 h39; (try simp only [List.forall_mem_cons, List.not_mem_nil, false_implies, implies_true, and_true, ne_eq] at h29); (try simp only [List.contains_cons, List.contains_nil, Bool.or_false, Bool.or_eq_false_iff, beq_eq_false_iff_ne, ne_eq] at h39); (try dsimp only); first | rfl | (simp [hz9, h29, h39, kstB]; done) | (simp [hz9, h29, kstB]; done) | (simp [hz9, h39, kstB]; done) | (simp [hz9, kstB]; done)))) ?_
        rw [List.length_append, hk0, show (8 * (k : Int)).toNat = 8 * k from by omega]
        exact ⟨by dsimp only; omega, by dsimp only; omega, hk9, hP.take hk9 hbit hlt (by omega) (by omega)⟩
      · intro hlt e9 h9 tk9 th9
        exact leave_thrown B' FG' th9 fun h2 th2 => hbad (hP.cut hk9 hbit hlt) _ _ _ th2
    · rename Fr _ _ _ _ => F9
      rename News _ _ _ _ => N9
      refine kst_end ((_, _), (_, _)) F9 N9 (by (((try simp only [List.cons_append, List.nil_append, List.append_assoc]); (repeat' (first | (refine List.forall_mem_cons.mpr (And.intro ?_ ?_)) | (intro p9 hp9; exact absurd hp9 List.not_mem_nil) | (intro p9 hp9; (repeat refine List.mem_cons_of_mem _ ?_); exact hp9) | exact List.mem_cons_self | (refine List.mem_cons_of_mem _ ?_)))))) (by ((intro p9 hp9; repeat' (first | exact hp9 | exact List.mem_append_right _ hp9 | exact List.mem_append_left _ hp9 | (refine List.mem_cons_of_mem _ ?_) | (refine List.mem_append_right _ ?_))))) (by rfl) trivial (by kst_all) (by ((intro z9 hz9 h29 h39; (try simp only [List.forall_mem_cons, List.not_mem_nil, false_implies, implies_true, and_true, ne_eq] at h29); (try simp only [List.contains_cons, List.contains_nil, Bool.or_false, Bool.or_eq_false_iff, beq_eq_false_iff_ne, ne_eq] at h39); (try dsimp only); first | rfl | (simp [hz9, h29, h39, kstB]; done) | (simp [hz9, h29, kstB]; done) | (simp [hz9, h39, kstB]; done) | (simp [hz9, kstB]; done)))) ?_
      rename Builtin.bitAnd fl _ = 0 => hbit
      rw [Int.toNat_natCast] at hbit
      rw [List.length_append, hk0]
      exact ⟨q0, q1, hk9, hP.skip hk9 hbit⟩
  · rintro ⟨⟨nu, tn⟩, ⟨q, tq⟩⟩ u h8 tk8 hF ⟨q0, q1, q2, hP⟩ F8 N8
    (try dsimp only at hF q0 q1 q2 hP F8 N8)
    rw [rangeKs_length] at hP
    (repeat' (first | (k_unfold; (try dsimp only)) | ((with_reducible show wpAny _ _ (call (Value.ref _) _) _ _ _); (fail_if_success (with_reducible show wpAny _ _ (call (Value.ref 87) _) _ _ _)); (fail_if_success ((with_reducible rename GoIn => hgo9); (with_reducible show wpAny _ _ (call (Value.ref 137) _) _ _ _))); refine Stop.mk ?_) | (k_here; (with_reducible show wpAny _ _ (call (Value.type "list") [Value.bytes _ _]) _ _ _); k_dflt (refine' lb_list ?kbaiN8 ?kbahN8 ?kbaFN8 ?kbaNN8 ?kbanN8 ?_; (case kbaFN8 => k_asm); (case kbaNN8 => k_asm); (case kbahN8 => rfl); (case kbaiN8 => kba_ints); (case kbanN8 => kba_size)); intro D9z us9z c9z h9z tk9z F9z N9z l19z hI9z; (try k_lt l19z); (try k_sweep)) | walk1 | (dsimp only; first | ((with_reducible show wpAny _ _ (call (Value.ref _) _) _ _ _); (fail_if_success (with_reducible show wpAny _ _ (call (Value.ref 87) _) _ _ _)); (fail_if_success ((with_reducible rename GoIn => hgo9); (with_reducible show wpAny _ _ (call (Value.ref 137) _) _ _ _))); refine Stop.mk ?_) | walk1)))
    unfold Stop
    rename Fr _ _ _ _ => F9
    rename News _ _ _ _ => N9
    exact LeaveR.ret (own' := _) hret F9 N9 ⟨_, _, _, _, hP.fin, q0, q1, rfl, rfl⟩

/-- one command at p: its place, its length, its octets (none: a copy), the place behind -/
def cmdP (ks : List Int) (p : Int) : Option (Int × Int × Option (List Int) × Int) :=
  if p < ks.length then
    let w := ks.getD p.toNat 0
    if w = 0 then none
    else if Builtin.bitAnd w 128 = 0 then (if p + 1 + w ≤ ks.length then some (0, w, some ((ks.drop (p + 1).toNat).take w.toNat), p + 1 + w) else none)
    else match numP ks w 1 0 4 (p + 1) with
      | none => none
      | some (pl, q) => match numP ks w 16 0 3 q with
        | none => none
        | some (mn, r) => some (pl, if mn > 0 then mn else 65536, none, r)
  else none
theorem cmdP_end {ks : List Int} {p : Int} (h : ¬ p < ks.length) : cmdP ks p = none := by unfold cmdP; rw [if_neg h]
theorem cmdP_zero {ks : List Int} {p : Int} (h : p < ks.length) (h0 : ks.getD p.toNat 0 = 0) : cmdP ks p = none := by unfold cmdP; rw [if_pos h]; dsimp only; rw [if_pos h0]
theorem cmdP_ins {ks : List Int} {p : Int} (h : p < ks.length) (h0 : ¬ ks.getD p.toNat 0 = 0) (hb : Builtin.bitAnd (ks.getD p.toNat 0) 128 = 0) (he : p + 1 + ks.getD p.toNat 0 ≤ ks.length) :
    cmdP ks p = some (0, ks.getD p.toNat 0, some ((ks.drop (p + 1).toNat).take (ks.getD p.toNat 0).toNat), p + 1 + ks.getD p.toNat 0) := by unfold cmdP; rw [if_pos h]; dsimp only; rw [if_neg h0, if_pos hb, if_pos he]
theorem cmdP_cut {ks : List Int} {p : Int} (h : p < ks.length) (h0 : ¬ ks.getD p.toNat 0 = 0) (hb : Builtin.bitAnd (ks.getD p.toNat 0) 128 = 0) (he : ¬ p + 1 + ks.getD p.toNat 0 ≤ ks.length) :
    cmdP ks p = none := by unfold cmdP; rw [if_pos h]; dsimp only; rw [if_neg h0, if_pos hb, if_neg he]
theorem cmdP_num1 {ks : List Int} {p : Int} (h : p < ks.length) (h0 : ¬ ks.getD p.toNat 0 = 0) (hb : ¬ Builtin.bitAnd (ks.getD p.toNat 0) 128 = 0) (hn : numP ks (ks.getD p.toNat 0) 1 0 4 (p + 1) = none) :
    cmdP ks p = none := by unfold cmdP; rw [if_pos h]; dsimp only; rw [if_neg h0, if_neg hb, hn]
theorem cmdP_num2 {ks : List Int} {p pl q : Int} (h : p < ks.length) (h0 : ¬ ks.getD p.toNat 0 = 0) (hb : ¬ Builtin.bitAnd (ks.getD p.toNat 0) 128 = 0) (hn : numP ks (ks.getD p.toNat 0) 1 0 4 (p + 1) = some (pl, q)) (hm : numP ks (ks.getD p.toNat 0) 16 0 3 q = none) :
    cmdP ks p = none := by unfold cmdP; rw [if_pos h]; dsimp only; rw [if_neg h0, if_neg hb, hn]; dsimp only; rw [hm]
theorem cmdP_copy {ks : List Int} {p pl q mn r : Int} (h : p < ks.length) (h0 : ¬ ks.getD p.toNat 0 = 0) (hb : ¬ Builtin.bitAnd (ks.getD p.toNat 0) 128 = 0) (hn : numP ks (ks.getD p.toNat 0) 1 0 4 (p + 1) = some (pl, q)) (hm : numP ks (ks.getD p.toNat 0) 16 0 3 q = some (mn, r)) :
    cmdP ks p = some (pl, if mn > 0 then mn else 65536, none, r) := by unfold cmdP; rw [if_pos h]; dsimp only; rw [if_neg h0, if_neg hb, hn]; dsimp only; rw [hm]

/-- a command's own dict -/
abbrev cmEnt (w : World) (k1 k2 k3 : Tok) (pl : Int) (t1 : Tok) (mn : Int) (t2 : Tok) (oc : Value) : List DictEntry :=
  [⟨PyData.keyHash w.params "place", .str "place" k1, .int pl t1⟩, ⟨PyData.keyHash w.params "many", .str "many" k2, .int mn t2⟩, ⟨PyData.keyHash w.params "octets", .str "octets" k3, oc⟩]
/-- the value of 'octets' -/
inductive OcIs : Value → Option (List Int) → Prop
  | none : OcIs .none none
  | some {b : Array UInt8} {t : Tok} {ls : List Int} : KBw.bInts b = ls → OcIs (.bytes b t) (some ls)

theorem clip_in {n : Nat} {i : Int} (h0 : 0 ≤ i) (h1 : i ≤ n) : clipAt n i = i.toNat := by
  unfold clipAt
  omega

theorem spec_command {w : World} {mean : ExcName → Option Value} {mg mb : Str → Option Value} {x dx : Addr} {k1 k2 k3 k4 : Tok} {b : Array UInt8} {tb : Tok} {bs : Int} {t1 : Tok} {sz : Int} {t2 : Tok} {p : Int} {t3 : Tok} {ks : List Int}
    (hb : KBw.bInts b = ks) (hz : ks.length ≤ 100000) (hxd : @LT.lt Nat _ dx x) (h0 : 0 ≤ p) (h1 : p ≤ ks.length) :
    Spec w mean mg mb 134 16 128 [(x, instObj 137 dx), (dx, dictOf (rdEnt w k1 k2 k3 k4 b tb bs t1 sz t2 p t3) 4)] [.ref x]
      (fun r o => ∃ pl mn oc q c dc j1 j2 j3 u1 u2 ov t3', cmdP ks p = some (pl, mn, oc, q) ∧ p < q ∧ q ≤ ks.length ∧ r = .ref c ∧ OcIs ov oc ∧ @LT.lt Nat _ dc c ∧
        o = [(c, instObj 87 dc), (dc, dictOf (cmEnt w j1 j2 j3 pl u1 mn u2 ov) 3), (x, instObj 137 dx), (dx, dictOf (rdEnt w k1 k2 k3 k4 b tb bs t1 sz t2 q t3') 4)]) (cmdP ks p = none) := by
  unfold Spec
  w_top off
  intro dp un gd cn cs a ccd cl outer A₀ base h₀ L m rest s R B F X N hap T hk hd hu hret hbad
  ((k_dflt (refine' code_own ?k1N1 ?k2N1 ?k3N1 ?k4N1 ?kapN1 ?k5N1 ?kAN1 ?kFN1 ?kKN1 ?k6N1 ?k7N1 ?k8N1 ?k9N1 ?kBN1 ?_ ?c2N1 ?c3N1 ?c4N1 ?c5N1; (case kAN1 => exact rfl); (case kFN1 => exact rfl); (case kKN1 => assumption); (case k1N1 => k_asm); (case k2N1 => k_asm); (case k3N1 => k_asm); (case k4N1 => k_asm); (case kapN1 => k_asm); (case k5N1 => k_asm); (case k6N1 => k_is); (case k7N1 => k_is); (case k8N1 => ktr_room); (case k9N1 => first | exact BindsTo.of_eq rfl | exact binds_K (by k_in) rfl (by k_is) rfl rfl rfl); (case c5N1 => decide); (case kBN1 => exact locs rfl); (case c2N1 => exact rfl); (case c3N1 => exact rfl); (case c4N1 => exact rfl); k_whole)))
  intro g' L' h' FG' F' N' B' X' T' hrest
  (try dsimp only)
  (try k_fold)
  (repeat' (first | (k_unfold; (try dsimp only)) | ((with_reducible show wpAny _ _ (call (Value.ref _) _) _ _ _); (fail_if_success (with_reducible show wpAny _ _ (call (Value.ref 87) _) _ _ _)); (fail_if_success ((with_reducible rename GoIn => hgo9); (with_reducible show wpAny _ _ (call (Value.ref 137) _) _ _ _))); refine Stop.mk ?_) | (k_here; (with_reducible show wpAny _ _ (call (Value.type "list") [Value.bytes _ _]) _ _ _); k_dflt (refine' lb_list ?kbaiN2 ?kbahN2 ?kbaFN2 ?kbaNN2 ?kbanN2 ?_; (case kbaFN2 => k_asm); (case kbaNN2 => k_asm); (case kbahN2 => rfl); (case kbaiN2 => kba_ints); (case kbanN2 => kba_size)); intro D9z us9z c9z h9z tk9z F9z N9z l19z hI9z; (try k_lt l19z); (try k_sweep)) | walk1 | (dsimp only; first | ((with_reducible show wpAny _ _ (call (Value.ref _) _) _ _ _); (fail_if_success (with_reducible show wpAny _ _ (call (Value.ref 87) _) _ _ _)); (fail_if_success ((with_reducible rename GoIn => hgo9); (with_reducible show wpAny _ _ (call (Value.ref 137) _) _ _ _))); refine Stop.mk ?_) | walk1)))
  unfold Stop
  rename Fr _ _ _ _ => F9
  rename News _ _ _ _ => N9
  dsimp only
  refine' Spec.use (spec_octet (ks := ks) (p := p) (k1 := k1) (k2 := k2) (k3 := k3) (k4 := k4) (t1 := t1) (t2 := t2) (t3 := t3) (bs := bs) (sz := sz) (dx := dx) (tb := tb) hb hz hxd h0 h1) B' F9 X' N9 (.cons .here (.cons .here .nil)) (fun _ _ _ h => nomatch h) T' rfl ?ud ?uu ?_ ?_
  case ud => ktr_room
  case uu => ktr_units
  rotate_left 1
  · intro hlt e9 h9 tk9 th9
    exact leave_thrown B' FG' th9 fun h2 th2 => hbad (cmdP_end hlt) _ _ _ th2
  rintro r9 o9 h9 tk9 F9 N9 A9 ⟨c9, t9, t9', hlt, rfl, rfl, rfl⟩
  (try simp only [List.append_nil] at N9)
  have hr := KBw.getD_in (ks := ks) (j := p.toNat) (fun k hk => KBw.ints_in (b := b) (hb ▸ hk))
  (repeat' (first | (k_unfold; (try dsimp only)) | ((with_reducible show wpAny _ _ (call (Value.ref _) _) _ _ _); (fail_if_success (with_reducible show wpAny _ _ (call (Value.ref 87) _) _ _ _)); (fail_if_success ((with_reducible rename GoIn => hgo9); (with_reducible show wpAny _ _ (call (Value.ref 137) _) _ _ _))); refine Stop.mk ?_) | (k_here; (with_reducible show wpAny _ _ (call (Value.type "list") [Value.bytes _ _]) _ _ _); k_dflt (refine' lb_list ?kbaiN3 ?kbahN3 ?kbaFN3 ?kbaNN3 ?kbanN3 ?_; (case kbaFN3 => k_asm); (case kbaNN3 => k_asm); (case kbahN3 => rfl); (case kbaiN3 => kba_ints); (case kbanN3 => kba_size)); intro D9z us9z c9z h9z tk9z F9z N9z l19z hI9z; (try k_lt l19z); (try k_sweep)) | walk1 | (dsimp only; first | ((with_reducible show wpAny _ _ (call (Value.ref _) _) _ _ _); (fail_if_success (with_reducible show wpAny _ _ (call (Value.ref 87) _) _ _ _)); (fail_if_success ((with_reducible rename GoIn => hgo9); (with_reducible show wpAny _ _ (call (Value.ref 137) _) _ _ _))); refine Stop.mk ?_) | walk1)))
  · rename ks.getD p.toNat 0 = 0 => hz0
    ((unfold Stop; (with_reducible rename Fr _ _ _ _ => rF); (refine' call_bad ?xxN6 ?xlN6 ?xkN6 ?xrN6 ?xqN6); (case xkN6 => exact Fr.keep rF); (case xxN6 => assumption); (case xlN6 => exact Top.nolimit (by assumption)); (case xrN6 => ktr_room); (intro rE rH rT rM); (refine ⟨_, _, rfl, rM, Frag.In.keeps (by assumption) (fun b o q => rM.keeps _ _ (rF.keep b o q)), ?_⟩); (repeat' (first | (k_unfold; (try dsimp only)) | ((with_reducible show wpAny _ _ (call (Value.ref _) _) _ _ _); (fail_if_success (with_reducible show wpAny _ _ (call (Value.ref 87) _) _ _ _)); (fail_if_success ((with_reducible rename GoIn => hgo9); (with_reducible show wpAny _ _ (call (Value.ref 137) _) _ _ _))); refine Stop.mk ?_) | (k_here; (with_reducible show wpAny _ _ (call (Value.type "list") [Value.bytes _ _]) _ _ _); k_dflt (refine' lb_list ?kbaiN8 ?kbahN8 ?kbaFN8 ?kbaNN8 ?kbanN8 ?_; (case kbaFN8 => k_asm); (case kbaNN8 => k_asm); (case kbahN8 => rfl); (case kbaiN8 => kba_ints); (case kbanN8 => kba_size)); intro D9z us9z c9z h9z tk9z F9z N9z l19z hI9z; (try k_lt l19z); (try k_sweep)) | walk1 | (dsimp only; first | ((with_reducible show wpAny _ _ (call (Value.ref _) _) _ _ _); (fail_if_success (with_reducible show wpAny _ _ (call (Value.ref 87) _) _ _ _)); (fail_if_success ((with_reducible rename GoIn => hgo9); (with_reducible show wpAny _ _ (call (Value.ref 137) _) _ _ _))); refine Stop.mk ?_) | walk1))); unfold Stop; (refine leave_bad (by assumption) (by assumption) rM rF ?_); (intro rH2 rTh)))
    exact hbad (cmdP_zero hlt hz0) _ _ _ (by assumption)
  · rename ks.getD p.toNat 0 ≠ 0 => hz0
    rename Builtin.bitAnd (ks.getD p.toNat 0) 128 ≠ 0 => hz1
    unfold Stop
    rename Fr _ _ _ _ => F9
    rename News _ _ _ _ => N9
    (try dsimp only)
    refine' Spec.use (spec_number (ks := ks) (p := p + 1) (k1 := k1) (k2 := k2) (k3 := k3) (k4 := k4) (t1 := t1) (t2 := t2) (t3 := t9') (bs := bs) (sz := sz) (dx := dx) (tb := tb) (nn := 4) (fb := 1) (fl := ks.getD p.toNat 0) hb hz hxd (by omega) (by omega) hr.1 (by omega) (by decide) (by decide) (by decide)) B' F9 X' N9 (.cons .here (.cons .here .nil)) (fun _ _ _ h => nomatch h) T' rfl ?ud ?uu ?_ ?_
    case ud => ktr_room
    case uu => ktr_units
    rotate_left 1
    · intro hno e9 h9 tk9 th9
      exact leave_thrown B' FG' th9 fun h2 th2 => hbad (cmdP_num1 hlt hz0 hz1 hno) _ _ _ th2
    rintro r9 o9 h9 tk9 F9 N9 A9 ⟨pl, q, t9, t9'', hn1, hq0, hq1, rfl, rfl⟩
    (try simp only [List.append_nil] at N9)
    (repeat' (first | (k_unfold; (try dsimp only)) | ((with_reducible show wpAny _ _ (call (Value.ref _) _) _ _ _); (fail_if_success (with_reducible show wpAny _ _ (call (Value.ref 87) _) _ _ _)); (fail_if_success ((with_reducible rename GoIn => hgo9); (with_reducible show wpAny _ _ (call (Value.ref 137) _) _ _ _))); refine Stop.mk ?_) | (k_here; (with_reducible show wpAny _ _ (call (Value.type "list") [Value.bytes _ _]) _ _ _); k_dflt (refine' lb_list ?kbaiN4 ?kbahN4 ?kbaFN4 ?kbaNN4 ?kbanN4 ?_; (case kbaFN4 => k_asm); (case kbaNN4 => k_asm); (case kbahN4 => rfl); (case kbaiN4 => kba_ints); (case kbanN4 => kba_size)); intro D9z us9z c9z h9z tk9z F9z N9z l19z hI9z; (try k_lt l19z); (try k_sweep)) | walk1 | (dsimp only; first | ((with_reducible show wpAny _ _ (call (Value.ref _) _) _ _ _); (fail_if_success (with_reducible show wpAny _ _ (call (Value.ref 87) _) _ _ _)); (fail_if_success ((with_reducible rename GoIn => hgo9); (with_reducible show wpAny _ _ (call (Value.ref 137) _) _ _ _))); refine Stop.mk ?_) | walk1)))
    unfold Stop
    rename Fr _ _ _ _ => F9
    rename News _ _ _ _ => N9
    (try dsimp only)
    refine' Spec.use (spec_number (ks := ks) (p := q) (k1 := k1) (k2 := k2) (k3 := k3) (k4 := k4) (t1 := t1) (t2 := t2) (t3 := t9'') (bs := bs) (sz := sz) (dx := dx) (tb := tb) (nn := 3) (fb := 16) (fl := ks.getD p.toNat 0) hb hz hxd (by omega) (by omega) hr.1 (by omega) (by decide) (by decide) (by decide)) B' F9 X' N9 (.cons .here (.cons .here .nil)) (fun _ _ _ h => nomatch h) T' rfl ?ud ?uu ?_ ?_
    case ud => ktr_room
    case uu => ktr_units
    rotate_left 1
    · intro hno e9 h9 tk9 th9
      exact leave_thrown B' FG' th9 fun h2 th2 => hbad (cmdP_num2 hlt hz0 hz1 hn1 hno) _ _ _ th2
    rintro r9 o9 h9 tk9 F9 N9 A9 ⟨mn, q2, t9, t9''', hn2, hq2, hq3, rfl, rfl⟩
    (try simp only [List.append_nil] at N9)
    (repeat' (first | (k_unfold; (try dsimp only)) | ((with_reducible show wpAny _ _ (call (Value.ref _) _) _ _ _); (fail_if_success (with_reducible show wpAny _ _ (call (Value.ref 87) _) _ _ _)); (fail_if_success ((with_reducible rename GoIn => hgo9); (with_reducible show wpAny _ _ (call (Value.ref 137) _) _ _ _))); refine Stop.mk ?_) | (k_here; (with_reducible show wpAny _ _ (call (Value.type "list") [Value.bytes _ _]) _ _ _); k_dflt (refine' lb_list ?kbaiN5 ?kbahN5 ?kbaFN5 ?kbaNN5 ?kbanN5 ?_; (case kbaFN5 => k_asm); (case kbaNN5 => k_asm); (case kbahN5 => rfl); (case kbaiN5 => kba_ints); (case kbanN5 => kba_size)); intro D9z us9z c9z h9z tk9z F9z N9z l19z hI9z; (try k_lt l19z); (try k_sweep)) | walk1 | (dsimp only; first | ((with_reducible show wpAny _ _ (call (Value.ref _) _) _ _ _); (fail_if_success (with_reducible show wpAny _ _ (call (Value.ref 87) _) _ _ _)); (fail_if_success ((with_reducible rename GoIn => hgo9); (with_reducible show wpAny _ _ (call (Value.ref 137) _) _ _ _))); refine Stop.mk ?_) | walk1)))
    · unfold Stop
      rename News g' _ _ _ => N9
      rename Fr g' _ _ _ => F9
      exact LeaveR.ret (own' := _) hret F9 N9 ⟨_, _, _, _, _, _, _, _, _, _, _, _, _, (cmdP_copy hlt hz0 hz1 hn1 hn2).trans (by rw [if_pos (by omega)]), by omega, by omega, rfl, .none, by omega, rfl⟩
    · unfold Stop
      rename News g' _ _ _ => N9
      rename Fr g' _ _ _ => F9
      exact LeaveR.ret (own' := _) hret F9 N9 ⟨_, _, _, _, _, _, _, _, _, _, _, _, _, (cmdP_copy hlt hz0 hz1 hn1 hn2).trans (by rw [if_neg (by omega)]), by omega, by omega, rfl, .none, by omega, rfl⟩
  · rename ks.getD p.toNat 0 ≠ 0 => hz0
    rename Builtin.bitAnd (ks.getD p.toNat 0) 128 = 0 => hz1
    ((unfold Stop; (with_reducible rename Fr _ _ _ _ => rF); (refine' call_bad ?xxN7 ?xlN7 ?xkN7 ?xrN7 ?xqN7); (case xkN7 => exact Fr.keep rF); (case xxN7 => assumption); (case xlN7 => exact Top.nolimit (by assumption)); (case xrN7 => ktr_room); (intro rE rH rT rM); (refine ⟨_, _, rfl, rM, Frag.In.keeps (by assumption) (fun b o q => rM.keeps _ _ (rF.keep b o q)), ?_⟩); (repeat' (first | (k_unfold; (try dsimp only)) | ((with_reducible show wpAny _ _ (call (Value.ref _) _) _ _ _); (fail_if_success (with_reducible show wpAny _ _ (call (Value.ref 87) _) _ _ _)); (fail_if_success ((with_reducible rename GoIn => hgo9); (with_reducible show wpAny _ _ (call (Value.ref 137) _) _ _ _))); refine Stop.mk ?_) | (k_here; (with_reducible show wpAny _ _ (call (Value.type "list") [Value.bytes _ _]) _ _ _); k_dflt (refine' lb_list ?kbaiN9 ?kbahN9 ?kbaFN9 ?kbaNN9 ?kbanN9 ?_; (case kbaFN9 => k_asm); (case kbaNN9 => k_asm); (case kbahN9 => rfl); (case kbaiN9 => kba_ints); (case kbanN9 => kba_size)); intro D9z us9z c9z h9z tk9z F9z N9z l19z hI9z; (try k_lt l19z); (try k_sweep)) | walk1 | (dsimp only; first | ((with_reducible show wpAny _ _ (call (Value.ref _) _) _ _ _); (fail_if_success (with_reducible show wpAny _ _ (call (Value.ref 87) _) _ _ _)); (fail_if_success ((with_reducible rename GoIn => hgo9); (with_reducible show wpAny _ _ (call (Value.ref 137) _) _ _ _))); refine Stop.mk ?_) | walk1))); unfold Stop; (refine leave_bad (by assumption) (by assumption) rM rF ?_); (intro rH2 rTh)))
    exact hbad (cmdP_cut hlt hz0 hz1 (by omega)) _ _ _ (by assumption)
  · rename ks.getD p.toNat 0 ≠ 0 => hz0
    rename Builtin.bitAnd (ks.getD p.toNat 0) 128 = 0 => hz1
    unfold Stop
    rename KBw.bInts (KBy.picked _ _ _) = _ => hpk
    rename News g' _ _ _ => N9
    rename Fr g' _ _ _ => F9
    refine LeaveR.ret (own' := _) hret F9 N9 ⟨_, _, _, _, _, _, _, _, _, _, _, _, _, cmdP_ins hlt hz0 hz1 (by omega), by omega, by omega, rfl, .some ?_, ?_, rfl⟩
    · rw [hpk]
      show (ks.drop (clipAt ks.length (p + 1))).take (clipAt ks.length (p + 1 + ks.getD p.toNat 0) - clipAt ks.length (p + 1)) = _
      rw [clip_in (by omega) (by omega), clip_in (by omega) (by omega)]
      congr 1
      omega
    · omega

@[irreducible] def AtSt (ks : List Int) (at_ nu sh p : Int) : Prop := 0 ≤ nu ∧ nu < 2 ^ sh.toNat ∧ AtInv (ks.drop at_.toNat) nu (2 ^ sh.toNat) (ks.drop p.toNat)
theorem AtSt.start (ks : List Int) (at_ : Int) : AtSt ks at_ 0 0 at_ := by
  unfold AtSt
  exact ⟨Int.le_refl _, by decide, AtInv.start _⟩
theorem AtSt.cut {ks : List Int} {at_ nu sh p : Int} (h : AtSt ks at_ nu sh p) (hp : ¬ p < ks.length) : szAt (ks.drop at_.toNat) = none := by
  unfold AtSt at h
  obtain ⟨_, _, h⟩ := h
  rw [drop_none hp] at h
  exact h.none
theorem AtSt.fin {ks : List Int} {at_ nu sh p : Int} (h : AtSt ks at_ nu sh p) (h0 : 0 ≤ p) (hp : p < ks.length) (ho : 0 ≤ ks.getD p.toNat 0) (hlt : ks.getD p.toNat 0 < 128) :
    szAt (ks.drop at_.toNat) = some (Builtin.bitOr nu (Builtin.bitAnd (ks.getD p.toNat 0) 127 * 2 ^ sh.toNat), ks.drop (p + 1).toNat) := by
  unfold AtSt at h
  obtain ⟨a, b, h⟩ := h
  rw [drop_cons h0 hp] at h
  rw [bitAnd_m7, or_shift a b (by omega), h.fin hlt, show ks.getD p.toNat 0 % 128 = ks.getD p.toNat 0 from by omega]
theorem AtSt.step {ks : List Int} {at_ nu sh p : Int} (h : AtSt ks at_ nu sh p) (h0 : 0 ≤ p) (hp : p < ks.length) (hs : 0 ≤ sh) (ho : 0 ≤ ks.getD p.toNat 0) (hlt : ¬ ks.getD p.toNat 0 < 128) :
    AtSt ks at_ (Builtin.bitOr nu (Builtin.bitAnd (ks.getD p.toNat 0) 127 * 2 ^ sh.toNat)) (sh + 7) (p + 1) := by
  unfold AtSt at h ⊢
  obtain ⟨a, b, h⟩ := h
  rw [drop_cons h0 hp] at h
  have e : (2 : Int) ^ (sh + 7).toNat = 2 ^ sh.toNat * 128 := by
    rw [show (sh + 7).toNat = sh.toNat + 7 from by omega, Int.pow_add]; rfl
  have hp : (0 : Int) < 2 ^ sh.toNat := Int.pow_pos (by decide)
  have hx : 0 ≤ ks.getD p.toNat 0 % 128 := by omega
  have hx2 : ks.getD p.toNat 0 % 128 ≤ 127 := by omega
  have m1 := Int.mul_le_mul_of_nonneg_left hx2 (Int.le_of_lt hp)
  have m0 := Int.mul_nonneg (Int.le_of_lt hp) hx
  rw [bitAnd_m7, or_shift a b hx, e]
  refine ⟨by omega, ?_, h.step hlt⟩
  have : (2 : Int) ^ sh.toNat * 128 = 2 ^ sh.toNat * 127 + 2 ^ sh.toNat := by omega
  omega

theorem spec_at_size {w : World} {mean : ExcName → Option Value} {mg mb : Str → Option Value} {b : Array UInt8} {ks : List Int} {at_ : Int} {t t' : Tok} (hb : KBw.bInts b = ks) (hz : ks.length ≤ 100000) (h0 : 0 ≤ at_) (h1 : at_ ≤ ks.length) :
    Spec w mean mg mb 61 4 32 [] [.bytes b t, .int at_ t'] (fun r o => ∃ n rst p D t1 t2, szAt (ks.drop at_.toNat) = some (n, rst) ∧ p = (ks.length : Int) - rst.length ∧ r = .ref D ∧ o = [(D, { cls := .type "tuple", data := .seq #[.int n t1, .int p t2] })]) (szAt (ks.drop at_.toNat) = none) := by
  unfold Spec
  w_top off
  intro dp un gd cn cs a ccd cl outer A₀ base h₀ L m rest s R B F X N hap T hk hd hu hret hbad
  ((k_dflt (refine' code_own ?k1N1 ?k2N1 ?k3N1 ?k4N1 ?kapN1 ?k5N1 ?kAN1 ?kFN1 ?kKN1 ?k6N1 ?k7N1 ?k8N1 ?k9N1 ?kBN1 ?_ ?c2N1 ?c3N1 ?c4N1 ?c5N1; (case kAN1 => exact rfl); (case kFN1 => exact rfl); (case kKN1 => assumption); (case k1N1 => k_asm); (case k2N1 => k_asm); (case k3N1 => k_asm); (case k4N1 => k_asm); (case kapN1 => k_asm); (case k5N1 => k_asm); (case k6N1 => k_is); (case k7N1 => k_is); (case k8N1 => ktr_room); (case k9N1 => first | exact BindsTo.of_eq rfl | exact binds_K (by k_in) rfl (by k_is) rfl rfl rfl); (case c5N1 => decide); (case kBN1 => exact locs rfl); (case c2N1 => exact rfl); (case c3N1 => exact rfl); (case c4N1 => exact rfl); k_whole)))
  intro g' L' h' FG' F' N' B' X' T' hrest
  (try dsimp only)
  (try k_fold)
  (repeat' (first | (k_unfold; (try dsimp only)) | ((with_reducible show wpAny _ _ (call (Value.ref _) _) _ _ _); (fail_if_success (with_reducible show wpAny _ _ (call (Value.ref 87) _) _ _ _)); (fail_if_success ((with_reducible rename GoIn => hgo9); (with_reducible show wpAny _ _ (call (Value.ref 137) _) _ _ _))); refine Stop.mk ?_) | (k_here; (with_reducible show wpAny _ _ (call (Value.type "list") [Value.bytes _ _]) _ _ _); k_dflt (refine' lb_list ?kbaiN2 ?kbahN2 ?kbaFN2 ?kbaNN2 ?kbanN2 ?_; (case kbaFN2 => k_asm); (case kbaNN2 => k_asm); (case kbahN2 => rfl); (case kbaiN2 => kba_ints); (case kbanN2 => kba_size)); intro D9z us9z c9z h9z tk9z F9z N9z l19z hI9z; (try k_lt l19z); (try k_sweep)) | walk1 | (dsimp only; first | ((with_reducible show wpAny _ _ (call (Value.ref _) _) _ _ _); (fail_if_success (with_reducible show wpAny _ _ (call (Value.ref 87) _) _ _ _)); (fail_if_success ((with_reducible rename GoIn => hgo9); (with_reducible show wpAny _ _ (call (Value.ref 137) _) _ _ _))); refine Stop.mk ?_) | walk1)))
  unfold Stop
  rename Fr _ _ _ _ => F9
  rename News _ _ _ _ => N9
  refine' ksw_while (σ := (Int × Tok) × (Int × Tok) × (Int × Tok)) (fun c => []) (fun c => [(Str.ofString "number", .int c.1.1 c.1.2), (Str.ofString "shift", .int c.2.1.1 c.2.1.2), (Str.ofString "at", .int c.2.2.1 c.2.2.2)])
      (fun c => True) [Str.ofString "octet"] (fun c => 0 ≤ c.2.2.1 ∧ c.2.2.1 ≤ ks.length ∧ 0 ≤ c.2.1.1 ∧ c.2.1.1 ≤ 7 * c.2.2.1 ∧ AtSt ks at_ c.1.1 c.2.1.1 c.2.2.1) (fun c => (ks.length - c.2.2.1).toNat) ((0, _), (0, _), (at_, t')) F9 N9 ?kf ?kk ?kp ?_ ?hE
  case hE => passes_own
  case kf => trivial
  case kk => kst_all
  case kp => exact ⟨h0, h1, Int.le_refl _, by dsimp only; omega, AtSt.start _ _⟩
  rintro ⟨⟨nu, tn⟩, ⟨sh, ts⟩, ⟨p, tp⟩⟩ u h8 tk8 hF ⟨p0, p1, s0, s1, hP⟩ F8 N8
  (try dsimp only at hF p0 p1 s0 s1 hP F8 N8)
  clear F9 N9 hF
  (repeat' (first | (k_unfold; (try dsimp only)) | ((with_reducible show wpAny _ _ (call (Value.ref _) _) _ _ _); (fail_if_success (with_reducible show wpAny _ _ (call (Value.ref 87) _) _ _ _)); (fail_if_success ((with_reducible rename GoIn => hgo9); (with_reducible show wpAny _ _ (call (Value.ref 137) _) _ _ _))); refine Stop.mk ?_) | (k_here; (with_reducible show wpAny _ _ (call (Value.type "list") [Value.bytes _ _]) _ _ _); k_dflt (refine' lb_list ?kbaiN3 ?kbahN3 ?kbaFN3 ?kbaNN3 ?kbanN3 ?_; (case kbaFN3 => k_asm); (case kbaNN3 => k_asm); (case kbahN3 => rfl); (case kbaiN3 => kba_ints); (case kbanN3 => kba_size)); intro D9z us9z c9z h9z tk9z F9z N9z l19z hI9z; (try k_lt l19z); (try k_sweep)) | walk1 | (dsimp only; first | ((with_reducible show wpAny _ _ (call (Value.ref _) _) _ _ _); (fail_if_success (with_reducible show wpAny _ _ (call (Value.ref 87) _) _ _ _)); (fail_if_success ((with_reducible rename GoIn => hgo9); (with_reducible show wpAny _ _ (call (Value.ref 137) _) _ _ _))); refine Stop.mk ?_) | walk1)))
  · ((unfold Stop; (with_reducible rename Fr _ _ _ _ => rF); (refine' call_bad ?xxN5 ?xlN5 ?xkN5 ?xrN5 ?xqN5); (case xkN5 => exact Fr.keep rF); (case xxN5 => assumption); (case xlN5 => exact Top.nolimit (by assumption)); (case xrN5 => ktr_room); (intro rE rH rT rM); (refine ⟨_, _, rfl, rM, Frag.In.keeps (by assumption) (fun b o q => rM.keeps _ _ (rF.keep b o q)), ?_⟩); (repeat' (first | (k_unfold; (try dsimp only)) | ((with_reducible show wpAny _ _ (call (Value.ref _) _) _ _ _); (fail_if_success (with_reducible show wpAny _ _ (call (Value.ref 87) _) _ _ _)); (fail_if_success ((with_reducible rename GoIn => hgo9); (with_reducible show wpAny _ _ (call (Value.ref 137) _) _ _ _))); refine Stop.mk ?_) | (k_here; (with_reducible show wpAny _ _ (call (Value.type "list") [Value.bytes _ _]) _ _ _); k_dflt (refine' lb_list ?kbaiN6 ?kbahN6 ?kbaFN6 ?kbaNN6 ?kbanN6 ?_; (case kbaFN6 => k_asm); (case kbaNN6 => k_asm); (case kbahN6 => rfl); (case kbaiN6 => kba_ints); (case kbanN6 => kba_size)); intro D9z us9z c9z h9z tk9z F9z N9z l19z hI9z; (try k_lt l19z); (try k_sweep)) | walk1 | (dsimp only; first | ((with_reducible show wpAny _ _ (call (Value.ref _) _) _ _ _); (fail_if_success (with_reducible show wpAny _ _ (call (Value.ref 87) _) _ _ _)); (fail_if_success ((with_reducible rename GoIn => hgo9); (with_reducible show wpAny _ _ (call (Value.ref 137) _) _ _ _))); refine Stop.mk ?_) | walk1))); unfold Stop; (refine leave_bad (by assumption) (by assumption) rM rF ?_); (intro rH2 rTh)))
    refine hbad ?_ _ _ _ (by assumption)
    exact hP.cut (by omega)
  · unfold Stop
    have hr := (bitAnd_range (ks.getD p.toNat 0) (y := 127) (by decide))
    refine lshift_int_small (by omega) (by omega) (by omega) ?_
    (repeat' (first | (k_unfold; (try dsimp only)) | ((with_reducible show wpAny _ _ (call (Value.ref _) _) _ _ _); (fail_if_success (with_reducible show wpAny _ _ (call (Value.ref 87) _) _ _ _)); (fail_if_success ((with_reducible rename GoIn => hgo9); (with_reducible show wpAny _ _ (call (Value.ref 137) _) _ _ _))); refine Stop.mk ?_) | (k_here; (with_reducible show wpAny _ _ (call (Value.type "list") [Value.bytes _ _]) _ _ _); k_dflt (refine' lb_list ?kbaiN4 ?kbahN4 ?kbaFN4 ?kbaNN4 ?kbanN4 ?_; (case kbaFN4 => k_asm); (case kbaNN4 => k_asm); (case kbahN4 => rfl); (case kbaiN4 => kba_ints); (case kbanN4 => kba_size)); intro D9z us9z c9z h9z tk9z F9z N9z l19z hI9z; (try k_lt l19z); (try k_sweep)) | walk1 | (dsimp only; first | ((with_reducible show wpAny _ _ (call (Value.ref _) _) _ _ _); (fail_if_success (with_reducible show wpAny _ _ (call (Value.ref 87) _) _ _ _)); (fail_if_success ((with_reducible rename GoIn => hgo9); (with_reducible show wpAny _ _ (call (Value.ref 137) _) _ _ _))); refine Stop.mk ?_) | walk1)))
    · unfold Stop
      rename Fr _ _ _ _ => F9
      rename News _ _ _ _ => N9
      rename ks.getD p.toNat 0 < 128 => hlt
      have hs := hP.fin p0 (by omega) (by omega) hlt
      exact LeaveR.ret (own' := _) hret F9 N9 ⟨_, _, p + 1, _, _, _, hs, by rw [List.length_drop]; omega, rfl, rfl⟩
    · unfold Stop
      rename Fr _ _ _ _ => F9
      rename News _ _ _ _ => N9
      rename ¬ ks.getD p.toNat 0 < 128 => hlt
      refine ksw_end ((_, _), (_, _), (_, _)) F9 N9 (fun q hq => nomatch hq) trivial (by kst_all) (by intro z h2 h3; have z1 := h2 _ (.head _); have z2 := h2 _ (.tail _ (.head _)); have z3 := h2 _ (.tail _ (.tail _ (.head _))); dsimp only at z1 z2 z3; simp only [List.contains_cons, List.contains_nil, Bool.or_false, beq_eq_false_iff_ne, ne_eq] at h3; simp [z1, z2, z3, h3, kstB]) ?_ ?_
      · exact ⟨by dsimp only; omega, by dsimp only; omega, by dsimp only; omega, by dsimp only; omega, hP.step p0 (by omega) s0 (by omega) hlt⟩
      · dsimp only
        omega

theorem szAt_drop : ∀ {l : List Int} {n : Int} {r : List Int}, szAt l = some (n, r) → r = l.drop (l.length - r.length)
  | [], _, _, h => by cases h
  | o :: l, n, r, h => by
    rw [szAt] at h
    split at h
    · cases h
      simp
    · obtain ⟨q, hq, e⟩ := Option.map_eq_some_iff.mp h
      cases e
      have h2 := szAt_drop (n := q.1) (r := q.2) hq
      have h3 := szAt_len (n := q.1) (r := q.2) hq
      have e : (o :: l).length - q.2.length = (l.length - q.2.length) + 1 := by simp only [List.length_cons]; omega
      rw [e, List.drop_succ_cons]
      exact h2
/-- both sizes and the place behind them -/
def headP (ks : List Int) : Option (Int × Int × Int) :=
  match szAt ks with
  | none => none
  | some (n, r) => match szAt r with
    | none => none
    | some (m, r2) => some (n, m, (ks.length : Int) - r2.length)
theorem headP_no1 {ks : List Int} (h : szAt ks = none) : headP ks = none := by unfold headP; rw [h]
theorem headP_no2 {ks : List Int} {n : Int} {r : List Int} (h : szAt ks = some (n, r)) (h2 : szAt r = none) : headP ks = none := by unfold headP; rw [h]; dsimp only; rw [h2]
theorem headP_yes {ks : List Int} {n m : Int} {r r2 : List Int} (h : szAt ks = some (n, r)) (h2 : szAt r = some (m, r2)) : headP ks = some (n, m, (ks.length : Int) - r2.length) := by unfold headP; rw [h]; dsimp only; rw [h2]

theorem spec_reader {w : World} {mean : ExcName → Option Value} {mg mb : Str → Option Value} {b : Array UInt8} {tb : Tok} {ks : List Int}
    (hb : KBw.bInts b = ks) (hz : ks.length ≤ 100000) :
    SpecC w mean mg mb 137 8 64 [] [.bytes b tb]
      (fun r o => ∃ x dx k1 k2 k3 k4 n t1 sz t2 p t3, headP ks = some (n, sz, p) ∧ 0 ≤ p ∧ p ≤ ks.length ∧ r = .ref x ∧ @LT.lt Nat _ dx x ∧
        o = [(x, instObj 137 dx), (dx, dictOf (rdEnt w k1 k2 k3 k4 b tb n t1 sz t2 p t3) 4)]) (headP ks = none) := by
  unfold SpecC
  w_top off
  intro dp un gd cn cs a ccd cl outer A₀ base h₀ L m rest s Q E B F X N hap T hk hd hu hret hbad
  have hgo := GoIn.mark trivial
  have hMk := kstMark
  clear hap
  obtain ⟨ck, cnm, cg, cco⟩ := cs
  dsimp only at hk
  subst hk
  (try simp only [List.nil_append] at N)
  (repeat' (first | (k_unfold; (try dsimp only)) | ((with_reducible show wpAny _ _ (call (Value.ref _) _) _ _ _); (fail_if_success (with_reducible show wpAny _ _ (call (Value.ref 87) _) _ _ _)); (fail_if_success ((with_reducible rename GoIn => hgo9); (with_reducible show wpAny _ _ (call (Value.ref 137) _) _ _ _))); refine Stop.mk ?_) | (k_here; (with_reducible show wpAny _ _ (call (Value.type "list") [Value.bytes _ _]) _ _ _); k_dflt (refine' lb_list ?kbaiN1 ?kbahN1 ?kbaFN1 ?kbaNN1 ?kbanN1 ?_; (case kbaFN1 => k_asm); (case kbaNN1 => k_asm); (case kbahN1 => rfl); (case kbaiN1 => kba_ints); (case kbanN1 => kba_size)); intro D9z us9z c9z h9z tk9z F9z N9z l19z hI9z; (try k_lt l19z); (try k_sweep)) | walk1 | (dsimp only; first | ((with_reducible show wpAny _ _ (call (Value.ref _) _) _ _ _); (fail_if_success (with_reducible show wpAny _ _ (call (Value.ref 87) _) _ _ _)); (fail_if_success ((with_reducible rename GoIn => hgo9); (with_reducible show wpAny _ _ (call (Value.ref 137) _) _ _ _))); refine Stop.mk ?_) | walk1)))
  unfold Stop
  rename Fr h₀ L _ _ => FG9
  rename Fr _ _ _ _ => F9
  rename News _ _ _ _ => N9
  rename Below _ _ _ _ => B9
  rename Frag.In _ _ => X9
  rename Top _ _ _ _ _ _ => T9
  refine' Spec.use0 (spec_at_size (ks := ks) (at_ := 0) hb hz (by omega) (by omega)) B9 F9 X9 N9 T9 rfl ?ud ?uu ?_ ?_
  case ud => ktr_room
  case uu => ktr_units
  rotate_left 1
  · intro hno e9 h9 tk9 th9
    exact leave_thrown B9 FG9 th9 fun h2 th2 => hbad (headP_no1 hno) _ _ _ th2
  rintro r9 o9 h9 tk9 F9 N9 A9 ⟨n, rst, p, D, t1, t2, hs1, hp1, rfl, rfl⟩
  (try simp only [List.cons_append, List.nil_append] at N9)
  have ne1 := news_ne N9 (a := D) (o' := dictOf _ _) (by (repeat' (first | exact List.mem_cons_self | assumption | (refine List.mem_cons_of_mem _ ?_) | (refine List.mem_append_right _ ?_)))) (by (repeat' (first | exact List.mem_cons_self | assumption | (refine List.mem_cons_of_mem _ ?_) | (refine List.mem_append_right _ ?_)))) (by ((simp; done)))
  have hlen := szAt_len hs1
  have hdr := szAt_drop hs1
  rw [show (Int.toNat 0) = 0 from rfl, List.drop_zero] at hs1 hlen hdr
  have hp2 : ks.drop p.toNat = rst := by
    rw [hdr]
    congr 1
    omega
  (repeat' (first | (k_unfold; (try dsimp only)) | ((with_reducible show wpAny _ _ (call (Value.ref _) _) _ _ _); (fail_if_success (with_reducible show wpAny _ _ (call (Value.ref 87) _) _ _ _)); (fail_if_success ((with_reducible rename GoIn => hgo9); (with_reducible show wpAny _ _ (call (Value.ref 137) _) _ _ _))); refine Stop.mk ?_) | (k_here; (with_reducible show wpAny _ _ (call (Value.type "list") [Value.bytes _ _]) _ _ _); k_dflt (refine' lb_list ?kbaiN2 ?kbahN2 ?kbaFN2 ?kbaNN2 ?kbanN2 ?_; (case kbaFN2 => k_asm); (case kbaNN2 => k_asm); (case kbahN2 => rfl); (case kbaiN2 => kba_ints); (case kbanN2 => kba_size)); intro D9z us9z c9z h9z tk9z F9z N9z l19z hI9z; (try k_lt l19z); (try k_sweep)) | walk1 | (dsimp only; first | ((with_reducible show wpAny _ _ (call (Value.ref _) _) _ _ _); (fail_if_success (with_reducible show wpAny _ _ (call (Value.ref 87) _) _ _ _)); (fail_if_success ((with_reducible rename GoIn => hgo9); (with_reducible show wpAny _ _ (call (Value.ref 137) _) _ _ _))); refine Stop.mk ?_) | walk1)))
  unfold Stop
  rename Fr _ _ _ _ => F9
  rename News _ _ _ _ => N9
  refine' Spec.use0 (spec_at_size (ks := ks) (at_ := p) hb hz (by omega) (by omega)) B9 F9 X9 N9 T9 rfl ?ud ?uu ?_ ?_
  case ud => ktr_room
  case uu => ktr_units
  rotate_left 1
  · rw [hp2]
    intro hno e9 h9 tk9 th9
    exact leave_thrown B9 FG9 th9 fun h2 th2 => hbad (headP_no2 hs1 hno) _ _ _ th2
  rintro r9 o9 h9 tk9 F9 N9 A9 ⟨n2, rst2, p2, D2, t12, t22, hs2, hp3, rfl, rfl⟩
  (try simp only [List.cons_append, List.nil_append] at N9)
  rw [hp2] at hs2
  have hlen2 := szAt_len hs2
  have ne2 := news_ne N9 (a := D2) (o' := dictOf _ _) (by (repeat' (first | exact List.mem_cons_self | assumption | (refine List.mem_cons_of_mem _ ?_) | (refine List.mem_append_right _ ?_)))) (by (repeat' (first | exact List.mem_cons_self | assumption | (refine List.mem_cons_of_mem _ ?_) | (refine List.mem_append_right _ ?_)))) (by ((simp; done)))
  (repeat' (first | (k_unfold; (try dsimp only)) | ((with_reducible show wpAny _ _ (call (Value.ref _) _) _ _ _); (fail_if_success (with_reducible show wpAny _ _ (call (Value.ref 87) _) _ _ _)); (fail_if_success ((with_reducible rename GoIn => hgo9); (with_reducible show wpAny _ _ (call (Value.ref 137) _) _ _ _))); refine Stop.mk ?_) | (k_here; (with_reducible show wpAny _ _ (call (Value.type "list") [Value.bytes _ _]) _ _ _); k_dflt (refine' lb_list ?kbaiN3 ?kbahN3 ?kbaFN3 ?kbaNN3 ?kbanN3 ?_; (case kbaFN3 => k_asm); (case kbaNN3 => k_asm); (case kbahN3 => rfl); (case kbaiN3 => kba_ints); (case kbanN3 => kba_size)); intro D9z us9z c9z h9z tk9z F9z N9z l19z hI9z; (try k_lt l19z); (try k_sweep)) | walk1 | (dsimp only; first | ((with_reducible show wpAny _ _ (call (Value.ref _) _) _ _ _); (fail_if_success (with_reducible show wpAny _ _ (call (Value.ref 87) _) _ _ _)); (fail_if_success ((with_reducible rename GoIn => hgo9); (with_reducible show wpAny _ _ (call (Value.ref 137) _) _ _ _))); refine Stop.mk ?_) | walk1)))
  rename Fr h₀ L _ m => F9
  rename News h₀ L _ _ => N9
  have N99 : News h₀ L _ ([(_, instObj 137 _), (_, dictOf (rdEnt w _ _ _ _ b tb _ _ _ _ _ _) 4)] ++ rest) := fun q hq => N9 q (.tail _ (.tail _ hq))
  exact hret _ _ _ _ F9 N99 ⟨_, _, _, _, _, _, _, _, _, _, _, _, (headP_yes hs1 hs2).trans (by rw [hp3]), by omega, by omega, rfl, by omega, rfl⟩

section
variable {w : World} {mean : ExcName → Option Value} {mg mb : Str → Option Value} {f : Addr} {d u : Nat} {own news rest : List (Addr × Obj)} {vs : List Value} {Good : Value → List (Addr × Obj) → Prop} {Bad : Prop}
  {dp un : Nat} {gd : Option (List Code)} {cn : Str} {cs : Scope} {a : Addr} {ccd : Value} {cl : List (Str × Addr)} {outer : List Env} {A₀ : Around} {base h₀ : Heap} {L : Addr} {m : Str → Option Value} {s : Shared}
theorem SpecC.use0 {Q E : Value → Shared → Prop} (S : SpecC w mean mg mb f d u [] vs Good Bad)
    (B : Below A₀ base outer h₀) (F : Fr h₀ L s.heap m) (X : (hd.heap_1_39 w.params).In h₀) (N : News h₀ L s.heap news) (T : Top VV LO mean mg mb h₀) (hk : cs.kind = .function) (hd : dp + d < recursionLimit) (hu : un + u < cLine)
    (good : ∀ r own' h' tk', Fr h₀ L h' m → News h₀ L h' (own' ++ news) → Good r own' → Q r { s with heap := h', toks := tk' })
    (bad : Bad → ∀ e h' tk', Thrown base h₀ L m (envX cn cs L a ccd cl :: outer) e h' → E (.ref e) { s with heap := h', toks := tk' }) :
    wpAny (model PP w) (ktrTop dp un gd cn cs L a ccd cl outer) (call (.ref f) vs) Q E s :=
  S _ _ _ _ _ _ _ _ _ _ _ _ _ _ _ _ _ _ B F X N (fun _ h => nomatch h) T hk hd hu good bad
end

theorem spec_delta_head {w : World} {mean : ExcName → Option Value} {mg mb : Str → Option Value} {b : Array UInt8} {tb : Tok} {ks : List Int}
    (hb : KBw.bInts b = ks) (hz : ks.length ≤ 100000) :
    Spec w mean mg mb 148 12 96 [] [.bytes b tb]
      (fun r o => ∃ n sz p D t1 t2 t3, headP ks = some (n, sz, p) ∧ 0 ≤ p ∧ p ≤ ks.length ∧ r = .ref D ∧ o = [(D, { cls := .type "tuple", data := .seq #[.int n t1, .int sz t2, .int p t3] })]) (headP ks = none) := by
  unfold Spec
  w_top off
  intro dp un gd cn cs a ccd cl outer A₀ base h₀ L m rest s R B F X N hap T hk hd hu hret hbad
  ((k_dflt (refine' code_own ?k1N1 ?k2N1 ?k3N1 ?k4N1 ?kapN1 ?k5N1 ?kAN1 ?kFN1 ?kKN1 ?k6N1 ?k7N1 ?k8N1 ?k9N1 ?kBN1 ?_ ?c2N1 ?c3N1 ?c4N1 ?c5N1; (case kAN1 => exact rfl); (case kFN1 => exact rfl); (case kKN1 => assumption); (case k1N1 => k_asm); (case k2N1 => k_asm); (case k3N1 => k_asm); (case k4N1 => k_asm); (case kapN1 => k_asm); (case k5N1 => k_asm); (case k6N1 => k_is); (case k7N1 => k_is); (case k8N1 => ktr_room); (case k9N1 => first | exact BindsTo.of_eq rfl | exact binds_K (by k_in) rfl (by k_is) rfl rfl rfl); (case c5N1 => decide); (case kBN1 => exact locs rfl); (case c2N1 => exact rfl); (case c3N1 => exact rfl); (case c4N1 => exact rfl); k_whole)))
  intro g' L' h' FG' F' N' B' X' T' hrest
  (try dsimp only)
  (try k_fold)
  (repeat' (first | (k_unfold; (try dsimp only)) | ((with_reducible show wpAny _ _ (call (Value.ref _) _) _ _ _); (fail_if_success (with_reducible show wpAny _ _ (call (Value.ref 87) _) _ _ _)); (fail_if_success ((with_reducible rename GoIn => hgo9); (with_reducible show wpAny _ _ (call (Value.ref 137) _) _ _ _))); refine Stop.mk ?_) | (k_here; (with_reducible show wpAny _ _ (call (Value.type "list") [Value.bytes _ _]) _ _ _); k_dflt (refine' lb_list ?kbaiN2 ?kbahN2 ?kbaFN2 ?kbaNN2 ?kbanN2 ?_; (case kbaFN2 => k_asm); (case kbaNN2 => k_asm); (case kbahN2 => rfl); (case kbaiN2 => kba_ints); (case kbanN2 => kba_size)); intro D9z us9z c9z h9z tk9z F9z N9z l19z hI9z; (try k_lt l19z); (try k_sweep)) | walk1 | (dsimp only; first | ((with_reducible show wpAny _ _ (call (Value.ref _) _) _ _ _); (fail_if_success (with_reducible show wpAny _ _ (call (Value.ref 87) _) _ _ _)); (fail_if_success ((with_reducible rename GoIn => hgo9); (with_reducible show wpAny _ _ (call (Value.ref 137) _) _ _ _))); refine Stop.mk ?_) | walk1)))
  unfold Stop
  rename Fr _ _ _ _ => F9
  rename News _ _ _ _ => N9
  (try dsimp only)
  refine' SpecC.use0 (spec_reader (ks := ks) hb hz) B' F9 X' N9 T' rfl ?ud ?uu ?_ ?_
  case ud => ktr_room
  case uu => ktr_units
  rotate_left 1
  · intro hno e9 h9 tk9 th9
    exact leave_thrown B' FG' th9 fun h2 th2 => hbad hno _ _ _ th2
  rintro r9 o9 h9 tk9 F9 N9 ⟨x, dx, k1, k2, k3, k4, n, t1, sz, t2, p, t3, hh, hp0, hp1, rfl, hxd, rfl⟩
  (try simp only [List.append_nil] at N9)
  (repeat' (first | (k_unfold; (try dsimp only)) | ((with_reducible show wpAny _ _ (call (Value.ref _) _) _ _ _); (fail_if_success (with_reducible show wpAny _ _ (call (Value.ref 87) _) _ _ _)); (fail_if_success ((with_reducible rename GoIn => hgo9); (with_reducible show wpAny _ _ (call (Value.ref 137) _) _ _ _))); refine Stop.mk ?_) | (k_here; (with_reducible show wpAny _ _ (call (Value.type "list") [Value.bytes _ _]) _ _ _); k_dflt (refine' lb_list ?kbaiN3 ?kbahN3 ?kbaFN3 ?kbaNN3 ?kbanN3 ?_; (case kbaFN3 => k_asm); (case kbaNN3 => k_asm); (case kbahN3 => rfl); (case kbaiN3 => kba_ints); (case kbanN3 => kba_size)); intro D9z us9z c9z h9z tk9z F9z N9z l19z hI9z; (try k_lt l19z); (try k_sweep)) | walk1 | (dsimp only; first | ((with_reducible show wpAny _ _ (call (Value.ref _) _) _ _ _); (fail_if_success (with_reducible show wpAny _ _ (call (Value.ref 87) _) _ _ _)); (fail_if_success ((with_reducible rename GoIn => hgo9); (with_reducible show wpAny _ _ (call (Value.ref 137) _) _ _ _))); refine Stop.mk ?_) | walk1)))
  unfold Stop
  rename News g' _ _ _ => N9
  rename Fr g' _ _ _ => F9
  have N99 : News g' _ _ [(_, { cls := .type "tuple", data := .seq #[.int _ _, .int _ _, .int _ _] })] := fun q hq => N9 q (by rcases List.mem_singleton.mp hq with rfl; exact .head _)
  exact LeaveR.ret (own' := _) hret F9 N99 ⟨_, _, _, _, _, _, _, hh, hp0, hp1, rfl, rfl⟩

/-- all commands from p on; the sum told so far -/
def cmdsF (ks : List Int) (bs sz : Int) : Nat → Int → Int → Option (List (Int × Int × Option (List Int)))
  | 0, _, _ => none
  | f + 1, p, told =>
    if p < ks.length then
      match cmdP ks p with
      | none => none
      | some (pl, mn, oc, q) =>
        if oc.isNone = true ∧ bs < pl + mn then none
        else if sz < told + mn then none
        else (cmdsF ks bs sz f q (told + mn)).map fun l => (pl, mn, oc) :: l
    else if told < sz then none else some []
@[irreducible] def CmdsSt (ks : List Int) (bs sz : Int) (T : Option (List (Int × Int × Option (List Int)))) (vals : List (Int × Int × Option (List Int))) (p told : Int) : Prop :=
  ∃ f, (ks.length - p).toNat < f ∧ T = (cmdsF ks bs sz f p told).map fun l => vals ++ l
section
variable {ks : List Int} {bs sz : Int} {T : Option (List (Int × Int × Option (List Int)))} {vals : List (Int × Int × Option (List Int))} {p told pl mn q : Int} {oc : Option (List Int)}
theorem CmdsSt.start (ks : List Int) (bs sz : Int) (p : Int) (h0 : 0 ≤ p) : CmdsSt ks bs sz (cmdsF ks bs sz (ks.length + 1) p 0) [] p 0 := by
  unfold CmdsSt
  refine ⟨ks.length + 1, by omega, ?_⟩
  cases cmdsF ks bs sz (ks.length + 1) p 0 <;> simp
theorem CmdsSt.bad (h : CmdsSt ks bs sz T vals p told) (hp : p < ks.length) (hc : cmdP ks p = none) : T = none := by
  unfold CmdsSt at h
  obtain ⟨f, hf, rfl⟩ := h
  obtain ⟨g, rfl⟩ : ∃ g, f = g + 1 := ⟨f - 1, by omega⟩
  rw [cmdsF, if_pos hp, hc]
  rfl
theorem CmdsSt.far (h : CmdsSt ks bs sz T vals p told) (hp : p < ks.length) (hc : cmdP ks p = some (pl, mn, none, q)) (hb : bs < pl + mn) : T = none := by
  unfold CmdsSt at h
  obtain ⟨f, hf, rfl⟩ := h
  obtain ⟨g, rfl⟩ : ∃ g, f = g + 1 := ⟨f - 1, by omega⟩
  rw [cmdsF, if_pos hp, hc]
  dsimp only
  rw [if_pos ⟨rfl, hb⟩]
  rfl
theorem CmdsSt.more (h : CmdsSt ks bs sz T vals p told) (hp : p < ks.length) (hc : cmdP ks p = some (pl, mn, oc, q)) (hb : sz < told + mn) : T = none := by
  unfold CmdsSt at h
  obtain ⟨f, hf, rfl⟩ := h
  obtain ⟨g, rfl⟩ : ∃ g, f = g + 1 := ⟨f - 1, by omega⟩
  rw [cmdsF, if_pos hp, hc]
  dsimp only
  split
  · rfl
  · rfl
theorem CmdsSt.step (h : CmdsSt ks bs sz T vals p told) (hp : p < ks.length) (hc : cmdP ks p = some (pl, mn, oc, q)) (hpq : p < q) (h1 : ¬ (oc.isNone = true ∧ bs < pl + mn)) (hb : ¬ sz < told + mn) :
    CmdsSt ks bs sz T (vals ++ [(pl, mn, oc)]) q (told + mn) := by
  unfold CmdsSt at h ⊢
  obtain ⟨f, hf, rfl⟩ := h
  obtain ⟨g, rfl⟩ : ∃ g, f = g + 1 := ⟨f - 1, by omega⟩
  refine ⟨g, by omega, ?_⟩
  rw [cmdsF, if_pos hp, hc]
  dsimp only
  rw [if_neg h1, if_neg hb, Option.map_map]
  congr 1
  funext l
  simp
theorem CmdsSt.less (h : CmdsSt ks bs sz T vals p told) (hp : ¬ p < ks.length) (hb : told < sz) : T = none := by
  unfold CmdsSt at h
  obtain ⟨f, hf, rfl⟩ := h
  obtain ⟨g, rfl⟩ : ∃ g, f = g + 1 := ⟨f - 1, by omega⟩
  rw [cmdsF, if_neg hp, if_pos hb]
  rfl
theorem CmdsSt.fin (h : CmdsSt ks bs sz T vals p told) (hp : ¬ p < ks.length) (hb : ¬ told < sz) : T = some vals := by
  unfold CmdsSt at h
  obtain ⟨f, hf, rfl⟩ := h
  obtain ⟨g, rfl⟩ : ∃ g, f = g + 1 := ⟨f - 1, by omega⟩
  rw [cmdsF, if_neg hp, if_neg hb]
  simp
end

/-- a command that the call has made -/
structure CmdR where
  c : Addr
  dc : Addr
  j1 : Tok
  j2 : Tok
  j3 : Tok
  u1 : Tok
  u2 : Tok
  pl : Int
  mn : Int
  ov : Value
  oc : Option (List Int)
def cmdLed (w : World) (cs : List CmdR) : List (Addr × Obj) := cs.flatMap fun r => [(r.c, instObj 87 r.dc), (r.dc, dictOf (cmEnt w r.j1 r.j2 r.j3 r.pl r.u1 r.mn r.u2 r.ov) 3)]
abbrev cmdRefs (cs : List CmdR) : List Value := cs.map fun r => .ref r.c
abbrev cmdVals (cs : List CmdR) : List (Int × Int × Option (List Int)) := cs.map fun r => (r.pl, r.mn, r.oc)
def CmdOk (cs : List CmdR) : Prop := ∀ r ∈ cs, OcIs r.ov r.oc
theorem cmdLed_app (w : World) (cs : List CmdR) (r : CmdR) : cmdLed w (cs ++ [r]) = cmdLed w cs ++ [(r.c, instObj 87 r.dc), (r.dc, dictOf (cmEnt w r.j1 r.j2 r.j3 r.pl r.u1 r.mn r.u2 r.ov) 3)] := by
  unfold cmdLed
  rw [List.flatMap_append]
  rfl
/-- what kind of object: told apart by its class and its size -/
def sizeOfObj (o : Obj) : Nat := match o.data with
  | .dict es _ => es.size
  | .seq _ _ => 1000
  | .plain => (match o.cls with | .ref a => 2000 + a | _ => 1001)
  | _ => 1002
theorem cmdLed_kind {w : World} {cs : List CmdR} : ∀ p ∈ cmdLed w cs, sizeOfObj p.2 = 3 ∨ sizeOfObj p.2 = 2087 := by
  intro p hp
  unfold cmdLed at hp
  obtain ⟨r, _, hr⟩ := List.mem_flatMap.mp hp
  rcases List.mem_cons.mp hr with rfl | hr
  · exact .inr rfl
  · rcases List.mem_cons.mp hr with rfl | hr
    · exact .inl rfl
    · cases hr
theorem news_neK {h₀ h : Heap} {L a b : Addr} {o o' : Obj} {news : List (Addr × Obj)} (N : News h₀ L h news) (h1 : (a, o) ∈ news) (h2 : (b, o') ∈ news) (hc : sizeOfObj o ≠ sizeOfObj o') : @Ne Nat a b := by
  intro e
  have e' : a = b := e
  subst e'
  have q1 := (N _ h1).1
  have q2 := (N _ h2).1
  dsimp only at q1 q2
  rw [q1] at q2
  exact hc (congrArg sizeOfObj (Option.some.inj q2))

theorem spec_commands {w : World} {mean : ExcName → Option Value} {mg mb : Str → Option Value} {b : Array UInt8} {tb : Tok} {ks : List Int} {bs sz p0 : Int}
    (hb : KBw.bInts b = ks) (hz : ks.length ≤ 100000) (hh : headP ks = some (bs, sz, p0)) :
    Spec w mean mg mb 155 20 192 [] [.bytes b tb]
      (fun r o => ∃ fd nn cs, cmdsF ks bs sz (ks.length + 1) p0 0 = some (cmdVals cs) ∧ CmdOk cs ∧ r = .ref fd ∧ cs.length ≤ ks.length ∧ o = (fd, listOf (cmdRefs cs).toArray nn) :: cmdLed w cs) (cmdsF ks bs sz (ks.length + 1) p0 0 = none) := by
  unfold Spec
  w_top off
  intro dp un gd cn cs a ccd cl outer A₀ base h₀ L m rest s R B F X N hap T hk hd hu hret hbad
  ((k_dflt (refine' code_own ?k1N1 ?k2N1 ?k3N1 ?k4N1 ?kapN1 ?k5N1 ?kAN1 ?kFN1 ?kKN1 ?k6N1 ?k7N1 ?k8N1 ?k9N1 ?kBN1 ?_ ?c2N1 ?c3N1 ?c4N1 ?c5N1; (case kAN1 => exact rfl); (case kFN1 => exact rfl); (case kKN1 => assumption); (case k1N1 => k_asm); (case k2N1 => k_asm); (case k3N1 => k_asm); (case k4N1 => k_asm); (case kapN1 => k_asm); (case k5N1 => k_asm); (case k6N1 => k_is); (case k7N1 => k_is); (case k8N1 => ktr_room); (case k9N1 => first | exact BindsTo.of_eq rfl | exact binds_K (by k_in) rfl (by k_is) rfl rfl rfl); (case c5N1 => decide); (case kBN1 => exact locs rfl); (case c2N1 => exact rfl); (case c3N1 => exact rfl); (case c4N1 => exact rfl); k_whole)))
  intro g' L' h' FG' F' N' B' X' T' hrest
  (try dsimp only)
  (try k_fold)
  have hMk := kstMark
  (repeat' (first | (k_unfold; (try dsimp only)) | ((with_reducible show wpAny _ _ (call (Value.ref _) _) _ _ _); (fail_if_success (with_reducible show wpAny _ _ (call (Value.ref 87) _) _ _ _)); (fail_if_success ((with_reducible rename GoIn => hgo9); (with_reducible show wpAny _ _ (call (Value.ref 137) _) _ _ _))); refine Stop.mk ?_) | (k_here; (with_reducible show wpAny _ _ (call (Value.type "list") [Value.bytes _ _]) _ _ _); k_dflt (refine' lb_list ?kbaiN2 ?kbahN2 ?kbaFN2 ?kbaNN2 ?kbanN2 ?_; (case kbaFN2 => k_asm); (case kbaNN2 => k_asm); (case kbahN2 => rfl); (case kbaiN2 => kba_ints); (case kbanN2 => kba_size)); intro D9z us9z c9z h9z tk9z F9z N9z l19z hI9z; (try k_lt l19z); (try k_sweep)) | walk1 | (dsimp only; first | ((with_reducible show wpAny _ _ (call (Value.ref _) _) _ _ _); (fail_if_success (with_reducible show wpAny _ _ (call (Value.ref 87) _) _ _ _)); (fail_if_success ((with_reducible rename GoIn => hgo9); (with_reducible show wpAny _ _ (call (Value.ref 137) _) _ _ _))); refine Stop.mk ?_) | walk1)))
  unfold Stop
  rename Fr _ _ _ _ => F9
  rename News _ _ _ _ => N9
  (try dsimp only)
  refine' SpecC.use0 (spec_reader (ks := ks) hb hz) B' F9 X' N9 T' rfl ?ud ?uu ?_ ?_
  case ud => ktr_room
  case uu => ktr_units
  rotate_left 1
  · intro hno
    rw [hno] at hh
    cases hh
  rintro r9 o9 h9 tk9 F9 N9 ⟨x, dx, k1, k2, k3, k4, bs', t1, sz', t2, p', t3, hh', hp0, hp1, rfl, hxd, rfl⟩
  rw [hh] at hh'
  cases hh'
  (try simp only [List.append_nil] at N9)
  (repeat' (first | (k_unfold; (try dsimp only)) | ((with_reducible show wpAny _ _ (call (Value.ref _) _) _ _ _); (fail_if_success (with_reducible show wpAny _ _ (call (Value.ref 87) _) _ _ _)); (fail_if_success ((with_reducible rename GoIn => hgo9); (with_reducible show wpAny _ _ (call (Value.ref 137) _) _ _ _))); refine Stop.mk ?_) | (k_here; (with_reducible show wpAny _ _ (call (Value.type "list") [Value.bytes _ _]) _ _ _); k_dflt (refine' lb_list ?kbaiN3 ?kbahN3 ?kbaFN3 ?kbaNN3 ?kbanN3 ?_; (case kbaFN3 => k_asm); (case kbaNN3 => k_asm); (case kbahN3 => rfl); (case kbaiN3 => kba_ints); (case kbanN3 => kba_size)); intro D9z us9z c9z h9z tk9z F9z N9z l19z hI9z; (try k_lt l19z); (try k_sweep)) | walk1 | (dsimp only; first | ((with_reducible show wpAny _ _ (call (Value.ref _) _) _ _ _); (fail_if_success (with_reducible show wpAny _ _ (call (Value.ref 87) _) _ _ _)); (fail_if_success ((with_reducible rename GoIn => hgo9); (with_reducible show wpAny _ _ (call (Value.ref 137) _) _ _ _))); refine Stop.mk ?_) | walk1)))
  unfold Stop
  rename_i fd _ lt1 _ _ lt2 _ _ _ _ F9 N9
  have N99 : News g' L' _ [(x, instObj 137 dx), (dx, dictOf (rdEnt w k1 k2 k3 k4 b tb bs t1 sz t2 p0 t3) 4), (fd, W.listOf [].toArray 0)] := fun q hq => N9 q (by
    simp only [List.mem_cons, List.not_mem_nil, or_false] at hq ⊢
    rcases hq with hq | hq | hq
    · exact .inr (.inr (.inl hq))
    · exact .inr (.inr (.inr hq))
    · exact .inr (.inl hq))
  refine' ksw_while (σ := (List CmdR × Nat) × (Int × Tok) × (Int × Tok)) (fun c => (x, instObj 137 dx) :: (dx, dictOf (rdEnt w k1 k2 k3 k4 b tb bs t1 sz t2 c.2.2.1 c.2.2.2) 4) :: (fd, W.listOf (cmdRefs c.1.1).toArray c.1.2) :: cmdLed w c.1.1) (fun c => [(Str.ofString "told", .int c.2.1.1 c.2.1.2)])
      (fun c => CmdOk c.1.1) [Str.ofString "command"] (fun c => 0 ≤ c.2.2.1 ∧ c.2.2.1 ≤ ks.length ∧ (c.1.1.length : Int) ≤ c.2.2.1 ∧ CmdsSt ks bs sz (cmdsF ks bs sz (ks.length + 1) p0 0) (cmdVals c.1.1) c.2.2.1 c.2.1.1) (fun c => (ks.length - c.2.2.1).toNat) (([], 0), (0, _), (p0, t3)) F9 N99 ?kf ?kk ?kp ?_ ?hE
  case hE => passes_own
  case kf => exact fun _ h => nomatch h
  case kk => kst_all
  case kp => exact ⟨hp0, hp1, by dsimp only [List.length_nil]; omega, CmdsSt.start ks bs sz p0 hp0⟩
  clear lt2 N99 N9 F9
  rintro ⟨⟨cms, nn⟩, ⟨told, tt⟩, ⟨p, tp⟩⟩ u h8 tk8 hF ⟨q0, q1, q2, hP⟩ F8 N8
  (try dsimp only at hF q0 q1 q2 hP F8 N8)
  (repeat' (first | (k_unfold; (try dsimp only)) | ((with_reducible show wpAny _ _ (call (Value.ref _) _) _ _ _); (fail_if_success (with_reducible show wpAny _ _ (call (Value.ref 87) _) _ _ _)); (fail_if_success ((with_reducible rename GoIn => hgo9); (with_reducible show wpAny _ _ (call (Value.ref 137) _) _ _ _))); refine Stop.mk ?_) | (k_here; (with_reducible show wpAny _ _ (call (Value.type "list") [Value.bytes _ _]) _ _ _); k_dflt (refine' lb_list ?kbaiN4 ?kbahN4 ?kbaFN4 ?kbaNN4 ?kbanN4 ?_; (case kbaFN4 => k_asm); (case kbaNN4 => k_asm); (case kbahN4 => rfl); (case kbaiN4 => kba_ints); (case kbanN4 => kba_size)); intro D9z us9z c9z h9z tk9z F9z N9z l19z hI9z; (try k_lt l19z); (try k_sweep)) | walk1 | (dsimp only; first | ((with_reducible show wpAny _ _ (call (Value.ref _) _) _ _ _); (fail_if_success (with_reducible show wpAny _ _ (call (Value.ref 87) _) _ _ _)); (fail_if_success ((with_reducible rename GoIn => hgo9); (with_reducible show wpAny _ _ (call (Value.ref 137) _) _ _ _))); refine Stop.mk ?_) | walk1)))
  · rename told < sz => hlt
    ((unfold Stop; (with_reducible rename Fr _ _ _ _ => rF); (refine' call_bad ?xxN7 ?xlN7 ?xkN7 ?xrN7 ?xqN7); (case xkN7 => exact Fr.keep rF); (case xxN7 => assumption); (case xlN7 => exact Top.nolimit (by assumption)); (case xrN7 => ktr_room); (intro rE rH rT rM); (refine ⟨_, _, rfl, rM, Frag.In.keeps (by assumption) (fun b o q => rM.keeps _ _ (rF.keep b o q)), ?_⟩); (repeat' (first | (k_unfold; (try dsimp only)) | ((with_reducible show wpAny _ _ (call (Value.ref _) _) _ _ _); (fail_if_success (with_reducible show wpAny _ _ (call (Value.ref 87) _) _ _ _)); (fail_if_success ((with_reducible rename GoIn => hgo9); (with_reducible show wpAny _ _ (call (Value.ref 137) _) _ _ _))); refine Stop.mk ?_) | (k_here; (with_reducible show wpAny _ _ (call (Value.type "list") [Value.bytes _ _]) _ _ _); k_dflt (refine' lb_list ?kbaiN22 ?kbahN22 ?kbaFN22 ?kbaNN22 ?kbanN22 ?_; (case kbaFN22 => k_asm); (case kbaNN22 => k_asm); (case kbahN22 => rfl); (case kbaiN22 => kba_ints); (case kbanN22 => kba_size)); intro D9z us9z c9z h9z tk9z F9z N9z l19z hI9z; (try k_lt l19z); (try k_sweep)) | walk1 | (dsimp only; first | ((with_reducible show wpAny _ _ (call (Value.ref _) _) _ _ _); (fail_if_success (with_reducible show wpAny _ _ (call (Value.ref 87) _) _ _ _)); (fail_if_success ((with_reducible rename GoIn => hgo9); (with_reducible show wpAny _ _ (call (Value.ref 137) _) _ _ _))); refine Stop.mk ?_) | walk1))); unfold Stop; (refine leave_bad (by assumption) (by assumption) rM rF ?_); (intro rH2 rTh)))
    exact hbad (hP.less (by omega) hlt) _ _ _ (by assumption)
  · rename ¬ told < sz => hlt
    unfold Stop
    rename News g' L' _ _ => N9
    rename Fr g' L' _ _ => F9
    exact LeaveR.ret (own' := _) hret F9 (fun q hq => N9 q (.tail _ (.tail _ hq))) ⟨_, _, _, hP.fin (by omega) hlt, hF, rfl, by omega, rfl⟩
  · rename ¬ _ ≤ p => hlt
    unfold Stop
    rename News g' L' _ _ => N9
    rename Fr g' L' _ _ => F9
    (try dsimp only)
    have hlp : p < ks.length := by omega
    have hap9 : ∀ a ∈ [(x, instObj 137 dx), (dx, dictOf (rdEnt w k1 k2 k3 k4 b tb bs t1 sz t2 p tp) 4)], ∀ b ∈ (fd, W.listOf (cmdRefs cms).toArray nn) :: cmdLed w cms, a.1 ≠ b.1 := by
      intro a9 ha9 b9 hb9
      refine news_neK N9 (o := a9.2) (o' := b9.2) ?_ ?_ ?_
      · simp only [List.mem_cons, List.not_mem_nil, or_false] at ha9 ⊢
        rcases ha9 with rfl | rfl
        · exact .inl rfl
        · exact .inr (.inl rfl)
      · exact .tail _ (.tail _ hb9)
      · have h1 : sizeOfObj b9.2 = 1000 ∨ sizeOfObj b9.2 = 3 ∨ sizeOfObj b9.2 = 2087 := by
          rcases List.mem_cons.mp hb9 with rfl | hb9
          · exact .inl rfl
          · exact .inr (cmdLed_kind _ hb9)
        have h2 : sizeOfObj a9.2 = 2137 ∨ sizeOfObj a9.2 = 4 := by
          simp only [List.mem_cons, List.not_mem_nil, or_false] at ha9
          rcases ha9 with rfl | rfl
          · exact .inl rfl
          · exact .inr rfl
        omega
    refine' Spec.use (spec_command (ks := ks) (p := p) (k1 := k1) (k2 := k2) (k3 := k3) (k4 := k4) (t1 := t1) (t2 := t2) (t3 := tp) (bs := bs) (sz := sz) (dx := dx) (tb := tb) hb hz hxd q0 q1) B' F9 X' N9 (.cons .here (.cons .here .nil)) hap9 T' rfl ?ud ?uu ?_ ?_
    case ud => ktr_room
    case uu => ktr_units
    rotate_left 1
    · intro hno e9 h9 tk9 th9
      exact leave_thrown B' FG' th9 fun h2 th2 => hbad (hP.bad hlp hno) _ _ _ th2
    rintro r9 o9 h9 tk9 F9 N9 A9 ⟨pl, mn, oc, q, c, dc, j1, j2, j3, u1, u2, ov, t3', hc, hpq, hqk, rfl, hoc, hdc, rfl⟩
    (try simp only [List.cons_append, List.nil_append] at N9)
    have nf1 := news_neK N9 (a := c) (b := fd) (o' := W.listOf _ _) (by (repeat' (first | exact List.mem_cons_self | assumption | (refine List.mem_cons_of_mem _ ?_) | (refine List.mem_append_right _ ?_)))) (by (repeat' (first | exact List.mem_cons_self | assumption | (refine List.mem_cons_of_mem _ ?_) | (refine List.mem_append_right _ ?_)))) (by simp [sizeOfObj])
    have nf2 := news_neK N9 (a := dc) (b := fd) (o' := W.listOf _ _) (by (repeat' (first | exact List.mem_cons_self | assumption | (refine List.mem_cons_of_mem _ ?_) | (refine List.mem_append_right _ ?_)))) (by (repeat' (first | exact List.mem_cons_self | assumption | (refine List.mem_cons_of_mem _ ?_) | (refine List.mem_append_right _ ?_)))) (by simp [sizeOfObj])
    have nf3 := news_neK N9 (a := x) (b := fd) (o' := W.listOf _ _) (by (repeat' (first | exact List.mem_cons_self | assumption | (refine List.mem_cons_of_mem _ ?_) | (refine List.mem_append_right _ ?_)))) (by (repeat' (first | exact List.mem_cons_self | assumption | (refine List.mem_cons_of_mem _ ?_) | (refine List.mem_append_right _ ?_)))) (by simp [sizeOfObj])
    have nf4 := news_neK N9 (a := dx) (b := fd) (o' := W.listOf _ _) (by (repeat' (first | exact List.mem_cons_self | assumption | (refine List.mem_cons_of_mem _ ?_) | (refine List.mem_append_right _ ?_)))) (by (repeat' (first | exact List.mem_cons_self | assumption | (refine List.mem_cons_of_mem _ ?_) | (refine List.mem_append_right _ ?_)))) (by simp [sizeOfObj])
    have nf5 : OwnOff (cmdLed w cms) [fd] := by
      intro p9 hp9 b9 hb9
      rw [List.mem_singleton.mp hb9]
      refine news_neK N9 (o := p9.2) (o' := W.listOf (cmdRefs cms).toArray nn) (List.mem_cons_of_mem _ (List.mem_cons_of_mem _ (List.mem_cons_of_mem _ (List.mem_cons_of_mem _ (List.mem_cons_of_mem _ hp9))))) (by (repeat' (first | exact List.mem_cons_self | assumption | (refine List.mem_cons_of_mem _ ?_) | (refine List.mem_append_right _ ?_)))) ?_
      have h1 := cmdLed_kind _ hp9
      have h2 : sizeOfObj (W.listOf (cmdRefs cms).toArray nn) = 1000 := rfl
      omega
    clear hap9 F8 N8
    cases hoc with
    | none =>
      (repeat' (first | (k_unfold; (try dsimp only)) | ((with_reducible show wpAny _ _ (call (Value.ref _) _) _ _ _); (fail_if_success (with_reducible show wpAny _ _ (call (Value.ref 87) _) _ _ _)); (fail_if_success ((with_reducible rename GoIn => hgo9); (with_reducible show wpAny _ _ (call (Value.ref 137) _) _ _ _))); refine Stop.mk ?_) | (k_here; (with_reducible show wpAny _ _ (call (Value.type "list") [Value.bytes _ _]) _ _ _); k_dflt (refine' lb_list ?kbaiN5 ?kbahN5 ?kbaFN5 ?kbaNN5 ?kbanN5 ?_; (case kbaFN5 => k_asm); (case kbaNN5 => k_asm); (case kbahN5 => rfl); (case kbaiN5 => kba_ints); (case kbanN5 => kba_size)); intro D9z us9z c9z h9z tk9z F9z N9z l19z hI9z; (try k_lt l19z); (try k_sweep)) | walk1 | (dsimp only; first | ((with_reducible show wpAny _ _ (call (Value.ref _) _) _ _ _); (fail_if_success (with_reducible show wpAny _ _ (call (Value.ref 87) _) _ _ _)); (fail_if_success ((with_reducible rename GoIn => hgo9); (with_reducible show wpAny _ _ (call (Value.ref 137) _) _ _ _))); refine Stop.mk ?_) | walk1)))
      · rename bs < pl + mn => hfar
        ((unfold Stop; (with_reducible rename Fr _ _ _ _ => rF); (refine' call_bad ?xxN8 ?xlN8 ?xkN8 ?xrN8 ?xqN8); (case xkN8 => exact Fr.keep rF); (case xxN8 => assumption); (case xlN8 => exact Top.nolimit (by assumption)); (case xrN8 => ktr_room); (intro rE rH rT rM); (refine ⟨_, _, rfl, rM, Frag.In.keeps (by assumption) (fun b o q => rM.keeps _ _ (rF.keep b o q)), ?_⟩); (repeat' (first | (k_unfold; (try dsimp only)) | ((with_reducible show wpAny _ _ (call (Value.ref _) _) _ _ _); (fail_if_success (with_reducible show wpAny _ _ (call (Value.ref 87) _) _ _ _)); (fail_if_success ((with_reducible rename GoIn => hgo9); (with_reducible show wpAny _ _ (call (Value.ref 137) _) _ _ _))); refine Stop.mk ?_) | (k_here; (with_reducible show wpAny _ _ (call (Value.type "list") [Value.bytes _ _]) _ _ _); k_dflt (refine' lb_list ?kbaiN23 ?kbahN23 ?kbaFN23 ?kbaNN23 ?kbanN23 ?_; (case kbaFN23 => k_asm); (case kbaNN23 => k_asm); (case kbahN23 => rfl); (case kbaiN23 => kba_ints); (case kbanN23 => kba_size)); intro D9z us9z c9z h9z tk9z F9z N9z l19z hI9z; (try k_lt l19z); (try k_sweep)) | walk1 | (dsimp only; first | ((with_reducible show wpAny _ _ (call (Value.ref _) _) _ _ _); (fail_if_success (with_reducible show wpAny _ _ (call (Value.ref 87) _) _ _ _)); (fail_if_success ((with_reducible rename GoIn => hgo9); (with_reducible show wpAny _ _ (call (Value.ref 137) _) _ _ _))); refine Stop.mk ?_) | walk1))); unfold Stop; (refine leave_bad (by assumption) (by assumption) rM rF ?_); (intro rH2 rTh)))
        exact hbad (hP.far hlp hc hfar) _ _ _ (by assumption)
      · rename sz < told + mn => hmore
        ((unfold Stop; (with_reducible rename Fr _ _ _ _ => rF); (refine' call_bad ?xxN9 ?xlN9 ?xkN9 ?xrN9 ?xqN9); (case xkN9 => exact Fr.keep rF); (case xxN9 => assumption); (case xlN9 => exact Top.nolimit (by assumption)); (case xrN9 => ktr_room); (intro rE rH rT rM); (refine ⟨_, _, rfl, rM, Frag.In.keeps (by assumption) (fun b o q => rM.keeps _ _ (rF.keep b o q)), ?_⟩); (repeat' (first | (k_unfold; (try dsimp only)) | ((with_reducible show wpAny _ _ (call (Value.ref _) _) _ _ _); (fail_if_success (with_reducible show wpAny _ _ (call (Value.ref 87) _) _ _ _)); (fail_if_success ((with_reducible rename GoIn => hgo9); (with_reducible show wpAny _ _ (call (Value.ref 137) _) _ _ _))); refine Stop.mk ?_) | (k_here; (with_reducible show wpAny _ _ (call (Value.type "list") [Value.bytes _ _]) _ _ _); k_dflt (refine' lb_list ?kbaiN24 ?kbahN24 ?kbaFN24 ?kbaNN24 ?kbanN24 ?_; (case kbaFN24 => k_asm); (case kbaNN24 => k_asm); (case kbahN24 => rfl); (case kbaiN24 => kba_ints); (case kbanN24 => kba_size)); intro D9z us9z c9z h9z tk9z F9z N9z l19z hI9z; (try k_lt l19z); (try k_sweep)) | walk1 | (dsimp only; first | ((with_reducible show wpAny _ _ (call (Value.ref _) _) _ _ _); (fail_if_success (with_reducible show wpAny _ _ (call (Value.ref 87) _) _ _ _)); (fail_if_success ((with_reducible rename GoIn => hgo9); (with_reducible show wpAny _ _ (call (Value.ref 137) _) _ _ _))); refine Stop.mk ?_) | walk1))); unfold Stop; (refine leave_bad (by assumption) (by assumption) rM rF ?_); (intro rH2 rTh)))
        exact hbad (hP.more hlp hc hmore) _ _ _ (by assumption)
      · unfold Stop
        rename ¬ sz < told + mn => hsz
        rename News g' L' _ _ => N9
        rename Fr g' L' _ _ => F9
        have e9 : (cmdRefs cms).toArray.push (Value.ref c) = (cmdRefs (cms ++ [CmdR.mk c dc j1 j2 j3 u1 u2 pl mn .none none])).toArray := by simp
        rw [e9] at N9
        refine ksw_end ((cms ++ [CmdR.mk c dc j1 j2 j3 u1 u2 pl mn .none none], nn + 1), (told + mn, _), (q, t3')) F9 N9 ?_ ?_ (by kst_all) (by ((intro z9 h29 h39; (try simp only [List.forall_mem_cons, List.not_mem_nil, false_implies, implies_true, and_true, ne_eq] at h29); (try simp only [List.contains_cons, List.contains_nil, Bool.or_false, Bool.or_eq_false_iff, beq_eq_false_iff_ne, ne_eq] at h39); (try dsimp only); first | rfl | (simp [h29, h39, kstB]; done) | (simp [h29, kstB]; done) | (simp [h39, kstB]; done) | (simp [kstB]; done)))) ?_ ?_
        · dsimp only
          rw [cmdLed_app]
          intro p9 hp9
          simp only [List.mem_cons, List.mem_append, List.not_mem_nil, or_false] at hp9 ⊢
          rcases hp9 with h | h | h | h | h | h
          · exact .inr (.inr (.inl h))
          · exact .inr (.inr (.inr (.inl h)))
          · exact .inr (.inr (.inr (.inr (.inl h))))
          · exact .inr (.inr (.inr (.inr (.inr h))))
          · exact .inl h
          · exact .inr (.inl h)
        · intro r hr
          rcases List.mem_append.mp hr with hr | hr
          · exact hF r hr
          · rw [List.mem_singleton.mp hr]
            exact .none
        · refine ⟨by dsimp only; omega, hqk, by simp only [List.length_append, List.length_cons, List.length_nil]; omega, ?_⟩
          have st := hP.step hlp hc hpq (fun h => by have := h.2; omega) hsz
          simpa [cmdVals] using st
        · dsimp only
          omega
    | some hls =>
      rename Array UInt8 => ob
      rename_i ot ols
      (repeat' (first | (k_unfold; (try dsimp only)) | ((with_reducible show wpAny _ _ (call (Value.ref _) _) _ _ _); (fail_if_success (with_reducible show wpAny _ _ (call (Value.ref 87) _) _ _ _)); (fail_if_success ((with_reducible rename GoIn => hgo9); (with_reducible show wpAny _ _ (call (Value.ref 137) _) _ _ _))); refine Stop.mk ?_) | (k_here; (with_reducible show wpAny _ _ (call (Value.type "list") [Value.bytes _ _]) _ _ _); k_dflt (refine' lb_list ?kbaiN6 ?kbahN6 ?kbaFN6 ?kbaNN6 ?kbanN6 ?_; (case kbaFN6 => k_asm); (case kbaNN6 => k_asm); (case kbahN6 => rfl); (case kbaiN6 => kba_ints); (case kbanN6 => kba_size)); intro D9z us9z c9z h9z tk9z F9z N9z l19z hI9z; (try k_lt l19z); (try k_sweep)) | walk1 | (dsimp only; first | ((with_reducible show wpAny _ _ (call (Value.ref _) _) _ _ _); (fail_if_success (with_reducible show wpAny _ _ (call (Value.ref 87) _) _ _ _)); (fail_if_success ((with_reducible rename GoIn => hgo9); (with_reducible show wpAny _ _ (call (Value.ref 137) _) _ _ _))); refine Stop.mk ?_) | walk1)))
      · rename sz < told + mn => hmore
        ((unfold Stop; (with_reducible rename Fr _ _ _ _ => rF); (refine' call_bad ?xxN10 ?xlN10 ?xkN10 ?xrN10 ?xqN10); (case xkN10 => exact Fr.keep rF); (case xxN10 => assumption); (case xlN10 => exact Top.nolimit (by assumption)); (case xrN10 => ktr_room); (intro rE rH rT rM); (refine ⟨_, _, rfl, rM, Frag.In.keeps (by assumption) (fun b o q => rM.keeps _ _ (rF.keep b o q)), ?_⟩); (repeat' (first | (k_unfold; (try dsimp only)) | ((with_reducible show wpAny _ _ (call (Value.ref _) _) _ _ _); (fail_if_success (with_reducible show wpAny _ _ (call (Value.ref 87) _) _ _ _)); (fail_if_success ((with_reducible rename GoIn => hgo9); (with_reducible show wpAny _ _ (call (Value.ref 137) _) _ _ _))); refine Stop.mk ?_) | (k_here; (with_reducible show wpAny _ _ (call (Value.type "list") [Value.bytes _ _]) _ _ _); k_dflt (refine' lb_list ?kbaiN25 ?kbahN25 ?kbaFN25 ?kbaNN25 ?kbanN25 ?_; (case kbaFN25 => k_asm); (case kbaNN25 => k_asm); (case kbahN25 => rfl); (case kbaiN25 => kba_ints); (case kbanN25 => kba_size)); intro D9z us9z c9z h9z tk9z F9z N9z l19z hI9z; (try k_lt l19z); (try k_sweep)) | walk1 | (dsimp only; first | ((with_reducible show wpAny _ _ (call (Value.ref _) _) _ _ _); (fail_if_success (with_reducible show wpAny _ _ (call (Value.ref 87) _) _ _ _)); (fail_if_success ((with_reducible rename GoIn => hgo9); (with_reducible show wpAny _ _ (call (Value.ref 137) _) _ _ _))); refine Stop.mk ?_) | walk1))); unfold Stop; (refine leave_bad (by assumption) (by assumption) rM rF ?_); (intro rH2 rTh)))
        exact hbad (hP.more hlp hc hmore) _ _ _ (by assumption)
      · unfold Stop
        rename ¬ sz < told + mn => hsz
        rename News g' L' _ _ => N9
        rename Fr g' L' _ _ => F9
        have e9 : (cmdRefs cms).toArray.push (Value.ref c) = (cmdRefs (cms ++ [CmdR.mk c dc j1 j2 j3 u1 u2 pl mn (.bytes ob ot) (some ols)])).toArray := by simp
        rw [e9] at N9
        refine ksw_end ((cms ++ [CmdR.mk c dc j1 j2 j3 u1 u2 pl mn (.bytes ob ot) (some ols)], nn + 1), (told + mn, _), (q, t3')) F9 N9 ?_ ?_ (by kst_all) (by ((intro z9 h29 h39; (try simp only [List.forall_mem_cons, List.not_mem_nil, false_implies, implies_true, and_true, ne_eq] at h29); (try simp only [List.contains_cons, List.contains_nil, Bool.or_false, Bool.or_eq_false_iff, beq_eq_false_iff_ne, ne_eq] at h39); (try dsimp only); first | rfl | (simp [h29, h39, kstB]; done) | (simp [h29, kstB]; done) | (simp [h39, kstB]; done) | (simp [kstB]; done)))) ?_ ?_
        · dsimp only
          rw [cmdLed_app]
          intro p9 hp9
          simp only [List.mem_cons, List.mem_append, List.not_mem_nil, or_false] at hp9 ⊢
          rcases hp9 with h | h | h | h | h | h
          · exact .inr (.inr (.inl h))
          · exact .inr (.inr (.inr (.inl h)))
          · exact .inr (.inr (.inr (.inr (.inl h))))
          · exact .inr (.inr (.inr (.inr (.inr h))))
          · exact .inl h
          · exact .inr (.inl h)
        · intro r hr
          rcases List.mem_append.mp hr with hr | hr
          · exact hF r hr
          · rw [List.mem_singleton.mp hr]
            exact .some hls
        · refine ⟨by dsimp only; omega, hqk, by simp only [List.length_append, List.length_cons, List.length_nil]; omega, ?_⟩
          have st := hP.step hlp hc hpq (fun h => nomatch h.1) hsz
          simpa [cmdVals] using st
        · dsimp only
          omega

/-- what one command tells -/
def cmdOut (bl : List Int) (c : Int × Int × Option (List Int)) : List Int :=
  match c.2.2 with
  | some o => o
  | none => (bl.drop (clipAt bl.length c.1)).take (clipAt bl.length (c.1 + c.2.1) - clipAt bl.length c.1)
/-- what apply_delta tells -/
def applyP (bl ks : List Int) : Option (List Int) :=
  match headP ks with
  | none => none
  | some (n, sz, p) => if n = bl.length then (cmdsF ks n sz (ks.length + 1) p 0).map fun l => (l.map (cmdOut bl)).flatten else none
theorem cmdP_len {ks o : List Int} {p pl mn q : Int} (h : cmdP ks p = some (pl, mn, some o, q)) : o.length ≤ ks.length := by
  unfold cmdP at h
  split at h
  · dsimp only at h
    split at h
    · cases h
    · split at h
      · split at h
        · cases h
          simp only [List.length_take, List.length_drop]
          omega
        · cases h
      · split at h
        · cases h
        · split at h <;> cases h
  · cases h
theorem cmdsF_len {ks : List Int} {bs sz : Int} : ∀ (f : Nat) {p told : Int} {l : List (Int × Int × Option (List Int))}, cmdsF ks bs sz f p told = some l → ∀ c ∈ l, ∀ o, c.2.2 = some o → o.length ≤ ks.length
  | 0, _, _, _, h => by cases h
  | f + 1, p, told, l, h => by
    rw [cmdsF] at h
    split at h
    · split at h
      · cases h
      · rename_i pl mn oc q hc
        split at h
        · cases h
        · split at h
          · cases h
          · obtain ⟨r, hr, rfl⟩ := Option.map_eq_some_iff.mp h
            intro c hcm o ho
            rcases List.mem_cons.mp hcm with rfl | hcm
            · dsimp only at ho
              subst ho
              exact cmdP_len hc
            · exact cmdsF_len f hr c hcm o ho
    · split at h
      · cases h
      · cases h
        intro c hc
        cases hc
theorem cmdOut_len {bl : List Int} {c : Int × Int × Option (List Int)} {n : Nat} (h : ∀ o, c.2.2 = some o → o.length ≤ n) (hb : bl.length ≤ n) : (cmdOut bl c).length ≤ n := by
  unfold cmdOut
  split
  · rename_i o ho
    exact h o ho
  · simp only [List.length_take, List.length_drop]
    omega

theorem applyP_no {bl ks : List Int} (h : headP ks = none) : applyP bl ks = none := by unfold applyP; rw [h]
theorem applyP_other {bl ks : List Int} {n sz p : Int} (h : headP ks = some (n, sz, p)) (hn : n ≠ bl.length) : applyP bl ks = none := by unfold applyP; rw [h]; dsimp only; rw [if_neg hn]
theorem applyP_same {bl ks : List Int} {n sz p : Int} (h : headP ks = some (n, sz, p)) (hn : n = bl.length) : applyP bl ks = (cmdsF ks n sz (ks.length + 1) p 0).map fun l => (l.map (cmdOut bl)).flatten := by unfold applyP; rw [h]; dsimp only; rw [if_pos hn]

theorem ba_iaddN {prog : Program} {w : World} {A : Around} {E : Value → Shared → Prop} {s : Shared} {h₀ : Heap} {L : Addr} {m : Str → Option Value} {rest : List (Addr × Obj)} {a : Addr} {b c : Array UInt8} {t : Tok} {Q : Value → Shared → Prop}
    (F : Fr h₀ L s.heap m) (N : News h₀ L s.heap ((a, baObj b) :: rest)) (hap : ∀ p ∈ rest, p.1 ≠ a) (hz : b.size + c.size ≤ sizeLine)
    (h : ∀ h', Fr h₀ L h' m → News h₀ L h' ((a, baObj (b ++ c)) :: rest) → Q (.ref a) { s with heap := h' }) :
    wpG (model prog w) A (inplaceOp .Add (.ref a) (.bytes c t)) Q E s :=
  ba_iadd (N _ (.head _)).1 hz fun o6 => h _ (F.change (Heap.SameBut.update _ a _) (N _ (.head _)).2.1 (N _ (.head _)).2.2) (N.setHead hap (Heap.SameBut.update _ a _) o6)

theorem specG_apply {w : World} {mean : ExcName → Option Value} {mg mb : Str → Option Value} {a b : Array UInt8} {ta tb : Tok} {bl ks : List Int}
    (ha : KBw.bInts a = bl) (hb : KBw.bInts b = ks) (hza : bl.length ≤ 2000) (hz : ks.length ≤ 2000) :
    SpecG w mean mg mb 162 24 256 [] [.bytes a ta, .bytes b tb]
      (fun r o => ∃ out c t, applyP bl ks = some out ∧ KBw.bInts c = out ∧ r = .bytes c t ∧ o = []) (applyP bl ks = none) := by
  unfold SpecG
  w_top off
  intro dp un gd cn cs fa ccd cl outer A₀ base h₀ L m rest s R B F X N hap T hk hd hu hret hbad
  ((k_dflt (refine' code_ownG ?k1N1 ?k2N1 ?k3N1 ?k4N1 ?kapN1 ?k5N1 ?kAN1 ?kFN1 ?kKN1 ?k6N1 ?k7N1 ?k8N1 ?k9N1 ?kBN1 ?_ ?c2N1 ?c3N1 ?c4N1 ?c5N1; (case kAN1 => exact rfl); (case kFN1 => exact rfl); (case kKN1 => assumption); (case k1N1 => k_asm); (case k2N1 => k_asm); (case k3N1 => k_asm); (case k4N1 => k_asm); (case kapN1 => k_asm); (case k5N1 => k_asm); (case k6N1 => k_is); (case k7N1 => k_is); (case k8N1 => ktr_room); (case k9N1 => first | exact BindsTo.of_eq rfl | exact binds_K (by k_in) rfl (by k_is) rfl rfl rfl); (case c5N1 => decide); (case kBN1 => exact locs rfl); (case c2N1 => exact rfl); (case c3N1 => exact rfl); (case c4N1 => exact rfl); k_whole)))
  intro g' L' h' FG' F' N' B' X' T' hrest
  (try dsimp only)
  (try k_fold)
  have hMk := kstMark
  refine wpG_consA ?_
  (repeat' (first | (k_unfold; (try dsimp only)) | ((with_reducible show wpAny _ _ (call (Value.ref _) _) _ _ _); (fail_if_success (with_reducible show wpAny _ _ (call (Value.ref 87) _) _ _ _)); (fail_if_success ((with_reducible rename GoIn => hgo9); (with_reducible show wpAny _ _ (call (Value.ref 137) _) _ _ _))); refine Stop.mk ?_) | (k_here; (with_reducible show wpAny _ _ (call (Value.type "list") [Value.bytes _ _]) _ _ _); k_dflt (refine' lb_list ?kbaiN2 ?kbahN2 ?kbaFN2 ?kbaNN2 ?kbanN2 ?_; (case kbaFN2 => k_asm); (case kbaNN2 => k_asm); (case kbahN2 => rfl); (case kbaiN2 => kba_ints); (case kbanN2 => kba_size)); intro D9z us9z c9z h9z tk9z F9z N9z l19z hI9z; (try k_lt l19z); (try k_sweep)) | walk1 | (dsimp only; first | ((with_reducible show wpAny _ _ (call (Value.ref _) _) _ _ _); (fail_if_success (with_reducible show wpAny _ _ (call (Value.ref 87) _) _ _ _)); (fail_if_success ((with_reducible rename GoIn => hgo9); (with_reducible show wpAny _ _ (call (Value.ref 137) _) _ _ _))); refine Stop.mk ?_) | walk1)))
  unfold Stop
  rename Fr _ _ _ _ => F9
  rename News _ _ _ _ => N9
  (try dsimp only)
  refine' SpecC.use0 (spec_reader (ks := ks) hb (by omega)) B' F9 X' N9 T' rfl ?ud ?uu ?_ ?_
  case ud => ktr_room
  case uu => ktr_units
  rotate_left 1
  · intro hno e9 h9 tk9 th9
    exact leave_thrown B' FG' th9 fun h2 th2 => hbad (applyP_no hno) _ _ _ th2
  rintro r9 o9 h9 tk9 F9 N9 ⟨x, dx, k1, k2, k3, k4, bs, t1, sz, t2, p0, t3, hh, hp0, hp1, rfl, hxd, rfl⟩
  (try simp only [List.append_nil] at N9)
  (repeat' (first | (k_unfold; (try dsimp only)) | ((with_reducible show wpAny _ _ (call (Value.ref _) _) _ _ _); (fail_if_success (with_reducible show wpAny _ _ (call (Value.ref 87) _) _ _ _)); (fail_if_success ((with_reducible rename GoIn => hgo9); (with_reducible show wpAny _ _ (call (Value.ref 137) _) _ _ _))); refine Stop.mk ?_) | (k_here; (with_reducible show wpAny _ _ (call (Value.type "list") [Value.bytes _ _]) _ _ _); k_dflt (refine' lb_list ?kbaiN3 ?kbahN3 ?kbaFN3 ?kbaNN3 ?kbanN3 ?_; (case kbaFN3 => k_asm); (case kbaNN3 => k_asm); (case kbahN3 => rfl); (case kbaiN3 => kba_ints); (case kbanN3 => kba_size)); intro D9z us9z c9z h9z tk9z F9z N9z l19z hI9z; (try k_lt l19z); (try k_sweep)) | walk1 | (dsimp only; first | ((with_reducible show wpAny _ _ (call (Value.ref _) _) _ _ _); (fail_if_success (with_reducible show wpAny _ _ (call (Value.ref 87) _) _ _ _)); (fail_if_success ((with_reducible rename GoIn => hgo9); (with_reducible show wpAny _ _ (call (Value.ref 137) _) _ _ _))); refine Stop.mk ?_) | walk1)))
  · rename bs ≠ _ => hne
    ((unfold Stop; (with_reducible rename Fr _ _ _ _ => rF); (refine' call_bad ?xxN14 ?xlN14 ?xkN14 ?xrN14 ?xqN14); (case xkN14 => exact Fr.keep rF); (case xxN14 => assumption); (case xlN14 => exact Top.nolimit (by assumption)); (case xrN14 => ktr_room); (intro rE rH rT rM); (refine ⟨_, _, rfl, rM, Frag.In.keeps (by assumption) (fun b o q => rM.keeps _ _ (rF.keep b o q)), ?_⟩); (repeat' (first | (k_unfold; (try dsimp only)) | ((with_reducible show wpAny _ _ (call (Value.ref _) _) _ _ _); (fail_if_success (with_reducible show wpAny _ _ (call (Value.ref 87) _) _ _ _)); (fail_if_success ((with_reducible rename GoIn => hgo9); (with_reducible show wpAny _ _ (call (Value.ref 137) _) _ _ _))); refine Stop.mk ?_) | (k_here; (with_reducible show wpAny _ _ (call (Value.type "list") [Value.bytes _ _]) _ _ _); k_dflt (refine' lb_list ?kbaiN17 ?kbahN17 ?kbaFN17 ?kbaNN17 ?kbanN17 ?_; (case kbaFN17 => k_asm); (case kbaNN17 => k_asm); (case kbahN17 => rfl); (case kbaiN17 => kba_ints); (case kbanN17 => kba_size)); intro D9z us9z c9z h9z tk9z F9z N9z l19z hI9z; (try k_lt l19z); (try k_sweep)) | walk1 | (dsimp only; first | ((with_reducible show wpAny _ _ (call (Value.ref _) _) _ _ _); (fail_if_success (with_reducible show wpAny _ _ (call (Value.ref 87) _) _ _ _)); (fail_if_success ((with_reducible rename GoIn => hgo9); (with_reducible show wpAny _ _ (call (Value.ref 137) _) _ _ _))); refine Stop.mk ?_) | walk1))); unfold Stop; (refine leave_bad (by assumption) (by assumption) rM rF ?_); (intro rH2 rTh)))
    exact hbad (applyP_other hh hne) _ _ _ (by assumption)
  rename bs = _ => heq
  refine wpG_cons (wpG_Assign_Name (wpG_Call_Name ?_))
  (repeat' (first | (k_unfold; (try dsimp only)) | ((with_reducible show wpAny _ _ (call (Value.ref _) _) _ _ _); (fail_if_success (with_reducible show wpAny _ _ (call (Value.ref 87) _) _ _ _)); (fail_if_success ((with_reducible rename GoIn => hgo9); (with_reducible show wpAny _ _ (call (Value.ref 137) _) _ _ _))); refine Stop.mk ?_) | (k_here; (with_reducible show wpAny _ _ (call (Value.type "list") [Value.bytes _ _]) _ _ _); k_dflt (refine' lb_list ?kbaiN4 ?kbahN4 ?kbaFN4 ?kbaNN4 ?kbanN4 ?_; (case kbaFN4 => k_asm); (case kbaNN4 => k_asm); (case kbahN4 => rfl); (case kbaiN4 => kba_ints); (case kbanN4 => kba_size)); intro D9z us9z c9z h9z tk9z F9z N9z l19z hI9z; (try k_lt l19z); (try k_sweep)) | walk1 | (dsimp only; first | ((with_reducible show wpAny _ _ (call (Value.ref _) _) _ _ _); (fail_if_success (with_reducible show wpAny _ _ (call (Value.ref 87) _) _ _ _)); (fail_if_success ((with_reducible rename GoIn => hgo9); (with_reducible show wpAny _ _ (call (Value.ref 137) _) _ _ _))); refine Stop.mk ?_) | walk1)))
  refine wpG_callWith_type0 (ba_call fun h6 k6 o6 => ?_)
  rename Fr g' L' _ _ => F9
  have F6 := F9.keptAll k6
  have q6 := next_is_new F9
  have p6 := F9.ns.lt
  (try dsimp only at o6 q6 p6)
  (try dsimp only)
  generalize h9.objs.size = md at o6 q6 p6 ⊢
  have N6 : News g' L' h6 [(md, baObj #[])] := fun q hq => by
    rcases List.mem_singleton.mp hq with rfl
    exact ⟨o6, Nat.ne_of_gt p6, q6⟩
  clear F9 N9 o6 k6 p6 q6
  (repeat' (first | (k_unfold; (try dsimp only)) | ((with_reducible show wpAny _ _ (call (Value.ref _) _) _ _ _); (fail_if_success (with_reducible show wpAny _ _ (call (Value.ref 87) _) _ _ _)); (fail_if_success ((with_reducible rename GoIn => hgo9); (with_reducible show wpAny _ _ (call (Value.ref 137) _) _ _ _))); refine Stop.mk ?_) | (k_here; (with_reducible show wpAny _ _ (call (Value.type "list") [Value.bytes _ _]) _ _ _); k_dflt (refine' lb_list ?kbaiN5 ?kbahN5 ?kbaFN5 ?kbaNN5 ?kbanN5 ?_; (case kbaFN5 => k_asm); (case kbaNN5 => k_asm); (case kbahN5 => rfl); (case kbaiN5 => kba_ints); (case kbanN5 => kba_size)); intro D9z us9z c9z h9z tk9z F9z N9z l19z hI9z; (try k_lt l19z); (try k_sweep)) | walk1 | (dsimp only; first | ((with_reducible show wpAny _ _ (call (Value.ref _) _) _ _ _); (fail_if_success (with_reducible show wpAny _ _ (call (Value.ref 87) _) _ _ _)); (fail_if_success ((with_reducible rename GoIn => hgo9); (with_reducible show wpAny _ _ (call (Value.ref 137) _) _ _ _))); refine Stop.mk ?_) | walk1)))
  refine wpG_cons (wpG_For ?_)
  (repeat' (first | (k_unfold; (try dsimp only)) | ((with_reducible show wpAny _ _ (call (Value.ref _) _) _ _ _); (fail_if_success (with_reducible show wpAny _ _ (call (Value.ref 87) _) _ _ _)); (fail_if_success ((with_reducible rename GoIn => hgo9); (with_reducible show wpAny _ _ (call (Value.ref 137) _) _ _ _))); refine Stop.mk ?_) | (k_here; (with_reducible show wpAny _ _ (call (Value.type "list") [Value.bytes _ _]) _ _ _); k_dflt (refine' lb_list ?kbaiN6 ?kbahN6 ?kbaFN6 ?kbaNN6 ?kbanN6 ?_; (case kbaFN6 => k_asm); (case kbaNN6 => k_asm); (case kbahN6 => rfl); (case kbaiN6 => kba_ints); (case kbanN6 => kba_size)); intro D9z us9z c9z h9z tk9z F9z N9z l19z hI9z; (try k_lt l19z); (try k_sweep)) | walk1 | (dsimp only; first | ((with_reducible show wpAny _ _ (call (Value.ref _) _) _ _ _); (fail_if_success (with_reducible show wpAny _ _ (call (Value.ref 87) _) _ _ _)); (fail_if_success ((with_reducible rename GoIn => hgo9); (with_reducible show wpAny _ _ (call (Value.ref 137) _) _ _ _))); refine Stop.mk ?_) | walk1)))
  unfold Stop
  rename Fr g' L' _ _ => F9
  rename News g' L' _ _ => N9
  (try dsimp only)
  refine' Spec.use0 (spec_commands (ks := ks) hb (by omega) hh) B' F9 X' N9 T' rfl ?ud ?uu ?_ ?_
  case ud => ktr_room
  case uu => ktr_units
  rotate_left 1
  · intro hno e9 h9 tk9 th9
    exact leave_thrown B' FG' th9 fun h2 th2 => hbad (by rw [applyP_same hh heq, hno]; rfl) _ _ _ th2
  clear F9 N9
  rintro r9 o9 h9 tk9 F9 N9 A9 ⟨fd, nn, cms, hcs, hok, rfl, hcl, rfl⟩
  (try dsimp only)
  have N99 : News g' L' h9 ((fd, W.listOf (cmdRefs cms).toArray nn) :: (md, baObj #[]) :: cmdLed w cms) := fun q hq => N9 q (by
    simp only [List.mem_cons, List.mem_append, List.not_mem_nil, or_false] at hq ⊢
    rcases hq with h | h | h
    · exact .inl (.inl h)
    · exact .inr h
    · exact .inl (.inr h))
  refine' wpAny_mono ?loop (fun it s₂ h => LoopAtG.go (h₀ := g') rfl rfl ?pe h) fun _ _ x => x
  case pe => passes_own
  refine free_listG (σ := Array UInt8) (fun c => (fd, W.listOf (cmdRefs cms).toArray nn) :: (md, baObj c) :: cmdLed w cms) (fun c => [(Str.ofString "made", .ref md)]) []
    (fun i c => KBw.bInts c = (((cmdVals cms).take i).map (cmdOut bl)).flatten ∧ c.size ≤ i * 2000) #[] rfl (fun _ => .head _) F9 N99 ?ho (by kst_all) ⟨rfl, Nat.zero_le _⟩ ?turn ?done
  case ho =>
    intro p hp
    rcases List.mem_cons.mp hp with rfl | hp
    · exact ⟨by simp [W.listOf], by simp [W.listOf]⟩
    · rcases List.mem_cons.mp hp with rfl | hp
      · exact ⟨by simp, by simp⟩
      · obtain ⟨r, _, hr⟩ := List.mem_flatMap.mp hp
        rcases List.mem_cons.mp hr with rfl | hr
        · exact ⟨by simp, by simp⟩
        · rcases List.mem_cons.mp hr with rfl | hr
          · exact ⟨by simp, by simp⟩
          · cases hr
  case turn =>
    intro c i v u h tk I o hv hi hoff hPP F8 N8
    obtain ⟨hP1, hP2⟩ := hPP
    rw [List.getElem?_map] at hv
    obtain ⟨r, hr, rfl⟩ := Option.map_eq_some_iff.mp hv
    have N7 : News g' L' h ((md, baObj c) :: (r.c, instObj 87 r.dc) :: (r.dc, dictOf (cmEnt w r.j1 r.j2 r.j3 r.pl r.u1 r.mn r.u2 r.ov) 3) :: (I, o) :: (fd, W.listOf (cmdRefs cms).toArray nn) :: cmdLed w cms) := by
      have hm : ∀ q ∈ [(r.c, instObj 87 r.dc), (r.dc, dictOf (cmEnt w r.j1 r.j2 r.j3 r.pl r.u1 r.mn r.u2 r.ov) 3)], q ∈ cmdLed w cms := fun q hq => List.mem_flatMap.mpr ⟨r, List.mem_of_getElem? hr, hq⟩
      intro q hq
      refine N8 q ?_
      simp only [List.mem_cons] at hq ⊢
      rcases hq with h | h | h | h | h | h
      · exact .inr (.inr (.inl h))
      · exact .inr (.inr (.inr (hm q (h ▸ .head _))))
      · exact .inr (.inr (.inr (hm q (h ▸ .tail _ (.head _)))))
      · exact .inl h
      · exact .inr (.inl h)
      · exact .inr (.inr (.inr h))
    have hroc := hok r (List.mem_of_getElem? hr)
    have hlt : i < cms.length := by
      rcases Nat.lt_or_ge i cms.length with h | h
      · exact h
      · rw [List.getElem?_eq_none h] at hr
        cases hr
    have hcl9 : ∀ o9, r.oc = some o9 → o9.length ≤ ks.length := fun o9 ho9 => cmdsF_len _ hcs (r.pl, r.mn, r.oc) (List.mem_map_of_mem (List.mem_of_getElem? hr)) o9 ho9
    have hlen : (cmdOut bl (r.pl, r.mn, r.oc)).length ≤ 2000 := cmdOut_len (fun o9 ho9 => Nat.le_trans (hcl9 o9 ho9) hz) hza
    have hnext : ∀ d9 : Array UInt8, KBw.bInts d9 = cmdOut bl (r.pl, r.mn, r.oc) → c.size + d9.size ≤ sizeLine ∧ (KBw.bInts (c ++ d9) = (((cmdVals cms).take (i + 1)).map (cmdOut bl)).flatten ∧ (c ++ d9).size ≤ (i + 1) * 2000) := by
      intro d9 hd9
      have hs9 : d9.size ≤ 2000 := by rw [← KBw.ints_length, hd9]; exact hlen
      refine ⟨by have : sizeLine = 16777216 := by decide
                 have : i * 2000 ≤ 2000 * 2000 := Nat.mul_le_mul_right _ (by omega)
                 omega, ?_, by rw [Array.size_append]; omega⟩
      rw [KBw.ints_app hP1 hd9]
      have ht : (cmdVals cms).take (i + 1) = (cmdVals cms).take i ++ [(r.pl, r.mn, r.oc)] := by
        rw [List.take_add_one, List.getElem?_map, hr]
        rfl
      rw [ht]
      simp
    have hap7 : ∀ {h7 : Heap} (N7 : News g' L' h7 ((md, baObj c) :: (r.c, instObj 87 r.dc) :: (r.dc, dictOf (cmEnt w r.j1 r.j2 r.j3 r.pl r.u1 r.mn r.u2 r.ov) 3) :: (I, o) :: (fd, W.listOf (cmdRefs cms).toArray nn) :: cmdLed w cms)), ∀ p ∈ (r.c, instObj 87 r.dc) :: (r.dc, dictOf (cmEnt w r.j1 r.j2 r.j3 r.pl r.u1 r.mn r.u2 r.ov) 3) :: (I, o) :: (fd, W.listOf (cmdRefs cms).toArray nn) :: cmdLed w cms, p.1 ≠ md := by
      intro h7 N7 p hp
      simp only [List.mem_cons] at hp
      rcases hp with rfl | rfl | rfl | rfl | hp
      · exact news_neK N7 (.tail _ (.head _)) (.head _) (by simp [sizeOfObj])
      · exact news_neK N7 (.tail _ (.tail _ (.head _))) (.head _) (by simp [sizeOfObj, cmEnt])
      · exact off_ne N7 (.tail _ (.tail _ (.tail _ (.head _)))) (.head _) hi (hoff (md, baObj c) (.tail _ (.head _)))
      · exact news_neK N7 (.tail _ (.tail _ (.tail _ (.tail _ (.head _))))) (.head _) (by simp [sizeOfObj])
      · refine news_neK N7 (o := p.2) (.tail _ (.tail _ (.tail _ (.tail _ (.tail _ hp))))) (.head _) ?_
        have h1 := cmdLed_kind _ hp
        have h2 : sizeOfObj (baObj c) = 1002 := rfl
        omega
    have hoff9 : ∀ d9, ∀ p ∈ (fd, W.listOf (cmdRefs cms).toArray nn) :: (md, baObj d9) :: cmdLed w cms, offIter p := by
      intro d9 p hp
      rcases List.mem_cons.mp hp with rfl | hp
      · exact hoff _ (.head _)
      · rcases List.mem_cons.mp hp with rfl | hp
        · exact hoff (md, baObj c) (.tail _ (.head _))
        · exact hoff _ (.tail _ (.tail _ hp))
    obtain ⟨rc, rdc, j1, j2, j3, u1, u2, pl, mn, ov, oc⟩ := r
    dsimp only at N7 hroc hnext hap7 ⊢
    clear N8 F9 N9 N99
    refine wpG_cons (wpG_If (wpG_any ?_))
    cases hroc with
    | none =>
      (repeat' (first | (k_unfold; (try dsimp only)) | ((with_reducible show wpAny _ _ (call (Value.ref _) _) _ _ _); (fail_if_success (with_reducible show wpAny _ _ (call (Value.ref 87) _) _ _ _)); (fail_if_success ((with_reducible rename GoIn => hgo9); (with_reducible show wpAny _ _ (call (Value.ref 137) _) _ _ _))); refine Stop.mk ?_) | (k_here; (with_reducible show wpAny _ _ (call (Value.type "list") [Value.bytes _ _]) _ _ _); k_dflt (refine' lb_list ?kbaiN7 ?kbahN7 ?kbaFN7 ?kbaNN7 ?kbanN7 ?_; (case kbaFN7 => k_asm); (case kbaNN7 => k_asm); (case kbahN7 => rfl); (case kbaiN7 => kba_ints); (case kbanN7 => kba_size)); intro D9z us9z c9z h9z tk9z F9z N9z l19z hI9z; (try k_lt l19z); (try k_sweep)) | walk1 | (dsimp only; first | ((with_reducible show wpAny _ _ (call (Value.ref _) _) _ _ _); (fail_if_success (with_reducible show wpAny _ _ (call (Value.ref 87) _) _ _ _)); (fail_if_success ((with_reducible rename GoIn => hgo9); (with_reducible show wpAny _ _ (call (Value.ref 137) _) _ _ _))); refine Stop.mk ?_) | walk1)))
      refine wpG_cons (wpG_AugAssign_Name ?_)
      (repeat' (first | (k_unfold; (try dsimp only)) | ((with_reducible show wpAny _ _ (call (Value.ref _) _) _ _ _); (fail_if_success (with_reducible show wpAny _ _ (call (Value.ref 87) _) _ _ _)); (fail_if_success ((with_reducible rename GoIn => hgo9); (with_reducible show wpAny _ _ (call (Value.ref 137) _) _ _ _))); refine Stop.mk ?_) | (k_here; (with_reducible show wpAny _ _ (call (Value.type "list") [Value.bytes _ _]) _ _ _); k_dflt (refine' lb_list ?kbaiN8 ?kbahN8 ?kbaFN8 ?kbaNN8 ?kbanN8 ?_; (case kbaFN8 => k_asm); (case kbaNN8 => k_asm); (case kbahN8 => rfl); (case kbaiN8 => kba_ints); (case kbanN8 => kba_size)); intro D9z us9z c9z h9z tk9z F9z N9z l19z hI9z; (try k_lt l19z); (try k_sweep)) | walk1 | (dsimp only; first | ((with_reducible show wpAny _ _ (call (Value.ref _) _) _ _ _); (fail_if_success (with_reducible show wpAny _ _ (call (Value.ref 87) _) _ _ _)); (fail_if_success ((with_reducible rename GoIn => hgo9); (with_reducible show wpAny _ _ (call (Value.ref 137) _) _ _ _))); refine Stop.mk ?_) | walk1)))
      rename KBw.bInts (KBy.picked _ _ _) = _ => hcut
      rename News g' L' _ _ => N9
      rename Fr g' L' _ _ => F9
      obtain ⟨z1, z2⟩ := hnext _ hcut
      refine ba_iaddN F9 N9 (hap7 N9) z1 fun h6 F6 N6 => ?_
      clear F9 N9
      (repeat' (first | (k_unfold; (try dsimp only)) | ((with_reducible show wpAny _ _ (call (Value.ref _) _) _ _ _); (fail_if_success (with_reducible show wpAny _ _ (call (Value.ref 87) _) _ _ _)); (fail_if_success ((with_reducible rename GoIn => hgo9); (with_reducible show wpAny _ _ (call (Value.ref 137) _) _ _ _))); refine Stop.mk ?_) | (k_here; (with_reducible show wpAny _ _ (call (Value.type "list") [Value.bytes _ _]) _ _ _); k_dflt (refine' lb_list ?kbaiN9 ?kbahN9 ?kbaFN9 ?kbaNN9 ?kbanN9 ?_; (case kbaFN9 => k_asm); (case kbaNN9 => k_asm); (case kbahN9 => rfl); (case kbaiN9 => kba_ints); (case kbanN9 => kba_size)); intro D9z us9z c9z h9z tk9z F9z N9z l19z hI9z; (try k_lt l19z); (try k_sweep)) | walk1 | (dsimp only; first | ((with_reducible show wpAny _ _ (call (Value.ref _) _) _ _ _); (fail_if_success (with_reducible show wpAny _ _ (call (Value.ref 87) _) _ _ _)); (fail_if_success ((with_reducible rename GoIn => hgo9); (with_reducible show wpAny _ _ (call (Value.ref 137) _) _ _ _))); refine Stop.mk ?_) | walk1)))
      refine wpG_nil (wpG_nil ?_)
      rename News g' L' _ _ => N9
      rename Fr g' L' _ _ => F9
      refine free_end (c ++ _) F9 N9 (.tail _ (.tail _ (.tail _ (.head _)))) ?_ (hoff9 _) (by kst_all) ?_ z2
      · intro q hq
        simp only [List.mem_cons] at hq ⊢
        rcases hq with h | h | h
        · exact .inr (.inr (.inr (.inr (.inl h))))
        · exact .inl h
        · exact .inr (.inr (.inr (.inr (.inr h))))
      · ((intro z9 hz9 h29 h39; (try simp only [List.forall_mem_cons, List.not_mem_nil, false_implies, implies_true, and_true, ne_eq] at h29); (try simp only [List.contains_cons, List.contains_nil, Bool.or_false, Bool.or_eq_false_iff, beq_eq_false_iff_ne, ne_eq] at h39); (try dsimp only); first | rfl | (simp [hz9, h29, h39, kstB]; done) | (simp [hz9, h29, kstB]; done) | (simp [hz9, h39, kstB]; done) | (simp [hz9, kstB]; done)))
    | some hls =>
      rename Array UInt8 => ob
      (repeat' (first | (k_unfold; (try dsimp only)) | ((with_reducible show wpAny _ _ (call (Value.ref _) _) _ _ _); (fail_if_success (with_reducible show wpAny _ _ (call (Value.ref 87) _) _ _ _)); (fail_if_success ((with_reducible rename GoIn => hgo9); (with_reducible show wpAny _ _ (call (Value.ref 137) _) _ _ _))); refine Stop.mk ?_) | (k_here; (with_reducible show wpAny _ _ (call (Value.type "list") [Value.bytes _ _]) _ _ _); k_dflt (refine' lb_list ?kbaiN10 ?kbahN10 ?kbaFN10 ?kbaNN10 ?kbanN10 ?_; (case kbaFN10 => k_asm); (case kbaNN10 => k_asm); (case kbahN10 => rfl); (case kbaiN10 => kba_ints); (case kbanN10 => kba_size)); intro D9z us9z c9z h9z tk9z F9z N9z l19z hI9z; (try k_lt l19z); (try k_sweep)) | walk1 | (dsimp only; first | ((with_reducible show wpAny _ _ (call (Value.ref _) _) _ _ _); (fail_if_success (with_reducible show wpAny _ _ (call (Value.ref 87) _) _ _ _)); (fail_if_success ((with_reducible rename GoIn => hgo9); (with_reducible show wpAny _ _ (call (Value.ref 137) _) _ _ _))); refine Stop.mk ?_) | walk1)))
      refine wpG_cons (wpG_AugAssign_Name ?_)
      (repeat' (first | (k_unfold; (try dsimp only)) | ((with_reducible show wpAny _ _ (call (Value.ref _) _) _ _ _); (fail_if_success (with_reducible show wpAny _ _ (call (Value.ref 87) _) _ _ _)); (fail_if_success ((with_reducible rename GoIn => hgo9); (with_reducible show wpAny _ _ (call (Value.ref 137) _) _ _ _))); refine Stop.mk ?_) | (k_here; (with_reducible show wpAny _ _ (call (Value.type "list") [Value.bytes _ _]) _ _ _); k_dflt (refine' lb_list ?kbaiN11 ?kbahN11 ?kbaFN11 ?kbaNN11 ?kbanN11 ?_; (case kbaFN11 => k_asm); (case kbaNN11 => k_asm); (case kbahN11 => rfl); (case kbaiN11 => kba_ints); (case kbanN11 => kba_size)); intro D9z us9z c9z h9z tk9z F9z N9z l19z hI9z; (try k_lt l19z); (try k_sweep)) | walk1 | (dsimp only; first | ((with_reducible show wpAny _ _ (call (Value.ref _) _) _ _ _); (fail_if_success (with_reducible show wpAny _ _ (call (Value.ref 87) _) _ _ _)); (fail_if_success ((with_reducible rename GoIn => hgo9); (with_reducible show wpAny _ _ (call (Value.ref 137) _) _ _ _))); refine Stop.mk ?_) | walk1)))
      rename News g' L' _ _ => N9
      rename Fr g' L' _ _ => F9
      obtain ⟨z1, z2⟩ := hnext ob hls
      refine ba_iaddN F9 N9 (hap7 N9) z1 fun h6 F6 N6 => ?_
      clear F9 N9
      (repeat' (first | (k_unfold; (try dsimp only)) | ((with_reducible show wpAny _ _ (call (Value.ref _) _) _ _ _); (fail_if_success (with_reducible show wpAny _ _ (call (Value.ref 87) _) _ _ _)); (fail_if_success ((with_reducible rename GoIn => hgo9); (with_reducible show wpAny _ _ (call (Value.ref 137) _) _ _ _))); refine Stop.mk ?_) | (k_here; (with_reducible show wpAny _ _ (call (Value.type "list") [Value.bytes _ _]) _ _ _); k_dflt (refine' lb_list ?kbaiN12 ?kbahN12 ?kbaFN12 ?kbaNN12 ?kbanN12 ?_; (case kbaFN12 => k_asm); (case kbaNN12 => k_asm); (case kbahN12 => rfl); (case kbaiN12 => kba_ints); (case kbanN12 => kba_size)); intro D9z us9z c9z h9z tk9z F9z N9z l19z hI9z; (try k_lt l19z); (try k_sweep)) | walk1 | (dsimp only; first | ((with_reducible show wpAny _ _ (call (Value.ref _) _) _ _ _); (fail_if_success (with_reducible show wpAny _ _ (call (Value.ref 87) _) _ _ _)); (fail_if_success ((with_reducible rename GoIn => hgo9); (with_reducible show wpAny _ _ (call (Value.ref 137) _) _ _ _))); refine Stop.mk ?_) | walk1)))
      refine wpG_nil (wpG_nil ?_)
      rename News g' L' _ _ => N9
      rename Fr g' L' _ _ => F9
      refine free_end (c ++ ob) F9 N9 (.tail _ (.tail _ (.tail _ (.head _)))) ?_ (hoff9 _) (by kst_all) ?_ z2
      · intro q hq
        simp only [List.mem_cons] at hq ⊢
        rcases hq with h | h | h
        · exact .inr (.inr (.inr (.inr (.inl h))))
        · exact .inl h
        · exact .inr (.inr (.inr (.inr (.inr h))))
      · ((intro z9 hz9 h29 h39; (try simp only [List.forall_mem_cons, List.not_mem_nil, false_implies, implies_true, and_true, ne_eq] at h29); (try simp only [List.contains_cons, List.contains_nil, Bool.or_false, Bool.or_eq_false_iff, beq_eq_false_iff_ne, ne_eq] at h39); (try dsimp only); first | rfl | (simp [hz9, h29, h39, kstB]; done) | (simp [hz9, h29, kstB]; done) | (simp [hz9, h39, kstB]; done) | (simp [hz9, kstB]; done)))
  case done =>
    intro c u h tk hPP F8 N8
    obtain ⟨hP1, hP2⟩ := hPP
    refine wpG_cons (wpG_Return (wpG_any ?_))
    (repeat' (first | (k_unfold; (try dsimp only)) | ((with_reducible show wpAny _ _ (call (Value.ref _) _) _ _ _); (fail_if_success (with_reducible show wpAny _ _ (call (Value.ref 87) _) _ _ _)); (fail_if_success ((with_reducible rename GoIn => hgo9); (with_reducible show wpAny _ _ (call (Value.ref 137) _) _ _ _))); refine Stop.mk ?_) | (k_here; (with_reducible show wpAny _ _ (call (Value.type "list") [Value.bytes _ _]) _ _ _); k_dflt (refine' lb_list ?kbaiN13 ?kbahN13 ?kbaFN13 ?kbaNN13 ?kbanN13 ?_; (case kbaFN13 => k_asm); (case kbaNN13 => k_asm); (case kbahN13 => rfl); (case kbaiN13 => kba_ints); (case kbanN13 => kba_size)); intro D9z us9z c9z h9z tk9z F9z N9z l19z hI9z; (try k_lt l19z); (try k_sweep)) | walk1 | (dsimp only; first | ((with_reducible show wpAny _ _ (call (Value.ref _) _) _ _ _); (fail_if_success (with_reducible show wpAny _ _ (call (Value.ref 87) _) _ _ _)); (fail_if_success ((with_reducible rename GoIn => hgo9); (with_reducible show wpAny _ _ (call (Value.ref 137) _) _ _ _))); refine Stop.mk ?_) | walk1)))
    unfold Stop
    rename News g' L' _ _ => N9
    rename Fr g' L' _ _ => F9
    have hzz : c.size ≤ sizeLine := by
      have h1 : sizeLine = 16777216 := by decide
      have h2 : cms.length * 2000 ≤ 2000 * 2000 := Nat.mul_le_mul_right _ (by omega)
      have h3 : (cmdRefs cms).length = cms.length := List.length_map _
      rw [h3] at hP2
      omega
    refine ba_bytes (N9 _ (.tail _ (.head _))).1 hzz fun t6 k6 => ?_
    refine ⟨_, _, [], F9, News.nil, fun kF kN _ => hret _ [] _ _ kF kN ⟨_, _, _, ?_, hP1, rfl, rfl⟩⟩
    rw [applyP_same hh heq, hcs]
    have h3 : (cmdRefs cms).length = (cmdVals cms).length := by rw [List.length_map, List.length_map]
    rw [h3, List.take_length]
    rfl

section
variable {prog : Program} {w : World} {A : Around} {E : Value → Shared → Prop} {s : Shared} {env : Env}
theorem wpG_Try_except {body orelse : List Stmt} {h₀ : ExceptHandler} {hs : List ExceptHandler} {pos : Pos} {Q : Flow → Shared → Prop}
    (h : wpG (model prog w) A (execs body env) (fun f s₁ => match f with | .next => wpG (model prog w) A (execs orelse env) Q E s₁ | f => Q f s₁)
      (fun e s₁ => wpAny (model prog w) A (noteFrame e env) (fun _ s₂ => wpAny (model prog w) A (setFlight e none) (fun _ s₃ => wpAny (model prog w) A (handleBy e env (h₀ :: hs)) Q E s₃) E s₂) E s₁) s) :
    wpG (model prog w) A (exec (.Try body (h₀ :: hs) orelse [] pos) env) Q E s := by
  rw [arm_exec_Try]
  refine wpG_step (wpAny_standAt ?_)
  unfold tryStmt
  simp only [List.isEmpty_nil, if_true, List.isEmpty_cons, Bool.false_and, Bool.false_eq_true, if_false]
  refine wpG_bind (wpG_attempt (wpG_mono h (fun f s₁ h₁ => ?_) fun e s₁ h₁ => ?_))
  · cases f <;> first | exact h₁ | exact wpG_pure h₁
  · exact wpG_step (wpAny_mono h₁ (fun _ _ h₂ => wpG_step (wpAny_mono h₂ (fun _ _ h₃ => wpG_any h₃) fun _ _ x => x)) fun _ _ x => x)
end
theorem specTG_lheard {w : World} {mean : ExcName → Option Value} {mg mb : Str → Option Value} {a b : Array UInt8} {ta tb : Tok} {bl ks : List Int}
    (ha : KBw.bInts a = bl) (hb : KBw.bInts b = ks) (hza : bl.length ≤ 2000) (hz : ks.length ≤ 2000) :
    SpecTG w mean mg mb 204 28 288 [] [.bytes a ta, .bytes b tb]
      (fun r o => (applyP bl ks = none ∧ r = .none ∧ o = []) ∨ ∃ out c t, applyP bl ks = some out ∧ KBw.bInts c = out ∧ r = .bytes c t ∧ o = []) := by
  unfold SpecTG
  w_top off
  intro dp un gd cn cs fa ccd cl outer A₀ base h₀ L m rest s R B F X N hap T XB TB D hk hd hu hret
  ((k_dflt (refine' code_ownTG ?k1N1 ?k2N1 ?k3N1 ?k4N1 ?kapN1 ?k5N1 ?kDN1 ?kAN1 ?kKN1 ?k6N1 ?k7N1 ?k8N1 ?k9N1 ?kBN1 ?_ ?c2N1 ?c3N1 ?c4N1 ?c5N1; (case kAN1 => exact rfl); (case kDN1 => k_asm); (case kKN1 => assumption); (case k1N1 => k_asm); (case k2N1 => k_asm); (case k3N1 => k_asm); (case k4N1 => k_asm); (case kapN1 => k_asm); (case k5N1 => k_asm); (case k6N1 => k_is); (case k7N1 => k_is); (case k8N1 => ktr_room); (case k9N1 => first | exact BindsTo.of_eq rfl | exact binds_K (by k_in) rfl (by k_is) rfl rfl rfl); (case c5N1 => decide); (case kBN1 => exact locs rfl); (case c2N1 => exact rfl); (case c3N1 => exact rfl); (case c4N1 => exact rfl); k_whole)))
  intro g' L' h' FG' F' N' B' X' T' D' hrest
  (try dsimp only)
  (try k_fold)
  have hMk := kstMark
  refine wpG_cons (wpG_Try_except (wpG_cons (wpG_Return (wpG_Call_Name ?_))))
  (repeat' (first | (k_unfold; (try dsimp only)) | ((with_reducible show wpAny _ _ (call (Value.ref _) _) _ _ _); (fail_if_success (with_reducible show wpAny _ _ (call (Value.ref 87) _) _ _ _)); (fail_if_success ((with_reducible rename GoIn => hgo9); (with_reducible show wpAny _ _ (call (Value.ref 137) _) _ _ _))); refine Stop.mk ?_) | (k_here; (with_reducible show wpAny _ _ (call (Value.type "list") [Value.bytes _ _]) _ _ _); k_dflt (refine' lb_list ?kbaiN2 ?kbahN2 ?kbaFN2 ?kbaNN2 ?kbanN2 ?_; (case kbaFN2 => k_asm); (case kbaNN2 => k_asm); (case kbahN2 => rfl); (case kbaiN2 => kba_ints); (case kbanN2 => kba_size)); intro D9z us9z c9z h9z tk9z F9z N9z l19z hI9z; (try k_lt l19z); (try k_sweep)) | walk1 | (dsimp only; first | ((with_reducible show wpAny _ _ (call (Value.ref _) _) _ _ _); (fail_if_success (with_reducible show wpAny _ _ (call (Value.ref 87) _) _ _ _)); (fail_if_success ((with_reducible rename GoIn => hgo9); (with_reducible show wpAny _ _ (call (Value.ref 137) _) _ _ _))); refine Stop.mk ?_) | walk1)))
  refine wpG_callWith_K (K := Mine.hd.heap_1_39 w.params) (by k_is) ?_
  (repeat' (first | (k_unfold; (try dsimp only)) | ((with_reducible show wpAny _ _ (call (Value.ref _) _) _ _ _); (fail_if_success (with_reducible show wpAny _ _ (call (Value.ref 87) _) _ _ _)); (fail_if_success ((with_reducible rename GoIn => hgo9); (with_reducible show wpAny _ _ (call (Value.ref 137) _) _ _ _))); refine Stop.mk ?_) | (k_here; (with_reducible show wpAny _ _ (call (Value.type "list") [Value.bytes _ _]) _ _ _); k_dflt (refine' lb_list ?kbaiN3 ?kbahN3 ?kbaFN3 ?kbaNN3 ?kbanN3 ?_; (case kbaFN3 => k_asm); (case kbaNN3 => k_asm); (case kbahN3 => rfl); (case kbaiN3 => kba_ints); (case kbanN3 => kba_size)); intro D9z us9z c9z h9z tk9z F9z N9z l19z hI9z; (try k_lt l19z); (try k_sweep)) | walk1 | (dsimp only; first | ((with_reducible show wpAny _ _ (call (Value.ref _) _) _ _ _); (fail_if_success (with_reducible show wpAny _ _ (call (Value.ref 87) _) _ _ _)); (fail_if_success ((with_reducible rename GoIn => hgo9); (with_reducible show wpAny _ _ (call (Value.ref 137) _) _ _ _))); refine Stop.mk ?_) | walk1)))
  refine' SpecG.use0 (specG_apply ha hb hza hz) B' F' X' N' T' rfl ?ud ?uu ?_ ?_
  case ud => ktr_room
  case uu => ktr_units
  · rintro r9 o9 h9 tk9 F9 N9 ⟨out, c, t, hh, hc, rfl, rfl⟩
    exact ⟨g', _, _, [], .refl, F9, News.nil, fun h₀' TT BB kF kN => hret _ [] _ _ _ TT BB kF kN (.inr ⟨_, _, _, hh, hc, rfl, rfl⟩)⟩
  · intro hno e9 h9 tk9 th9
    obtain ⟨G9, FG9, RS9, UP9⟩ := th9
    dsimp only
    refine kts_lookSN RS9 FG9 B' UP9 D' fun h8 R8 U8 => ?_
    refine hit_SN0 R8 FG9 B' U8 XB TB D' .refl (by kts_test) (fun h7 g7 T7 F7 N7 K7 X7 P7 D7 => ?_) (by passes_own)
    (repeat' (first | (k_unfold; (try dsimp only)) | ((with_reducible show wpAny _ _ (call (Value.ref _) _) _ _ _); (fail_if_success (with_reducible show wpAny _ _ (call (Value.ref 87) _) _ _ _)); (fail_if_success ((with_reducible rename GoIn => hgo9); (with_reducible show wpAny _ _ (call (Value.ref 137) _) _ _ _))); refine Stop.mk ?_) | (k_here; (with_reducible show wpAny _ _ (call (Value.type "list") [Value.bytes _ _]) _ _ _); k_dflt (refine' lb_list ?kbaiN4 ?kbahN4 ?kbaFN4 ?kbaNN4 ?kbanN4 ?_; (case kbaFN4 => k_asm); (case kbaNN4 => k_asm); (case kbahN4 => rfl); (case kbaiN4 => kba_ints); (case kbanN4 => kba_size)); intro D9z us9z c9z h9z tk9z F9z N9z l19z hI9z; (try k_lt l19z); (try k_sweep)) | walk1 | (dsimp only; first | ((with_reducible show wpAny _ _ (call (Value.ref _) _) _ _ _); (fail_if_success (with_reducible show wpAny _ _ (call (Value.ref 87) _) _ _ _)); (fail_if_success ((with_reducible rename GoIn => hgo9); (with_reducible show wpAny _ _ (call (Value.ref 137) _) _ _ _))); refine Stop.mk ?_) | walk1)))
    exact ⟨g7, _, _, [], T7, F7, N7, fun h₀' TT BB kF kN => hret _ [] _ _ _ TT BB kF kN (.inl ⟨hno, rfl, rfl⟩)⟩

theorem specT_lhhead {w : World} {mean : ExcName → Option Value} {mg mb : Str → Option Value} {b : Array UInt8} {tb : Tok} {ks : List Int} (hb : KBw.bInts b = ks) (hz : ks.length ≤ 2000) :
    SpecT w mean mg mb 211 16 128 [] [.bytes b tb]
      (fun r o => (headP ks = none ∧ r = .none ∧ o = []) ∨ ∃ n sz p D t1 t2 t3, headP ks = some (n, sz, p) ∧ r = .ref D ∧ o = [(D, { cls := .type "tuple", data := .seq #[.int n t1, .int sz t2, .int p t3] })]) := by
  unfold SpecT
  w_top off
  intro dp un gd cn cs a ccd cl outer A₀ base h₀ L m rest s R B F X N hap T XB TB D hk hd hu hret
  ((k_dflt (refine' code_ownT ?k1N1 ?k2N1 ?k3N1 ?k4N1 ?kapN1 ?k5N1 ?kDN1 ?kAN1 ?kKN1 ?k6N1 ?k7N1 ?k8N1 ?k9N1 ?kBN1 ?_ ?c2N1 ?c3N1 ?c4N1 ?c5N1; (case kAN1 => exact rfl); (case kDN1 => k_asm); (case kKN1 => assumption); (case k1N1 => k_asm); (case k2N1 => k_asm); (case k3N1 => k_asm); (case k4N1 => k_asm); (case kapN1 => k_asm); (case k5N1 => k_asm); (case k6N1 => k_is); (case k7N1 => k_is); (case k8N1 => ktr_room); (case k9N1 => first | exact BindsTo.of_eq rfl | exact binds_K (by k_in) rfl (by k_is) rfl rfl rfl); (case c5N1 => decide); (case kBN1 => exact locs rfl); (case c2N1 => exact rfl); (case c3N1 => exact rfl); (case c4N1 => exact rfl); k_whole)))
  intro g' L' h' FG' F' N' B' X' T' D' hrest
  (try dsimp only)
  (try k_fold)
  have hMk := kstMark
  (repeat' (first | (k_unfold; (try dsimp only)) | ((with_reducible show wpAny _ _ (call (Value.ref _) _) _ _ _); (fail_if_success (with_reducible show wpAny _ _ (call (Value.ref 87) _) _ _ _)); (fail_if_success ((with_reducible rename GoIn => hgo9); (with_reducible show wpAny _ _ (call (Value.ref 137) _) _ _ _))); refine Stop.mk ?_) | (k_here; (with_reducible show wpAny _ _ (call (Value.type "list") [Value.bytes _ _]) _ _ _); k_dflt (refine' lb_list ?kbaiN2 ?kbahN2 ?kbaFN2 ?kbaNN2 ?kbanN2 ?_; (case kbaFN2 => k_asm); (case kbaNN2 => k_asm); (case kbahN2 => rfl); (case kbaiN2 => kba_ints); (case kbanN2 => kba_size)); intro D9z us9z c9z h9z tk9z F9z N9z l19z hI9z; (try k_lt l19z); (try k_sweep)) | walk1 | (dsimp only; first | ((with_reducible show wpAny _ _ (call (Value.ref _) _) _ _ _); (fail_if_success (with_reducible show wpAny _ _ (call (Value.ref 87) _) _ _ _)); (fail_if_success ((with_reducible rename GoIn => hgo9); (with_reducible show wpAny _ _ (call (Value.ref 137) _) _ _ _))); refine Stop.mk ?_) | walk1)))
  unfold Stop
  rename Fr g' L' _ _ => F9
  rename News g' L' _ _ => N9
  (try dsimp only)
  refine' Spec.use0 (spec_delta_head (ks := ks) hb (by omega)) B' F9 X' N9 T' rfl ?ud ?uu ?_ ?_
  case ud => ktr_room
  case uu => ktr_units
  rotate_left 1
  · intro hno e9 h9 tk9 th9
    obtain ⟨G9, FG9, RS9, UP9⟩ := th9
    dsimp only
    refine kts_lookSN RS9 FG9 B' UP9 D' fun h8 R8 U8 => ?_
    refine hit_SN0 R8 FG9 B' U8 XB TB D' .refl (by kts_test) (fun h7 g7 T7 F7 N7 K7 X7 P7 D7 => ?_) (by passes_own)
    (repeat' (first | (k_unfold; (try dsimp only)) | ((with_reducible show wpAny _ _ (call (Value.ref _) _) _ _ _); (fail_if_success (with_reducible show wpAny _ _ (call (Value.ref 87) _) _ _ _)); (fail_if_success ((with_reducible rename GoIn => hgo9); (with_reducible show wpAny _ _ (call (Value.ref 137) _) _ _ _))); refine Stop.mk ?_) | (k_here; (with_reducible show wpAny _ _ (call (Value.type "list") [Value.bytes _ _]) _ _ _); k_dflt (refine' lb_list ?kbaiN3 ?kbahN3 ?kbaFN3 ?kbaNN3 ?kbanN3 ?_; (case kbaFN3 => k_asm); (case kbaNN3 => k_asm); (case kbahN3 => rfl); (case kbaiN3 => kba_ints); (case kbanN3 => kba_size)); intro D9z us9z c9z h9z tk9z F9z N9z l19z hI9z; (try k_lt l19z); (try k_sweep)) | walk1 | (dsimp only; first | ((with_reducible show wpAny _ _ (call (Value.ref _) _) _ _ _); (fail_if_success (with_reducible show wpAny _ _ (call (Value.ref 87) _) _ _ _)); (fail_if_success ((with_reducible rename GoIn => hgo9); (with_reducible show wpAny _ _ (call (Value.ref 137) _) _ _ _))); refine Stop.mk ?_) | walk1)))
    exact ⟨g7, _, _, [], T7, F7, N7, fun h₀' TT BB kF kN => hret _ [] _ _ _ TT BB kF kN (.inl ⟨hno, rfl, rfl⟩)⟩
  rintro r9 o9 h9 tk9 F9 N9 A9 ⟨n, sz, p, dd, t1, t2, t3, hh, hp0, hp1, rfl, rfl⟩
  (try simp only [List.cons_append, List.nil_append] at N9)
  (repeat' (first | (k_unfold; (try dsimp only)) | ((with_reducible show wpAny _ _ (call (Value.ref _) _) _ _ _); (fail_if_success (with_reducible show wpAny _ _ (call (Value.ref 87) _) _ _ _)); (fail_if_success ((with_reducible rename GoIn => hgo9); (with_reducible show wpAny _ _ (call (Value.ref 137) _) _ _ _))); refine Stop.mk ?_) | (k_here; (with_reducible show wpAny _ _ (call (Value.type "list") [Value.bytes _ _]) _ _ _); k_dflt (refine' lb_list ?kbaiN4 ?kbahN4 ?kbaFN4 ?kbaNN4 ?kbanN4 ?_; (case kbaFN4 => k_asm); (case kbaNN4 => k_asm); (case kbahN4 => rfl); (case kbaiN4 => kba_ints); (case kbanN4 => kba_size)); intro D9z us9z c9z h9z tk9z F9z N9z l19z hI9z; (try k_lt l19z); (try k_sweep)) | walk1 | (dsimp only; first | ((with_reducible show wpAny _ _ (call (Value.ref _) _) _ _ _); (fail_if_success (with_reducible show wpAny _ _ (call (Value.ref 87) _) _ _ _)); (fail_if_success ((with_reducible rename GoIn => hgo9); (with_reducible show wpAny _ _ (call (Value.ref 137) _) _ _ _))); refine Stop.mk ?_) | walk1)))
  rename Fr g' L' _ _ => F9
  rename News g' L' _ _ => N9
  exact ⟨g', _, _, _, .refl, F9, (fun q hq => N9 q (by rcases List.mem_singleton.mp hq with rfl; exact .head _)), fun h₀' TT BB kF kN => hret _ [_] _ _ _ TT BB kF kN (.inr ⟨_, _, _, _, _, _, _, hh, rfl, rfl⟩)⟩

/-- the octets told of a copy's numbers, n of them from the bit k on; 0 where one is left out -/
def partsF (ks : List Int) (w : Int) : Nat → Nat → Int → Option (List Int × Int)
  | _, 0, p => some ([], p)
  | k, n + 1, p => if w / 2 ^ k % 2 = 1 then (if p < ks.length then (partsF ks w (k + 1) n (p + 1)).map fun r => (ks.getD p.toNat 0 :: r.1, r.2) else none)
      else (partsF ks w (k + 1) n p).map fun r => (0 :: r.1, r.2)
def wtP : Nat → List Int → Int
  | _, [] => 0
  | k, x :: l => x * 2 ^ (8 * k) + wtP (k + 1) l
theorem num_parts {ks : List Int} {w : Int} (j : Nat) : ∀ (n k : Nat) (p : Int), numP ks w (2 ^ j) k n p = (partsF ks w (j + k) n p).map fun r => (wtP k r.1, r.2)
  | 0, k, p => rfl
  | n + 1, k, p => by
    rw [numP, partsF, ← Int.pow_add, kbt_bit]
    have hp : (0 : Int) < 2 ^ (j + k) := Int.pow_pos (by decide)
    have ih := fun q => num_parts (ks := ks) (w := w) j n (k + 1) q
    rw [← Nat.add_assoc] at ih
    rcases Int.emod_two_eq (w / 2 ^ (j + k)) with e | e
    · rw [e, Int.zero_mul, if_pos rfl, if_neg (by decide), ih, Option.map_map]
      congr 1
      funext r
      simp [wtP]
    · rw [e, Int.one_mul, if_neg (by omega), if_pos rfl]
      split
      · rw [ih, Option.map_map, Option.map_map]
        congr 1
      · rfl
theorem parts_add {ks : List Int} {w : Int} : ∀ (m n k : Nat) (p : Int), partsF ks w k (m + n) p = (partsF ks w k m p).bind fun r => (partsF ks w (k + m) n r.2).map fun r2 => (r.1 ++ r2.1, r2.2)
  | 0, n, k, p => by
    rw [Nat.zero_add]
    show _ = (partsF ks w (k + 0) n p).map fun r2 => ([] ++ r2.1, r2.2)
    simp
  | m + 1, n, k, p => by
    rw [Nat.add_right_comm, partsF, partsF]
    have ih := fun q => parts_add (ks := ks) (w := w) m n (k + 1) q
    have e9 : k + 1 + m = k + (m + 1) := by omega
    rw [e9] at ih
    split
    · split
      · rw [ih, Option.map_bind, Option.bind_map]
        congr 1
        funext r
        simp only [Function.comp_apply, Option.map_map]
        rfl
      · rfl
    · rw [ih, Option.map_bind, Option.bind_map]
      congr 1
      funext r
      simp only [Function.comp_apply, Option.map_map]
      rfl
theorem parts_len {ks : List Int} {w : Int} : ∀ {n k : Nat} {p : Int} {l : List Int} {q : Int}, partsF ks w k n p = some (l, q) → l.length = n ∧ p ≤ q ∧ (p ≤ ks.length → q ≤ ks.length)
  | 0, k, p, l, q, h => by cases h; exact ⟨rfl, Int.le_refl _, id⟩
  | n + 1, k, p, l, q, h => by
    rw [partsF] at h
    split at h
    · split at h
      · obtain ⟨r, hr, e⟩ := Option.map_eq_some_iff.mp h
        cases e
        have := parts_len (l := r.1) (q := r.2) hr
        exact ⟨by rw [List.length_cons]; omega, by omega, fun _ => this.2.2 (by omega)⟩
      · cases h
    · obtain ⟨r, hr, e⟩ := Option.map_eq_some_iff.mp h
      cases e
      have := parts_len (l := r.1) (q := r.2) hr
      exact ⟨by rw [List.length_cons]; omega, by omega, this.2.2⟩
/-- how far the loop over the seven bits has come -/
@[irreducible] def PartSt (ks : List Int) (w p0 : Int) (i : Nat) (l : List Int) (p : Int) : Prop :=
  i ≤ 7 ∧ l.length = i ∧ partsF ks w 0 7 p0 = (partsF ks w i (7 - i) p).map fun r => (l ++ r.1, r.2)
theorem PartSt.start (ks : List Int) (w p0 : Int) : PartSt ks w p0 0 [] p0 := by
  unfold PartSt
  refine ⟨by decide, rfl, ?_⟩
  cases partsF ks w 0 7 p0 <;> simp
section
variable {ks : List Int} {w p0 : Int} {i : Nat} {l : List Int} {p : Int}
theorem PartSt.cut (h : PartSt ks w p0 i l p) (hi : i < 7) (hw : w / 2 ^ i % 2 = 1) (hp : ¬ p < ks.length) : partsF ks w 0 7 p0 = none := by
  unfold PartSt at h
  rw [h.2.2, show 7 - i = (7 - (i + 1)) + 1 from by omega, partsF, if_pos hw, if_neg hp]
  rfl
theorem PartSt.take (h : PartSt ks w p0 i l p) (hi : i < 7) (hw : w / 2 ^ i % 2 = 1) (hp : p < ks.length) : PartSt ks w p0 (i + 1) (l ++ [ks.getD p.toNat 0]) (p + 1) := by
  unfold PartSt at h ⊢
  refine ⟨by omega, by rw [List.length_append, h.2.1]; rfl, ?_⟩
  rw [h.2.2, show 7 - i = (7 - (i + 1)) + 1 from by omega, partsF, if_pos hw, if_pos hp, Option.map_map]
  congr 1
  funext r
  simp
theorem PartSt.skip (h : PartSt ks w p0 i l p) (hi : i < 7) (hw : ¬ w / 2 ^ i % 2 = 1) : PartSt ks w p0 (i + 1) (l ++ [0]) p := by
  unfold PartSt at h ⊢
  refine ⟨by omega, by rw [List.length_append, h.2.1]; rfl, ?_⟩
  rw [h.2.2, show 7 - i = (7 - (i + 1)) + 1 from by omega, partsF, if_neg hw, Option.map_map]
  congr 1
  funext r
  simp
theorem PartSt.fin (h : PartSt ks w p0 7 l p) : partsF ks w 0 7 p0 = some (l, p) := by
  unfold PartSt at h
  rw [h.2.2, Nat.sub_self, partsF]
  simp
theorem PartSt.len (h : PartSt ks w p0 i l p) : l.length = i := by
  unfold PartSt at h
  exact h.2.1
end
theorem bit_hi {w : Int} (h0 : 128 ≤ w) (h1 : w < 256) : ¬ Builtin.bitAnd w 128 = 0 := by
  rw [show (128 : Int) = 2 ^ 7 from by decide, kbt_bit]
  have : w / 2 ^ 7 % 2 = 1 := by omega
  rw [this]
  decide
theorem bit_lo {w : Int} (h0 : 0 ≤ w) (h1 : w < 128) : Builtin.bitAnd w 128 = 0 := by
  rw [show (128 : Int) = 2 ^ 7 from by decide, kbt_bit]
  have : w / 2 ^ 7 % 2 = 0 := by omega
  rw [this]
  decide
theorem cmdP_parts_no {ks : List Int} {p : Int} (h : p < ks.length) (h0 : 128 ≤ ks.getD p.toNat 0) (h1 : ks.getD p.toNat 0 < 256) (hn : partsF ks (ks.getD p.toNat 0) 0 7 (p + 1) = none) : cmdP ks p = none := by
  have e1 := num_parts (ks := ks) (w := ks.getD p.toNat 0) 0 4 0 (p + 1)
  rw [Int.pow_zero] at e1
  rw [show 7 = 4 + 3 from rfl, parts_add] at hn
  cases hq : partsF ks (ks.getD p.toNat 0) 0 4 (p + 1) with
  | none =>
    rw [hq] at e1
    exact cmdP_num1 h (by omega) (bit_hi h0 h1) e1
  | some r =>
    rw [hq] at e1 hn
    have e2 := num_parts (ks := ks) (w := ks.getD p.toNat 0) 4 3 0 r.2
    rw [show (2 : Int) ^ 4 = 16 from by decide] at e2
    cases hq2 : partsF ks (ks.getD p.toNat 0) (0 + 4) 3 r.2 with
    | none =>
      rw [show (4 + 0) = 0 + 4 from rfl, hq2] at e2
      exact cmdP_num2 h (by omega) (bit_hi h0 h1) e1 e2
    | some r2 =>
      rw [Option.bind_some, hq2] at hn
      cases hn
theorem cmdP_parts {ks : List Int} {p a0 a1 a2 a3 a4 a5 a6 q : Int} (h : p < ks.length) (h0 : 128 ≤ ks.getD p.toNat 0) (h1 : ks.getD p.toNat 0 < 256) (hn : partsF ks (ks.getD p.toNat 0) 0 7 (p + 1) = some ([a0, a1, a2, a3, a4, a5, a6], q)) :
    cmdP ks p = some (a0 + 256 * a1 + 65536 * a2 + 16777216 * a3, if a4 + 256 * a5 + 65536 * a6 > 0 then a4 + 256 * a5 + 65536 * a6 else 65536, none, q) := by
  have e1 := num_parts (ks := ks) (w := ks.getD p.toNat 0) 0 4 0 (p + 1)
  rw [Int.pow_zero] at e1
  rw [show 7 = 4 + 3 from rfl, parts_add] at hn
  cases hq : partsF ks (ks.getD p.toNat 0) 0 4 (p + 1) with
  | none =>
    rw [hq] at hn
    cases hn
  | some r =>
    rw [hq] at e1 hn
    have e2 := num_parts (ks := ks) (w := ks.getD p.toNat 0) 4 3 0 r.2
    rw [show (2 : Int) ^ 4 = 16 from by decide] at e2
    cases hq2 : partsF ks (ks.getD p.toNat 0) (0 + 4) 3 r.2 with
    | none =>
      rw [Option.bind_some, hq2] at hn
      cases hn
    | some r2 =>
      rw [show (4 + 0) = 0 + 4 from rfl, hq2] at e2
      rw [Option.bind_some, hq2] at hn
      obtain ⟨l1, q1⟩ := r
      obtain ⟨l2, q2⟩ := r2
      have z1 := (parts_len hq).1
      have z2 := (parts_len hq2).1
      simp only [Option.map_some, Option.some.injEq, Prod.mk.injEq] at hn e1 e2
      obtain ⟨hn, rfl⟩ := hn
      match l1, z1 with
      | [b0, b1, b2, b3], _ =>
        match l2, z2 with
        | [b4, b5, b6], _ =>
          simp only [List.cons_append, List.nil_append, List.cons.injEq, and_true] at hn
          obtain ⟨rfl, rfl, rfl, rfl, rfl, rfl, rfl⟩ := hn
          refine (cmdP_copy h (by omega) (bit_hi h0 h1) e1 e2).trans ?_
          have w1 : wtP 0 [b0, b1, b2, b3] = b0 + 256 * b1 + 65536 * b2 + 16777216 * b3 := by
            simp only [wtP]
            omega
          have w2 : wtP 0 [b4, b5, b6] = b4 + 256 * b5 + 65536 * b6 := by
            simp only [wtP]
            omega
          rw [w1, w2]
/-- the law's own run of commands -/
def runF (bl ks : List Int) : Nat → Int → Option (List Int)
  | 0, _ => none
  | f + 1, p =>
    if p < ks.length then
      match cmdP ks p with
      | none => none
      | some (pl, mn, oc, q) => if oc.isNone = true ∧ (bl.length : Int) < pl + mn then none else (runF bl ks f q).map fun l => cmdOut bl (pl, mn, oc) ++ l
    else some []
def runP (bl ks : List Int) (p : Int) : Option (List Int) := runF bl ks (ks.length + 1) p
@[irreducible] def RunSt (bl ks : List Int) (T : Option (List Int)) (out : List Int) (p : Int) : Prop := ∃ f, (ks.length - p).toNat < f ∧ T = (runF bl ks f p).map fun l => out ++ l
section
variable {bl ks out : List Int} {T : Option (List Int)} {p pl mn q : Int} {oc : Option (List Int)}
theorem RunSt.start (bl ks : List Int) (h0 : 0 ≤ p) : RunSt bl ks (runP bl ks p) [] p := by
  unfold RunSt runP
  refine ⟨ks.length + 1, by omega, ?_⟩
  cases runF bl ks (ks.length + 1) p <;> simp
theorem RunSt.bad (h : RunSt bl ks T out p) (hp : p < ks.length) (hc : cmdP ks p = none) : T = none := by
  unfold RunSt at h
  obtain ⟨f, hf, rfl⟩ := h
  obtain ⟨g, rfl⟩ : ∃ g, f = g + 1 := ⟨f - 1, by omega⟩
  rw [runF, if_pos hp, hc]
  rfl
theorem RunSt.far (h : RunSt bl ks T out p) (hp : p < ks.length) (hc : cmdP ks p = some (pl, mn, none, q)) (hb : (bl.length : Int) < pl + mn) : T = none := by
  unfold RunSt at h
  obtain ⟨f, hf, rfl⟩ := h
  obtain ⟨g, rfl⟩ : ∃ g, f = g + 1 := ⟨f - 1, by omega⟩
  rw [runF, if_pos hp, hc]
  dsimp only
  rw [if_pos ⟨rfl, hb⟩]
  rfl
theorem RunSt.step (h : RunSt bl ks T out p) (hp : p < ks.length) (hc : cmdP ks p = some (pl, mn, oc, q)) (hpq : p < q) (h1 : ¬ (oc.isNone = true ∧ (bl.length : Int) < pl + mn)) : RunSt bl ks T (out ++ cmdOut bl (pl, mn, oc)) q := by
  unfold RunSt at h ⊢
  obtain ⟨f, hf, rfl⟩ := h
  obtain ⟨g, rfl⟩ : ∃ g, f = g + 1 := ⟨f - 1, by omega⟩
  refine ⟨g, by omega, ?_⟩
  rw [runF, if_pos hp, hc]
  dsimp only
  rw [if_neg h1, Option.map_map]
  congr 1
  funext l
  simp
theorem RunSt.fin (h : RunSt bl ks T out p) (hp : ¬ p < ks.length) : T = some out := by
  unfold RunSt at h
  obtain ⟨f, hf, rfl⟩ := h
  obtain ⟨g, rfl⟩ : ∃ g, f = g + 1 := ⟨f - 1, by omega⟩
  rw [runF, if_neg hp]
  simp
end
/-- what the law takes for right -/
def appliedP (bl ks : List Int) : Option (List Int) :=
  match headP ks with
  | none => none
  | some (n, sz, p) => if n = bl.length then (match runP bl ks p with
      | none => none
      | some out => if (out.length : Int) = sz then some out else none) else none
theorem getD_nonneg {ks : List Int} (hk : KBa.In ks) (i : Nat) : 0 ≤ ks.getD i 0 := by
  rw [List.getD_eq_getElem?_getD]
  cases h : ks[i]? with
  | none => exact Int.le_refl _
  | some x => exact (hk x (List.mem_of_getElem? h)).1
theorem numP_pos {ks : List Int} (hk : KBa.In ks) {fl fb : Int} : ∀ {n k : Nat} {p c q : Int}, numP ks fl fb k n p = some (c, q) → 0 ≤ c ∧ p ≤ q
  | 0, k, p, c, q, h => by cases h; exact ⟨Int.le_refl _, Int.le_refl _⟩
  | n + 1, k, p, c, q, h => by
    rw [numP] at h
    split at h
    · exact numP_pos hk h
    · split at h
      · obtain ⟨r, hr, e⟩ := Option.map_eq_some_iff.mp h
        cases e
        have := numP_pos hk (c := r.1) (q := r.2) hr
        have h1 : 0 ≤ ks.getD p.toNat 0 * 2 ^ (8 * k) := Int.mul_nonneg (getD_nonneg hk _) (Int.le_of_lt (Int.pow_pos (by decide)))
        exact ⟨by omega, by omega⟩
      · cases h
theorem cmdP_pos {ks : List Int} (hk : KBa.In ks) {p pl mn q : Int} {oc : Option (List Int)} (h0 : 0 ≤ p) (h : cmdP ks p = some (pl, mn, oc, q)) : p < ks.length ∧ p < q ∧ 0 ≤ mn ∧ (∀ o, oc = some o → (o.length : Int) = mn) ∧ (oc = none → 0 ≤ pl) := by
  unfold cmdP at h
  have hw := getD_nonneg hk p.toNat
  split at h
  · rename_i hp
    dsimp only at h
    split at h
    · cases h
    · split at h
      · split at h
        · cases h
          refine ⟨hp, by omega, hw, (fun o ho => ?_), (fun ho => by cases ho)⟩
          cases ho
          rw [List.length_take, List.length_drop]
          omega
        · cases h
      · split at h
        · cases h
        · rename_i pl' q' h1
          split at h
          · cases h
          · rename_i mn' r' h2
            cases h
            have z1 := numP_pos hk h1
            have z2 := numP_pos hk h2
            refine ⟨hp, by omega, ?_, (fun o ho => by cases ho), fun _ => z1.1⟩
            split <;> omega
  · cases h
theorem cmdOut_is {bl : List Int} {pl mn : Int} {oc : Option (List Int)} (hm : 0 ≤ mn) (ho : ∀ o, oc = some o → (o.length : Int) = mn) (hn : oc = none → 0 ≤ pl) (hb : ¬ (oc.isNone = true ∧ (bl.length : Int) < pl + mn)) : ((cmdOut bl (pl, mn, oc)).length : Int) = mn := by
  unfold cmdOut
  cases oc with
  | some o => exact ho o rfl
  | none =>
    dsimp only
    have h0 := hn rfl
    have h1 : pl + mn ≤ bl.length := by
      rcases Int.lt_or_le (bl.length : Int) (pl + mn) with h | h
      · exact absurd ⟨rfl, h⟩ hb
      · exact h
    rw [clip_in h0 (by omega), clip_in (by omega) h1, List.length_take, List.length_drop]
    omega
theorem cmds_run {bl ks : List Int} (hk : KBa.In ks) {sz : Int} : ∀ (f : Nat) (p told : Int), 0 ≤ p → told ≤ sz → (cmdsF ks bl.length sz f p told).map (fun l => (l.map (cmdOut bl)).flatten) =
    (match runF bl ks f p with | none => none | some out => if told + (out.length : Int) = sz then some out else none)
  | 0, p, told, h0, h1 => rfl
  | f + 1, p, told, h0, h1 => by
    rw [cmdsF, runF]
    by_cases hp : p < ks.length
    · rw [if_pos hp, if_pos hp]
      cases hc : cmdP ks p with
      | none => rfl
      | some r =>
        obtain ⟨pl, mn, oc, q⟩ := r
        dsimp only
        obtain ⟨_, hpq, hm, ho, hn⟩ := cmdP_pos hk h0 hc
        by_cases hb : oc.isNone = true ∧ (bl.length : Int) < pl + mn
        · rw [if_pos hb, if_pos hb]
          rfl
        · rw [if_neg hb, if_neg hb]
          have hl := cmdOut_is hm ho hn hb
          by_cases hs : sz < told + mn
          · rw [if_pos hs]
            cases runF bl ks f q with
            | none => rfl
            | some l =>
              show none = if told + ((cmdOut bl (pl, mn, oc) ++ l).length : Int) = sz then _ else _
              rw [if_neg (by rw [List.length_append]; omega)]
          · rw [if_neg hs, Option.map_map]
            have ih := cmds_run (bl := bl) (sz := sz) hk f q (told + mn) (by omega) (by omega)
            have e1 : ((fun l => (l.map (cmdOut bl)).flatten) ∘ fun l => (pl, mn, oc) :: l) = fun l => cmdOut bl (pl, mn, oc) ++ (l.map (cmdOut bl)).flatten := by
              funext l
              simp
            have e2 : (fun l : List (Int × Int × Option (List Int)) => cmdOut bl (pl, mn, oc) ++ (l.map (cmdOut bl)).flatten) = (fun l => cmdOut bl (pl, mn, oc) ++ l) ∘ fun l => (l.map (cmdOut bl)).flatten := rfl
            rw [e1, e2, ← Option.map_map, ih]
            cases runF bl ks f q with
            | none => rfl
            | some l =>
              show Option.map _ (if told + mn + (l.length : Int) = sz then some l else none) = if told + ((cmdOut bl (pl, mn, oc) ++ l).length : Int) = sz then some (cmdOut bl (pl, mn, oc) ++ l) else none
              rw [List.length_append]
              by_cases he : told + mn + (l.length : Int) = sz
              · rw [if_pos he, if_pos (by omega)]
                rfl
              · rw [if_neg he, if_neg (by omega)]
                rfl
    · rw [if_neg hp, if_neg hp]
      dsimp only
      by_cases hs : told < sz
      · rw [if_pos hs, if_neg (by simp; omega)]
        rfl
      · rw [if_neg hs, if_pos (by simp; omega)]
        rfl
theorem headP_pos {ks : List Int} (hk : KBa.In ks) {n sz p : Int} (h : headP ks = some (n, sz, p)) : 0 ≤ n ∧ 0 ≤ sz ∧ 0 ≤ p := by
  unfold headP at h
  split at h
  · cases h
  · rename_i n' r h1
    split at h
    · cases h
    · rename_i m' r2 h2
      cases h
      have l1 := szAt_len h1
      have l2 := szAt_len h2
      have hr := szAt_drop h1
      refine ⟨szAt_nonneg (fun x hx => (hk x hx).1) h1, szAt_nonneg (fun x hx => ?_) h2, by omega⟩
      rw [hr] at hx
      exact (hk x (List.mem_of_mem_drop hx)).1
theorem apply_is {bl ks : List Int} (hk : KBa.In ks) : applyP bl ks = appliedP bl ks := by
  unfold applyP appliedP
  cases hh : headP ks with
  | none => rfl
  | some r =>
    obtain ⟨n, sz, p⟩ := r
    dsimp only
    obtain ⟨_, hs, hp⟩ := headP_pos hk hh
    by_cases hn : n = bl.length
    · rw [if_pos hn, if_pos hn, hn]
      refine (cmds_run hk (ks.length + 1) p 0 hp hs).trans ?_
      unfold runP
      cases runF bl ks (ks.length + 1) p with
      | none => rfl
      | some out => simp only [Int.zero_add]
    · rw [if_neg hn, if_neg hn]

/-- a page is octets or a list of ints -/
def PageAt (h : Heap) (pv : Value) (ks : List Int) : Prop := (∃ b t, pv = .bytes b t ∧ KBw.bInts b = ks) ∨ ∃ d vs, pv = .ref d ∧ h.IsList d (List.toArray vs) ∧ IntsAre vs ks
def PageOf (pv : Value) (led : List (Addr × Obj)) (ks : List Int) : Prop := (∃ b t, pv = .bytes b t ∧ KBw.bInts b = ks ∧ led = []) ∨ ∃ d vs c, pv = .ref d ∧ led = [(d, W.listOf (List.toArray vs) c)] ∧ IntsAre vs ks
theorem PageOf.at {h₀ h : Heap} {L : Addr} {pv : Value} {led news : List (Addr × Obj)} {ks : List Int} (P : PageOf pv led ks) (N : News h₀ L h news) (hl : ∀ q ∈ led, q ∈ news) : PageAt h pv ks := by
  rcases P with ⟨b, t, rfl, hb, _⟩ | ⟨d, vs, c, rfl, rfl, hI⟩
  · exact .inl ⟨b, t, rfl, hb⟩
  · exact .inr ⟨d, vs, rfl, News.isList N (hl _ (.head _)), hI⟩
theorem PageOf.plain {pv : Value} {led : List (Addr × Obj)} {ks : List Int} (P : PageOf pv led ks) : ∀ p ∈ led, offIter p := by
  rcases P with ⟨b, t, rfl, hb, rfl⟩ | ⟨d, vs, c, rfl, rfl, hI⟩
  · exact fun _ hp => nomatch hp
  · intro p hp
    rw [List.mem_singleton.mp hp]
    exact ⟨by simp [W.listOf], by simp [W.listOf]⟩
section
variable {prog : Program} {w : World} {A : Around} {E : Value → Shared → Prop} {s : Shared} {pv : Value} {ks : List Int} {Q : Value → Shared → Prop} {h₀ : Heap} {L : Addr} {m : Str → Option Value} {news : List (Addr × Obj)}
theorem page_len (hP : PageAt s.heap pv ks) (hz : ks.length ≤ 2000) (h : ∀ t tk, Q (.int (ks.length : Nat) t) { s with toks := tk }) : wpAny (model prog w) A (call (.builtin "len") [pv]) Q E s := by
  rcases hP with ⟨b, t, rfl, rfl⟩ | ⟨d, vs, rfl, hl, hI⟩
  · rw [KBw.ints_length] at hz h
    exact len_bytes (by omega) (h _ _)
  · exact len_ints_fit hl hI (by omega) (h _ _)
theorem page_item {value slice : Expr} {k : Int} {u : Tok} (hP : PageAt s.heap pv ks) (hz : ks.length ≤ 2000) (hin : KBa.In ks) (h0 : 0 ≤ k) (h1 : k < ks.length)
    (h : ∀ t tk, 0 ≤ ks.getD k.toNat 0 → ks.getD k.toNat 0 < 256 → Q (.int (ks.getD k.toNat 0) t) { s with toks := tk })
    (hs1 : ∀ b t, subscripted slice false (.bytes b t) (.int k u) = operate [.bytes b t, .int k u] (getItem (.bytes b t) (.int k u))) (hg1 : ∀ b t r, letTemporaryGo value (.bytes b t) r = pure ())
    (hs2 : ∀ l, subscripted slice false (.ref l) (.int k u) = operate [.ref l, .int k u] (getItem (.ref l) (.int k u))) (hg2 : ∀ l r, letTemporaryGo value (.ref l) r = pure ()) :
    wpAny (model prog w) A (subscriptTail value slice pv (.int k u)) Q E s := by
  rcases hP with ⟨b, t, rfl, hb⟩ | ⟨d, vs, rfl, hl, hI⟩
  · exact KBw.item_K hb (by omega) h0 h1 (fun t' k' a c => h t' k' a c) (hs1 _ _) (hg1 _ _)
  · obtain ⟨ha, hb⟩ := KBw.getD_in (ks := ks) (j := k.toNat) hin
    exact item_list_ints hl hI h0 h1 (by omega) (fun t => h t _ ha hb) (hs2 _) (hg2 _)
theorem page_slice {value slice : Expr} {l u : Value} {lo hi : Int} (hP : PageAt s.heap pv ks) (F : Fr h₀ L s.heap m) (N : News h₀ L s.heap news) (hl : IsPart l (some lo)) (hu : IsPart u (some hi)) (hz : ks.length ≤ 2000) (h0 : 0 ≤ lo) (h1 : lo ≤ hi) (h2 : hi ≤ ks.length)
    (h : ∀ pv' h' tk, Fr h₀ L h' m → News h₀ L h' news → PageAt h' pv' ((ks.drop lo.toNat).take (hi - lo).toNat) → Q pv' { s with heap := h', toks := tk })
    (hs1 : ∀ b t, subscripted slice false (.bytes b t) (.ref s.heap.objs.size) = operate [.ref s.heap.objs.size, .bytes b t] (getItem (.bytes b t) (.ref s.heap.objs.size))) (hg1 : ∀ b t r, letTemporaryGo value (.bytes b t) r = pure ())
    (hs2 : ∀ l, subscripted slice false (.ref l) (.ref s.heap.objs.size) = operate [.ref s.heap.objs.size, .ref l] (getItem (.ref l) (.ref s.heap.objs.size))) (hg2 : ∀ l r, letTemporaryGo value (.ref l) r = pure ()) :
    wpAny (model prog w) A (subscriptTail value slice pv (.ref s.heap.objs.size)) Q E { s with heap := s.heap.push { cls := .type "slice", data := .fields #[l, u, .none] } } := by
  have e : hi.toNat - lo.toNat = (hi - lo).toNat := by omega
  rcases hP with ⟨b, t, rfl, hb⟩ | ⟨d, vs, rfl, hli, hI⟩
  · refine KBc.slice_K F N hb hl hu (by omega) (fun h' t' k' F' N' e' => h _ _ _ F' N' (.inl ⟨_, _, rfl, ?_⟩)) (hs1 _ _) (hg1 _ _)
    rw [e']
    show (ks.drop (clipAt ks.length lo)).take (clipAt ks.length hi - clipAt ks.length lo) = _
    rw [clip_in h0 (by omega), clip_in (by omega) h2, e]
  · refine kmk_slice_ints F N hli hl hu hI (kmk_run hI h0 (by omega)) rfl (fun D ws h' F' N' l1 hI' _ _ => ?_) (hs2 _) (hg2 _) (kmk_sz hI (by rw [sizeLine_eq]; omega))
    refine h _ _ _ F' (fun q hq => N' q (.tail _ hq)) (.inr ⟨_, _, rfl, News.isList N' (.head _), ?_⟩)
    rw [show (hi - lo).toNat = min hi.toNat ks.length - lo.toNat from by omega]
    exact hI'
theorem page_list (hP : PageAt s.heap pv ks) (hh : A.handled = none) (F : Fr h₀ L s.heap m) (N : News h₀ L s.heap news) (hz : ks.length ≤ 2000)
    (h : ∀ D us c h' tk, Fr h₀ L h' m → News h₀ L h' ((D, W.listOf (List.toArray us) c) :: news) → (∀ p ∈ news, p.1 < D) → IntsAre us ks → Q (.ref D) { s with heap := h', toks := tk }) :
    wpAny (model prog w) A (call (.type "list") [pv]) Q E s := by
  rcases hP with ⟨b, t, rfl, hb⟩ | ⟨d, vs, rfl, hl, hI⟩
  · exact lb_list hb hh F N (by omega) h
  · exact list_copyK F N hl (fun D c h' F' N' l1 => h D _ c h' _ F' N' l1 hI) (by rw [List.size_toArray, hI.length, sizeLine_eq]; omega)
end

theorem bitF (w : Int) (i : Nat) : (w.fdiv (2 ^ (i : Int).toNat)).fmod 2 = w / 2 ^ i % 2 := by
  rw [Int.toNat_natCast, Int.fdiv_eq_ediv_of_nonneg _ (Int.le_of_lt (Int.pow_pos (by decide))), Int.fmod_eq_emod_of_nonneg _ (by decide)]
theorem len7 {l : List Int} (h : l.length = 7) : ∃ a0 a1 a2 a3 a4 a5 a6, l = [a0, a1, a2, a3, a4, a5, a6] := by
  match l, h with
  | [a0, a1, a2, a3, a4, a5, a6], _ => exact ⟨a0, a1, a2, a3, a4, a5, a6, rfl⟩
theorem ints7 {us : List Value} {a0 a1 a2 a3 a4 a5 a6 : Int} (h : IntsAre us [a0, a1, a2, a3, a4, a5, a6]) : ∃ t0 t1 t2 t3 t4 t5 t6, us = [.int a0 t0, .int a1 t1, .int a2 t2, .int a3 t3, .int a4 t4, .int a5 t5, .int a6 t6] := by
  cases h with | cons _ _ h => cases h with | cons _ _ h => cases h with | cons _ _ h => cases h with | cons _ _ h => cases h with | cons _ _ h => cases h with | cons _ _ h => cases h with | cons _ _ h => cases h with | nil => exact ⟨_, _, _, _, _, _, _, rfl⟩
theorem in7 {a0 a1 a2 a3 a4 a5 a6 : Int} (h : KBa.In [a0, a1, a2, a3, a4, a5, a6]) : (0 ≤ a0 ∧ a0 < 256) ∧ (0 ≤ a1 ∧ a1 < 256) ∧ (0 ≤ a2 ∧ a2 < 256) ∧ (0 ≤ a3 ∧ a3 < 256) ∧ (0 ≤ a4 ∧ a4 < 256) ∧ (0 ≤ a5 ∧ a5 < 256) ∧ (0 ≤ a6 ∧ a6 < 256) := by
  unfold KBa.In at h
  simpa using h
theorem news_drop2 {h₀ h : Heap} {L : Addr} {p q : Addr × Obj} {r : List (Addr × Obj)} (N : News h₀ L h (p :: q :: r)) : News h₀ L h (p :: r) := fun x hx => N x (by
  rcases List.mem_cons.mp hx with rfl | hx
  · exact .head _
  · exact .tail _ (.tail _ hx))
theorem len_part {α : Type} {l : List α} {i j n : Nat} (h : l.length ≤ n) : ((l.drop i).take j).length ≤ n := by
  rw [List.length_take, List.length_drop]
  omega
theorem len_lo {n k : Nat} {p : Int} (h : n ≤ p.toNat * 2000) (h1 : p ≤ k) (h2 : k ≤ 2000) : n ≤ 4000000 := by omega
theorem len_turn {α : Type} {l r : List α} {p q : Int} (h : l.length ≤ p.toNat * 2000) (h0 : 0 ≤ p) (h1 : p < q) (h2 : r.length ≤ 2000) : (l ++ r).length ≤ q.toNat * 2000 := by
  rw [List.length_append]
  omega
theorem in_app9 {l r : List Int} (h : KBa.In l) (h2 : KBa.In r) : KBa.In (l ++ r) := fun x hx => (List.mem_append.mp hx).elim (h x) (h2 x)
theorem fold9 {M : Model} {A : Around} {env : Env} {b : List Stmt} {Q : Flow → Shared → Prop} {E : Value → Shared → Prop} {s : Shared} (h : let M9 := M; let A9 := A; let e9 := env; wpAny M9 A9 (execs b e9) Q E s) : wpAny M A (execs b env) Q E s := h
theorem pr42 {α β γ δ ε ζ : Type} {P : (α × β × γ × δ) × (ε × ζ) → Prop} (h : ∀ a b c d e f, P ((a, b, c, d), (e, f))) : ∀ x, P x := fun _ => h _ _ _ _ _ _
theorem pr32 {α β γ ε ζ : Type} {P : (α × β × γ) × (ε × ζ) → Prop} (h : ∀ a b c e f, P ((a, b, c), (e, f))) : ∀ x, P x := fun _ => h _ _ _ _ _
theorem spec_lrun {w : World} {mean : ExcName → Option Value} {mg mb : Str → Option Value} {a : Array UInt8} {pv : Value} {led : List (Addr × Obj)} {bl ks : List Int} {p0 : Int} {ta t : Tok}
    (ha : KBw.bInts a = bl) (hpg : PageOf pv led ks) (hkin : KBa.In ks) (hza : bl.length ≤ 2000) (hz : ks.length ≤ 2000) (h0 : 0 ≤ p0) (h1 : p0 ≤ ks.length) :
    Spec w mean mg mb 183 4 32 led [.bytes a ta, pv, .int p0 t] (fun r o => ((runP bl ks p0 = none ∧ r = .none) ∨ ∃ c out tc, runP bl ks p0 = some out ∧ KBw.bInts c = out ∧ out.length ≤ ks.length * 2000 ∧ r = .bytes c tc) ∧ o = led) False := by
  unfold Spec
  w_top off
  intro dp un gd cn cs fa ccd cl outer A₀ base h₀ L m rest s R B F X N hap T hk hd hu hret hbad
  ((k_dflt (refine' code_own ?k1N1 ?k2N1 ?k3N1 ?k4N1 ?kapN1 ?k5N1 ?kAN1 ?kFN1 ?kKN1 ?k6N1 ?k7N1 ?k8N1 ?k9N1 ?kBN1 ?_ ?c2N1 ?c3N1 ?c4N1 ?c5N1; (case kAN1 => exact rfl); (case kFN1 => exact rfl); (case kKN1 => assumption); (case k1N1 => k_asm); (case k2N1 => k_asm); (case k3N1 => k_asm); (case k4N1 => k_asm); (case kapN1 => k_asm); (case k5N1 => k_asm); (case k6N1 => k_is); (case k7N1 => k_is); (case k8N1 => ktr_room); (case k9N1 => first | exact BindsTo.of_eq rfl | exact binds_K (by k_in) rfl (by k_is) rfl rfl rfl); (case c5N1 => decide); (case kBN1 => exact locs rfl); (case c2N1 => exact rfl); (case c3N1 => exact rfl); (case c4N1 => exact rfl); k_whole)))
  intro g' L' h' FG' F' N' B' X' T' hrest
  (try dsimp only)
  (try k_fold)
  refine fold9 ?_
  intro M9 A9 e9
  have hMk := kstMark
  have hbin : KBa.In bl := fun x hx => KBw.ints_in (b := a) (ha ▸ hx)
  (repeat' (first | (k_unfold; (try dsimp only)) | ((with_reducible show wpAny _ _ (call (Value.type "list") _) _ _ _); k_here; (refine' page_list (by assumption) rfl (by k_asm) (by k_asm) ?pzN2 ?_); (case pzN2 => first | exact Mine.len_part (by assumption) | (rw [List.length_take, List.length_drop]; omega)); intro D9z us9z c9z h9z tk9z F9z N9z l19z hI9z; (try k_lt l19z); (try k_sweep)) | ((with_reducible show wpAny _ _ (subscriptTail _ _ _ _) _ _ _); k_here; (with_reducible show wpAny _ _ (subscriptTail _ (Expr.Slice _ _ none _) _ (Value.ref _)) _ _ _); (with_reducible rename Fr _ _ _ _ => F9z); (with_reducible rename News _ _ _ _ => N9z); (refine' page_slice (s := ⟨_, _, _, _, _⟩) (PageOf.at (by assumption) N9z ?plN2) F9z N9z (by constructor) (by constructor) ?pzN2 ?p0N2 ?p1N2 ?p2N2 ?_ ?s1N2 ?g1N2 ?s2N2 ?g2N2); (case plN2 => (intro q9 hq9; repeat' (first | exact hq9 | refine List.mem_cons_of_mem _ ?_))); (case pzN2 => assumption); (case p0N2 => omega); (case p1N2 => omega); (case p2N2 => omega); (case s1N2 => (intro _ _; with_unfolding_all rfl)); (case g1N2 => (intro _ _ _; with_unfolding_all rfl)); (case s2N2 => (intro _; with_unfolding_all rfl)); (case g2N2 => (intro _ _; with_unfolding_all rfl)); intro _ _ _ F9z N9z pgA) | ((with_reducible show wpAny _ _ (subscriptTail _ _ _ _) _ _ _); k_here; (refine' page_item (PageOf.at (by assumption) (by assumption) ?plN2) ?pzN2 ?pinN2 ?p0N2 ?p1N2 ?_ ?s1N2 ?g1N2 ?s2N2 ?g2N2); (case plN2 => (intro q9 hq9; repeat' (first | exact hq9 | refine List.mem_cons_of_mem _ ?_))); (case pzN2 => assumption); (case pinN2 => assumption); (case p0N2 => omega); (case p1N2 => omega); (case s1N2 => (intro _ _; with_unfolding_all rfl)); (case g1N2 => (intro _ _ _; with_unfolding_all rfl)); (case s2N2 => (intro _; with_unfolding_all rfl)); (case g2N2 => (intro _ _; with_unfolding_all rfl)); intro _ _ pgLo pgHi) | ((with_reducible show wpAny _ _ (call (Value.builtin "len") _) _ _ _); k_here; (refine' page_len (PageOf.at (by assumption) (by assumption) ?plN2) ?pzN2 ?_); (case plN2 => (intro q9 hq9; repeat' (first | exact hq9 | refine List.mem_cons_of_mem _ ?_))); (case pzN2 => assumption); intro _ _) | ((with_reducible show wpAny _ _ (call (Value.ref _) _) _ _ _); (fail_if_success (with_reducible show wpAny _ _ (call (Value.ref 87) _) _ _ _)); (fail_if_success ((with_reducible rename GoIn => hgo9); (with_reducible show wpAny _ _ (call (Value.ref 137) _) _ _ _))); refine Stop.mk ?_) | (k_here; (with_reducible show wpAny _ _ (call (Value.type "list") [Value.bytes _ _]) _ _ _); k_dflt (refine' lb_list ?kbaiN2 ?kbahN2 ?kbaFN2 ?kbaNN2 ?kbanN2 ?_; (case kbaFN2 => k_asm); (case kbaNN2 => k_asm); (case kbahN2 => rfl); (case kbaiN2 => kba_ints); (case kbanN2 => kba_size)); intro D9z us9z c9z h9z tk9z F9z N9z l19z hI9z; (try k_lt l19z); (try k_sweep)) | walk1 | (dsimp only; first | ((with_reducible show wpAny _ _ (call (Value.ref _) _) _ _ _); (fail_if_success (with_reducible show wpAny _ _ (call (Value.ref 87) _) _ _ _)); (fail_if_success ((with_reducible rename GoIn => hgo9); (with_reducible show wpAny _ _ (call (Value.ref 137) _) _ _ _))); refine Stop.mk ?_) | walk1)))
  unfold Stop
  rename Fr _ _ _ _ => F9
  rename News _ _ _ _ => N9
  (try dsimp only)
  refine' ksw_while (σ := (Addr × List Value × List Int × Nat) × (Int × Tok)) (fun c => (c.1.1, W.listOf c.1.2.1.toArray c.1.2.2.2) :: led) (fun c => [(Str.ofString "out", .ref c.1.1), (Str.ofString "at", .int c.2.1 c.2.2)])
      (fun c => IntsAre c.1.2.1 c.1.2.2.1) [Str.ofString "word", Str.ofString "parts", Str.ofString "k", Str.ofString "begin", Str.ofString "size"]
      (fun c => 0 ≤ c.2.1 ∧ c.2.1 ≤ ks.length ∧ KBa.In c.1.2.2.1 ∧ c.1.2.2.1.length ≤ c.2.1.toNat * 2000 ∧ RunSt bl ks (runP bl ks p0) c.1.2.2.1 c.2.1) (fun c => (ks.length - c.2.1).toNat) ((_, [], [], _), (p0, t)) F9 N9 ?kf ?kk ?kp ?_ ?hE
  case hE => passes_own
  case kf => exact IntsAre.nil
  case kk => kst_all
  case kp => exact ⟨h0, h1, (fun x hx => nomatch hx), Nat.zero_le _, RunSt.start _ _ h0⟩
  refine pr42 fun od us l nn p tp u h8 tk8 hF hp8 F8 N8 => ?_
  (try dsimp only at hF hp8 F8 N8)
  clear F9 N9
  k_fold
  obtain ⟨p0', p1, hin, hlen, hP⟩ := hp8
  have hl9 : l.length ≤ 4000000 := len_lo hlen p1 hz
  (repeat' (first | (k_unfold; (try dsimp only)) | ((with_reducible show wpAny _ _ (call (Value.type "list") _) _ _ _); k_here; (refine' page_list (by assumption) rfl (by k_asm) (by k_asm) ?pzN3 ?_); (case pzN3 => first | exact Mine.len_part (by assumption) | (rw [List.length_take, List.length_drop]; omega)); intro D9z us9z c9z h9z tk9z F9z N9z l19z hI9z; (try k_lt l19z); (try k_sweep)) | ((with_reducible show wpAny _ _ (subscriptTail _ _ _ _) _ _ _); k_here; (with_reducible show wpAny _ _ (subscriptTail _ (Expr.Slice _ _ none _) _ (Value.ref _)) _ _ _); (with_reducible rename Fr _ _ _ _ => F9z); (with_reducible rename News _ _ _ _ => N9z); (refine' page_slice (s := ⟨_, _, _, _, _⟩) (PageOf.at (by assumption) N9z ?plN3) F9z N9z (by constructor) (by constructor) ?pzN3 ?p0N3 ?p1N3 ?p2N3 ?_ ?s1N3 ?g1N3 ?s2N3 ?g2N3); (case plN3 => (intro q9 hq9; repeat' (first | exact hq9 | refine List.mem_cons_of_mem _ ?_))); (case pzN3 => assumption); (case p0N3 => omega); (case p1N3 => omega); (case p2N3 => omega); (case s1N3 => (intro _ _; with_unfolding_all rfl)); (case g1N3 => (intro _ _ _; with_unfolding_all rfl)); (case s2N3 => (intro _; with_unfolding_all rfl)); (case g2N3 => (intro _ _; with_unfolding_all rfl)); intro _ _ _ F9z N9z pgA) | ((with_reducible show wpAny _ _ (subscriptTail _ _ _ _) _ _ _); k_here; (refine' page_item (PageOf.at (by assumption) (by assumption) ?plN3) ?pzN3 ?pinN3 ?p0N3 ?p1N3 ?_ ?s1N3 ?g1N3 ?s2N3 ?g2N3); (case plN3 => (intro q9 hq9; repeat' (first | exact hq9 | refine List.mem_cons_of_mem _ ?_))); (case pzN3 => assumption); (case pinN3 => assumption); (case p0N3 => omega); (case p1N3 => omega); (case s1N3 => (intro _ _; with_unfolding_all rfl)); (case g1N3 => (intro _ _ _; with_unfolding_all rfl)); (case s2N3 => (intro _; with_unfolding_all rfl)); (case g2N3 => (intro _ _; with_unfolding_all rfl)); intro _ _ pgLo pgHi) | ((with_reducible show wpAny _ _ (call (Value.builtin "len") _) _ _ _); k_here; (refine' page_len (PageOf.at (by assumption) (by assumption) ?plN3) ?pzN3 ?_); (case plN3 => (intro q9 hq9; repeat' (first | exact hq9 | refine List.mem_cons_of_mem _ ?_))); (case pzN3 => assumption); intro _ _) | ((with_reducible show wpAny _ _ (call (Value.ref _) _) _ _ _); (fail_if_success (with_reducible show wpAny _ _ (call (Value.ref 87) _) _ _ _)); (fail_if_success ((with_reducible rename GoIn => hgo9); (with_reducible show wpAny _ _ (call (Value.ref 137) _) _ _ _))); refine Stop.mk ?_) | (k_here; (with_reducible show wpAny _ _ (call (Value.type "list") [Value.bytes _ _]) _ _ _); k_dflt (refine' lb_list ?kbaiN3 ?kbahN3 ?kbaFN3 ?kbaNN3 ?kbanN3 ?_; (case kbaFN3 => k_asm); (case kbaNN3 => k_asm); (case kbahN3 => rfl); (case kbaiN3 => kba_ints); (case kbanN3 => kba_size)); intro D9z us9z c9z h9z tk9z F9z N9z l19z hI9z; (try k_lt l19z); (try k_sweep)) | walk1 | (dsimp only; first | ((with_reducible show wpAny _ _ (call (Value.ref _) _) _ _ _); (fail_if_success (with_reducible show wpAny _ _ (call (Value.ref 87) _) _ _ _)); (fail_if_success ((with_reducible rename GoIn => hgo9); (with_reducible show wpAny _ _ (call (Value.ref 137) _) _ _ _))); refine Stop.mk ?_) | walk1)))
  · unfold Stop
    rename ks.getD p.toNat 0 = 0 => hz0
    rename p < (ks.length : Int) => hlt
    rename Fr g' L' _ _ => F9
    have hbad9 := hP.bad hlt (cmdP_zero hlt hz0)
    rename News g' L' _ _ => N9
    exact LeaveR.ret (own' := led) hret F9 (fun q hq => N9 q (by repeat' (first | exact hq | refine List.mem_cons_of_mem _ ?_))) ⟨.inl ⟨hbad9, rfl⟩, rfl⟩
  · unfold Stop
    rename ks.getD p.toNat 0 ≠ 0 => hz0
    rename ks.getD p.toNat 0 < 128 => hz1
    rename p < (ks.length : Int) => hlt
    rename Fr g' L' _ _ => F9
    have hbad9 := hP.bad hlt (cmdP_cut hlt hz0 (bit_lo (by omega) hz1) (by omega))
    rename News g' L' _ _ => N9
    exact LeaveR.ret (own' := led) hret F9 (fun q hq => N9 q (by repeat' (first | exact hq | refine List.mem_cons_of_mem _ ?_))) ⟨.inl ⟨hbad9, rfl⟩, rfl⟩
  · unfold Stop
    rename ks.getD p.toNat 0 ≠ 0 => hz0
    rename ks.getD p.toNat 0 < 128 => hz1
    rename p < (ks.length : Int) => hlt
    rename Fr g' L' _ _ => F9
    rename News g' L' _ _ => N9
    rename IntsAre _ (l ++ _) => hI9
    have hc := cmdP_ins hlt hz0 (bit_lo (by omega) hz1) (by omega)
    have st := hP.step hlt hc (by omega) (fun h => nomatch h.1)
    rw [show p + 1 + ks.getD p.toNat 0 - (p + 1) = ks.getD p.toNat 0 from by omega] at hI9
    have hq9 : p < p + 1 + ks.getD p.toNat 0 := by omega
    exact ksw_end ((_, _, _, _), (_, _)) F9 N9 (by kst_in) hI9 (by kst_all) (by ((intro z9 h29 h39; (try simp only [List.forall_mem_cons, List.not_mem_nil, false_implies, implies_true, and_true, ne_eq] at h29); (try simp only [List.contains_cons, List.contains_nil, Bool.or_false, Bool.or_eq_false_iff, beq_eq_false_iff_ne, ne_eq] at h39); (try dsimp only); first | rfl | (simp [h29, h39, kstB]; done) | (simp [h29, kstB]; done) | (simp [h39, kstB]; done) | (simp [kstB]; done)))) ⟨Int.le_of_lt (Int.lt_of_le_of_lt p0' hq9), by dsimp only; omega, in_app9 hin fun x hx => hkin x (List.mem_of_mem_drop (List.mem_of_mem_take hx)), len_turn hlen p0' hq9 (len_part hz), st⟩ (om_dec hlt hq9)
  · unfold Stop
    rename ¬ ks.getD p.toNat 0 < 128 => hz1
    rename ks.getD p.toNat 0 < 256 => hz2
    rename p < (ks.length : Int) => hlt
    rename Fr _ _ _ _ => F9
    rename News _ _ _ _ => N9
    refine For_invVF F9 rfl rfl ?_
    (repeat' (first | (k_unfold; (try dsimp only)) | ((with_reducible show wpAny _ _ (call (Value.type "list") _) _ _ _); k_here; (refine' page_list (by assumption) rfl (by k_asm) (by k_asm) ?pzN4 ?_); (case pzN4 => first | exact Mine.len_part (by assumption) | (rw [List.length_take, List.length_drop]; omega)); intro D9z us9z c9z h9z tk9z F9z N9z l19z hI9z; (try k_lt l19z); (try k_sweep)) | ((with_reducible show wpAny _ _ (subscriptTail _ _ _ _) _ _ _); k_here; (with_reducible show wpAny _ _ (subscriptTail _ (Expr.Slice _ _ none _) _ (Value.ref _)) _ _ _); (with_reducible rename Fr _ _ _ _ => F9z); (with_reducible rename News _ _ _ _ => N9z); (refine' page_slice (s := ⟨_, _, _, _, _⟩) (PageOf.at (by assumption) N9z ?plN4) F9z N9z (by constructor) (by constructor) ?pzN4 ?p0N4 ?p1N4 ?p2N4 ?_ ?s1N4 ?g1N4 ?s2N4 ?g2N4); (case plN4 => (intro q9 hq9; repeat' (first | exact hq9 | refine List.mem_cons_of_mem _ ?_))); (case pzN4 => assumption); (case p0N4 => omega); (case p1N4 => omega); (case p2N4 => omega); (case s1N4 => (intro _ _; with_unfolding_all rfl)); (case g1N4 => (intro _ _ _; with_unfolding_all rfl)); (case s2N4 => (intro _; with_unfolding_all rfl)); (case g2N4 => (intro _ _; with_unfolding_all rfl)); intro _ _ _ F9z N9z pgA) | ((with_reducible show wpAny _ _ (subscriptTail _ _ _ _) _ _ _); k_here; (refine' page_item (PageOf.at (by assumption) (by assumption) ?plN4) ?pzN4 ?pinN4 ?p0N4 ?p1N4 ?_ ?s1N4 ?g1N4 ?s2N4 ?g2N4); (case plN4 => (intro q9 hq9; repeat' (first | exact hq9 | refine List.mem_cons_of_mem _ ?_))); (case pzN4 => assumption); (case pinN4 => assumption); (case p0N4 => omega); (case p1N4 => omega); (case s1N4 => (intro _ _; with_unfolding_all rfl)); (case g1N4 => (intro _ _ _; with_unfolding_all rfl)); (case s2N4 => (intro _; with_unfolding_all rfl)); (case g2N4 => (intro _ _; with_unfolding_all rfl)); intro _ _ pgLo pgHi) | ((with_reducible show wpAny _ _ (call (Value.builtin "len") _) _ _ _); k_here; (refine' page_len (PageOf.at (by assumption) (by assumption) ?plN4) ?pzN4 ?_); (case plN4 => (intro q9 hq9; repeat' (first | exact hq9 | refine List.mem_cons_of_mem _ ?_))); (case pzN4 => assumption); intro _ _) | ((with_reducible show wpAny _ _ (call (Value.ref _) _) _ _ _); (fail_if_success (with_reducible show wpAny _ _ (call (Value.ref 87) _) _ _ _)); (fail_if_success ((with_reducible rename GoIn => hgo9); (with_reducible show wpAny _ _ (call (Value.ref 137) _) _ _ _))); refine Stop.mk ?_) | (k_here; (with_reducible show wpAny _ _ (call (Value.type "list") [Value.bytes _ _]) _ _ _); k_dflt (refine' lb_list ?kbaiN4 ?kbahN4 ?kbaFN4 ?kbaNN4 ?kbanN4 ?_; (case kbaFN4 => k_asm); (case kbaNN4 => k_asm); (case kbahN4 => rfl); (case kbaiN4 => kba_ints); (case kbanN4 => kba_size)); intro D9z us9z c9z h9z tk9z F9z N9z l19z hI9z; (try k_lt l19z); (try k_sweep)) | walk1 | (dsimp only; first | ((with_reducible show wpAny _ _ (call (Value.ref _) _) _ _ _); (fail_if_success (with_reducible show wpAny _ _ (call (Value.ref 87) _) _ _ _)); (fail_if_success ((with_reducible rename GoIn => hgo9); (with_reducible show wpAny _ _ (call (Value.ref 137) _) _ _ _))); refine Stop.mk ?_) | walk1)))
    unfold Stop
    rename Fr g' L' _ _ => F9
    rename News g' L' _ _ => N9
    rename IsRange _ _ _ _ _ _ _ _ => R9
    have N99 := news_drop2 N9
    refine free_range (n := 7) (σ := (List Value × List Int × Nat) × (Int × Tok)) (fun c => (_, W.listOf c.1.1.toArray c.1.2.2) :: (od, W.listOf us.toArray nn) :: led) (fun c => [(Str.ofString "at", .int c.2.1 c.2.2)]) []
      (fun i c => IntsAre c.1.1 c.1.2.1 ∧ KBa.In c.1.2.1 ∧ p < c.2.1 ∧ c.2.1 ≤ ks.length ∧ PartSt ks (ks.getD p.toNat 0) (p + 1) i c.1.2.1 c.2.1) (([], [], 0), (p + 1, _)) rfl R9 (by decide) (by decide) F9 N99 ?ho (by kst_all) ⟨IntsAre.nil, (fun x hx => nomatch hx), by dsimp only; omega, by dsimp only; omega, PartSt.start _ _ _⟩ ?turn ?done
    case ho =>
      intro q hq
      simp only [List.mem_cons] at hq
      rcases hq with rfl | rfl | hq
      · exact ⟨by simp [W.listOf], by simp [W.listOf]⟩
      · exact ⟨by simp [W.listOf], by simp [W.listOf]⟩
      · exact hpg.plain q hq
    case turn =>
      refine pr32 fun pus pl pn q tq i t5 u5 h5 tk5 I5 o5 hi5 hit5 hoff5 hp5 F5 N5 => ?_
      (try dsimp only at hp5 F5 N5)
      k_fold
      obtain ⟨hI5, hin5, hq0, hq1, hst5⟩ := hp5
      simp only [Int.zero_add] at F5
      clear F9 N9 N99 R9
      have hl5 : pl.length = i := hst5.len
      have hl6 : pus.length = i := hI5.length.trans hl5
      have ne5 := off_ne N5 (.head _) (.tail _ (.head _)) hit5 (hoff5 _ (.head _))
      have ne6 := off_ne N5 (.head _) (.tail _ (.tail _ (.head _))) hit5 (hoff5 _ (.tail _ (.head _)))
      (repeat' (first | (k_unfold; (try dsimp only)) | ((with_reducible show wpAny _ _ (call (Value.type "list") _) _ _ _); k_here; (refine' page_list (by assumption) rfl (by k_asm) (by k_asm) ?pzN5 ?_); (case pzN5 => first | exact Mine.len_part (by assumption) | (rw [List.length_take, List.length_drop]; omega)); intro D9z us9z c9z h9z tk9z F9z N9z l19z hI9z; (try k_lt l19z); (try k_sweep)) | ((with_reducible show wpAny _ _ (subscriptTail _ _ _ _) _ _ _); k_here; (with_reducible show wpAny _ _ (subscriptTail _ (Expr.Slice _ _ none _) _ (Value.ref _)) _ _ _); (with_reducible rename Fr _ _ _ _ => F9z); (with_reducible rename News _ _ _ _ => N9z); (refine' page_slice (s := ⟨_, _, _, _, _⟩) (PageOf.at (by assumption) N9z ?plN5) F9z N9z (by constructor) (by constructor) ?pzN5 ?p0N5 ?p1N5 ?p2N5 ?_ ?s1N5 ?g1N5 ?s2N5 ?g2N5); (case plN5 => (intro q9 hq9; repeat' (first | exact hq9 | refine List.mem_cons_of_mem _ ?_))); (case pzN5 => assumption); (case p0N5 => omega); (case p1N5 => omega); (case p2N5 => omega); (case s1N5 => (intro _ _; with_unfolding_all rfl)); (case g1N5 => (intro _ _ _; with_unfolding_all rfl)); (case s2N5 => (intro _; with_unfolding_all rfl)); (case g2N5 => (intro _ _; with_unfolding_all rfl)); intro _ _ _ F9z N9z pgA) | ((with_reducible show wpAny _ _ (subscriptTail _ _ _ _) _ _ _); k_here; (refine' page_item (PageOf.at (by assumption) (by assumption) ?plN5) ?pzN5 ?pinN5 ?p0N5 ?p1N5 ?_ ?s1N5 ?g1N5 ?s2N5 ?g2N5); (case plN5 => (intro q9 hq9; repeat' (first | exact hq9 | refine List.mem_cons_of_mem _ ?_))); (case pzN5 => assumption); (case pinN5 => assumption); (case p0N5 => omega); (case p1N5 => omega); (case s1N5 => (intro _ _; with_unfolding_all rfl)); (case g1N5 => (intro _ _ _; with_unfolding_all rfl)); (case s2N5 => (intro _; with_unfolding_all rfl)); (case g2N5 => (intro _ _; with_unfolding_all rfl)); intro _ _ pgLo pgHi) | ((with_reducible show wpAny _ _ (call (Value.builtin "len") _) _ _ _); k_here; (refine' page_len (PageOf.at (by assumption) (by assumption) ?plN5) ?pzN5 ?_); (case plN5 => (intro q9 hq9; repeat' (first | exact hq9 | refine List.mem_cons_of_mem _ ?_))); (case pzN5 => assumption); intro _ _) | ((with_reducible show wpAny _ _ (call (Value.ref _) _) _ _ _); (fail_if_success (with_reducible show wpAny _ _ (call (Value.ref 87) _) _ _ _)); (fail_if_success ((with_reducible rename GoIn => hgo9); (with_reducible show wpAny _ _ (call (Value.ref 137) _) _ _ _))); refine Stop.mk ?_) | (k_here; (with_reducible show wpAny _ _ (call (Value.type "list") [Value.bytes _ _]) _ _ _); k_dflt (refine' lb_list ?kbaiN5 ?kbahN5 ?kbaFN5 ?kbaNN5 ?kbanN5 ?_; (case kbaFN5 => k_asm); (case kbaNN5 => k_asm); (case kbahN5 => rfl); (case kbaiN5 => kba_ints); (case kbanN5 => kba_size)); intro D9z us9z c9z h9z tk9z F9z N9z l19z hI9z; (try k_lt l19z); (try k_sweep)) | walk1 | (dsimp only; first | ((with_reducible show wpAny _ _ (call (Value.ref _) _) _ _ _); (fail_if_success (with_reducible show wpAny _ _ (call (Value.ref 87) _) _ _ _)); (fail_if_success ((with_reducible rename GoIn => hgo9); (with_reducible show wpAny _ _ (call (Value.ref 137) _) _ _ _))); refine Stop.mk ?_) | walk1)))
      · unfold Stop
        rename Int.fmod _ 2 = 1 => hb9
        rename (ks.length : Int) ≤ q => hq9
        rename Fr g' L' _ _ => F9
        rw [bitF] at hb9
        have hcut := hst5.cut hi5 hb9 (by omega)
        have hbad9 := hP.bad hlt (cmdP_parts_no hlt (by omega) hz2 hcut)
        rename News g' L' _ _ => N9
        exact LeaveR.ret (own' := led) hret F9 (fun q hq => N9 q (by repeat' (first | exact hq | refine List.mem_cons_of_mem _ ?_))) ⟨.inl ⟨hbad9, rfl⟩, rfl⟩
      · unfold Stop
        rename Int.fmod _ 2 = 1 => hb9
        rename ¬ (ks.length : Int) ≤ q => hq9
        rename 0 ≤ ks.getD q.toNat 0 => hg1
        rename ks.getD q.toNat 0 < 256 => hg2
        rename Fr g' L' _ _ => F9
        rename News g' L' _ _ => N9
        rw [bitF] at hb9
        simp only [List.push_toArray] at N9
        refine free_end ((_, _, _), (_, _)) F9 N9 (.head _) (by (((try simp only [List.cons_append, List.nil_append, List.append_assoc]); (repeat' (first | (refine List.forall_mem_cons.mpr (And.intro ?_ ?_)) | (intro p9 hp9; exact absurd hp9 List.not_mem_nil) | (intro p9 hp9; (repeat refine List.mem_cons_of_mem _ ?_); exact hp9) | exact List.mem_cons_self | (refine List.mem_cons_of_mem _ ?_)))))) ?_ (by kst_all) (by ((intro z9 hz9 h29 h39; (try simp only [List.forall_mem_cons, List.not_mem_nil, false_implies, implies_true, and_true, ne_eq] at h29); (try simp only [List.contains_cons, List.contains_nil, Bool.or_false, Bool.or_eq_false_iff, beq_eq_false_iff_ne, ne_eq] at h39); (try dsimp only); first | rfl | (simp [hz9, h29, h39, kstB]; done) | (simp [hz9, h29, kstB]; done) | (simp [hz9, h39, kstB]; done) | (simp [hz9, kstB]; done)))) ⟨IntsAre.append hI5 (.cons _ _ .nil), ?_, by dsimp only; omega, by dsimp only; omega, hst5.take hi5 hb9 (by omega)⟩
        · intro x hx
          simp only [List.mem_cons] at hx
          rcases hx with rfl | rfl | hx
          · exact ⟨by simp [W.listOf], by simp [W.listOf]⟩
          · exact ⟨by simp [W.listOf], by simp [W.listOf]⟩
          · exact hpg.plain x hx
        · intro x hx
          rcases List.mem_append.mp hx with hx | hx
          · exact hin5 x hx
          · rw [List.mem_singleton.mp hx]
            exact ⟨hg1, hg2⟩
      · unfold Stop
        rename Int.fmod _ 2 ≠ 1 => hb9
        rename Fr g' L' _ _ => F9
        rename News g' L' _ _ => N9
        rw [bitF] at hb9
        simp only [List.push_toArray] at N9
        refine free_end ((_, _, _), (_, _)) F9 N9 (.head _) (by (((try simp only [List.cons_append, List.nil_append, List.append_assoc]); (repeat' (first | (refine List.forall_mem_cons.mpr (And.intro ?_ ?_)) | (intro p9 hp9; exact absurd hp9 List.not_mem_nil) | (intro p9 hp9; (repeat refine List.mem_cons_of_mem _ ?_); exact hp9) | exact List.mem_cons_self | (refine List.mem_cons_of_mem _ ?_)))))) ?_ (by kst_all) (by ((intro z9 hz9 h29 h39; (try simp only [List.forall_mem_cons, List.not_mem_nil, false_implies, implies_true, and_true, ne_eq] at h29); (try simp only [List.contains_cons, List.contains_nil, Bool.or_false, Bool.or_eq_false_iff, beq_eq_false_iff_ne, ne_eq] at h39); (try dsimp only); first | rfl | (simp [hz9, h29, h39, kstB]; done) | (simp [hz9, h29, kstB]; done) | (simp [hz9, h39, kstB]; done) | (simp [hz9, kstB]; done)))) ⟨IntsAre.append hI5 (.cons _ _ .nil), ?_, by dsimp only; omega, by dsimp only; omega, hst5.skip hi5 hb9⟩
        · intro x hx
          simp only [List.mem_cons] at hx
          rcases hx with rfl | rfl | hx
          · exact ⟨by simp [W.listOf], by simp [W.listOf]⟩
          · exact ⟨by simp [W.listOf], by simp [W.listOf]⟩
          · exact hpg.plain x hx
        · intro x hx
          rcases List.mem_append.mp hx with hx | hx
          · exact hin5 x hx
          · rw [List.mem_singleton.mp hx]
            omega
    case done =>
      refine pr32 fun pus pl pn q tq u5 h5 tk5 hp5 F5 N5 => ?_
      (try dsimp only at hp5 F5 N5)
      obtain ⟨hI5, hin5, hq0, hq1, hst5⟩ := hp5
      have hp5 := hst5.fin
      obtain ⟨a0, a1, a2, a3, a4, a5, a6, rfl⟩ := len7 hst5.len
      obtain ⟨t0, t1, t2, t3, t4, t6, t7, rfl⟩ := ints7 hI5
      obtain ⟨⟨b0, c0⟩, ⟨b1, c1⟩, ⟨b2, c2⟩, ⟨b3, c3⟩, ⟨b4, c4⟩, ⟨b5, c5⟩, ⟨b6, c6⟩⟩ := in7 hin5
      obtain ⟨B, S, hB, hS, hc9, hB0, hS0⟩ : ∃ B S : Int, a0 + 256 * a1 + 65536 * a2 + 16777216 * a3 = B ∧ (if a4 + 256 * a5 + 65536 * a6 = 0 then 65536 else a4 + 256 * a5 + 65536 * a6) = S ∧ cmdP ks p = some (B, S, none, q) ∧ 0 ≤ B ∧ 0 < S := by
        have hc9 := cmdP_parts hlt (by omega) hz2 hp5
        clear hst5 hI5 hin5 F9 N9 N99 R9
        refine ⟨_, _, rfl, rfl, ?_, by omega, by split <;> omega⟩
        rw [hc9]
        by_cases hz : a4 + 256 * a5 + 65536 * a6 = 0
        · rw [if_pos hz, if_neg (by omega)]
        · rw [if_neg hz, if_pos (by omega)]
      clear hst5 hI5 hin5 F9 N9 N99 R9
      refine execs_mid2 (s0 := s) F5 [_, _, _] _ (fun ps => ∃ t1 t2, ps = [(Str.ofString "size", .int S t1), (Str.ofString "begin", .int B t2)]) ((od, W.listOf us.toArray nn) :: led) ?first ?second
      case first =>
        (repeat' (first | (k_unfold; (try dsimp only)) | ((with_reducible show wpAny _ _ (call (Value.type "list") _) _ _ _); k_here; (refine' page_list (by assumption) rfl (by k_asm) (by k_asm) ?pzN6 ?_); (case pzN6 => first | exact Mine.len_part (by assumption) | (rw [List.length_take, List.length_drop]; omega)); intro D9z us9z c9z h9z tk9z F9z N9z l19z hI9z; (try k_lt l19z); (try k_sweep)) | ((with_reducible show wpAny _ _ (subscriptTail _ _ _ _) _ _ _); k_here; (with_reducible show wpAny _ _ (subscriptTail _ (Expr.Slice _ _ none _) _ (Value.ref _)) _ _ _); (with_reducible rename Fr _ _ _ _ => F9z); (with_reducible rename News _ _ _ _ => N9z); (refine' page_slice (s := ⟨_, _, _, _, _⟩) (PageOf.at (by assumption) N9z ?plN6) F9z N9z (by constructor) (by constructor) ?pzN6 ?p0N6 ?p1N6 ?p2N6 ?_ ?s1N6 ?g1N6 ?s2N6 ?g2N6); (case plN6 => (intro q9 hq9; repeat' (first | exact hq9 | refine List.mem_cons_of_mem _ ?_))); (case pzN6 => assumption); (case p0N6 => omega); (case p1N6 => omega); (case p2N6 => omega); (case s1N6 => (intro _ _; with_unfolding_all rfl)); (case g1N6 => (intro _ _ _; with_unfolding_all rfl)); (case s2N6 => (intro _; with_unfolding_all rfl)); (case g2N6 => (intro _ _; with_unfolding_all rfl)); intro _ _ _ F9z N9z pgA) | ((with_reducible show wpAny _ _ (subscriptTail _ _ _ _) _ _ _); k_here; (refine' page_item (PageOf.at (by assumption) (by assumption) ?plN6) ?pzN6 ?pinN6 ?p0N6 ?p1N6 ?_ ?s1N6 ?g1N6 ?s2N6 ?g2N6); (case plN6 => (intro q9 hq9; repeat' (first | exact hq9 | refine List.mem_cons_of_mem _ ?_))); (case pzN6 => assumption); (case pinN6 => assumption); (case p0N6 => omega); (case p1N6 => omega); (case s1N6 => (intro _ _; with_unfolding_all rfl)); (case g1N6 => (intro _ _ _; with_unfolding_all rfl)); (case s2N6 => (intro _; with_unfolding_all rfl)); (case g2N6 => (intro _ _; with_unfolding_all rfl)); intro _ _ pgLo pgHi) | ((with_reducible show wpAny _ _ (call (Value.builtin "len") _) _ _ _); k_here; (refine' page_len (PageOf.at (by assumption) (by assumption) ?plN6) ?pzN6 ?_); (case plN6 => (intro q9 hq9; repeat' (first | exact hq9 | refine List.mem_cons_of_mem _ ?_))); (case pzN6 => assumption); intro _ _) | ((with_reducible show wpAny _ _ (call (Value.ref _) _) _ _ _); (fail_if_success (with_reducible show wpAny _ _ (call (Value.ref 87) _) _ _ _)); (fail_if_success ((with_reducible rename GoIn => hgo9); (with_reducible show wpAny _ _ (call (Value.ref 137) _) _ _ _))); refine Stop.mk ?_) | (k_here; (with_reducible show wpAny _ _ (call (Value.type "list") [Value.bytes _ _]) _ _ _); k_dflt (refine' lb_list ?kbaiN6 ?kbahN6 ?kbaFN6 ?kbaNN6 ?kbanN6 ?_; (case kbaFN6 => k_asm); (case kbaNN6 => k_asm); (case kbahN6 => rfl); (case kbaiN6 => kba_ints); (case kbanN6 => kba_size)); intro D9z us9z c9z h9z tk9z F9z N9z l19z hI9z; (try k_lt l19z); (try k_sweep)) | walk1 | (dsimp only; first | ((with_reducible show wpAny _ _ (call (Value.ref _) _) _ _ _); (fail_if_success (with_reducible show wpAny _ _ (call (Value.ref 87) _) _ _ _)); (fail_if_success ((with_reducible rename GoIn => hgo9); (with_reducible show wpAny _ _ (call (Value.ref 137) _) _ _ _))); refine Stop.mk ?_) | walk1)))
        · rename _ = (0 : Int) => hz9
          rename Fr g' _ _ _ => F9
          rename News g' _ _ _ => N9
          have hz8 : a4 + 256 * a5 + 65536 * a6 = (0 : Int) := hz9
          rw [if_pos hz8] at hS
          subst hB hS
          exact MidEnd.mk2 F9 N9 _ (fun z9 => by
            dsimp only [kstB]
            by_cases h9 : z9 = Str.ofString "size"
            · rw [if_pos h9, if_pos h9]
              all_goals rfl
            · rw [if_neg h9, if_neg h9, if_neg h9]
              all_goals rfl) (by (((try simp only [List.cons_append, List.nil_append, List.append_assoc]); (repeat' (first | (refine List.forall_mem_cons.mpr (And.intro ?_ ?_)) | (intro p9 hp9; exact absurd hp9 List.not_mem_nil) | (intro p9 hp9; (repeat refine List.mem_cons_of_mem _ ?_); exact hp9) | exact List.mem_cons_self | (refine List.mem_cons_of_mem _ ?_)))))) ⟨_, _, rfl⟩
        · rename _ ≠ (0 : Int) => hz9
          rename Fr g' _ _ _ => F9
          rename News g' _ _ _ => N9
          have hz8 : a4 + 256 * a5 + 65536 * a6 ≠ (0 : Int) := hz9
          rw [if_neg hz8] at hS
          subst hB hS
          exact MidEnd.mk2 F9 N9 _ (fun z9 => by
            dsimp only [kstB]
            by_cases h9 : z9 = Str.ofString "size"
            · rw [if_pos h9, if_pos h9]
              all_goals rfl
            · rw [if_neg h9, if_neg h9, if_neg h9]
              all_goals rfl) (by (((try simp only [List.cons_append, List.nil_append, List.append_assoc]); (repeat' (first | (refine List.forall_mem_cons.mpr (And.intro ?_ ?_)) | (intro p9 hp9; exact absurd hp9 List.not_mem_nil) | (intro p9 hp9; (repeat refine List.mem_cons_of_mem _ ?_); exact hp9) | exact List.mem_cons_self | (refine List.mem_cons_of_mem _ ?_)))))) ⟨_, _, rfl⟩
      case second =>
        rintro _ h6 tk6 ⟨t1, t2, rfl⟩ F6 N6
        clear hB hS F5 N5 hp5 b0 c0 b1 c1 b2 c2 b3 c3 b4 c4 b5 c5 b6 c6
        (repeat' (first | (k_unfold; (try dsimp only)) | ((with_reducible show wpAny _ _ (call (Value.type "list") _) _ _ _); k_here; (refine' page_list (by assumption) rfl (by k_asm) (by k_asm) ?pzN7 ?_); (case pzN7 => first | exact Mine.len_part (by assumption) | (rw [List.length_take, List.length_drop]; omega)); intro D9z us9z c9z h9z tk9z F9z N9z l19z hI9z; (try k_lt l19z); (try k_sweep)) | ((with_reducible show wpAny _ _ (subscriptTail _ _ _ _) _ _ _); k_here; (with_reducible show wpAny _ _ (subscriptTail _ (Expr.Slice _ _ none _) _ (Value.ref _)) _ _ _); (with_reducible rename Fr _ _ _ _ => F9z); (with_reducible rename News _ _ _ _ => N9z); (refine' page_slice (s := ⟨_, _, _, _, _⟩) (PageOf.at (by assumption) N9z ?plN7) F9z N9z (by constructor) (by constructor) ?pzN7 ?p0N7 ?p1N7 ?p2N7 ?_ ?s1N7 ?g1N7 ?s2N7 ?g2N7); (case plN7 => (intro q9 hq9; repeat' (first | exact hq9 | refine List.mem_cons_of_mem _ ?_))); (case pzN7 => assumption); (case p0N7 => omega); (case p1N7 => omega); (case p2N7 => omega); (case s1N7 => (intro _ _; with_unfolding_all rfl)); (case g1N7 => (intro _ _ _; with_unfolding_all rfl)); (case s2N7 => (intro _; with_unfolding_all rfl)); (case g2N7 => (intro _ _; with_unfolding_all rfl)); intro _ _ _ F9z N9z pgA) | ((with_reducible show wpAny _ _ (subscriptTail _ _ _ _) _ _ _); k_here; (refine' page_item (PageOf.at (by assumption) (by assumption) ?plN7) ?pzN7 ?pinN7 ?p0N7 ?p1N7 ?_ ?s1N7 ?g1N7 ?s2N7 ?g2N7); (case plN7 => (intro q9 hq9; repeat' (first | exact hq9 | refine List.mem_cons_of_mem _ ?_))); (case pzN7 => assumption); (case pinN7 => assumption); (case p0N7 => omega); (case p1N7 => omega); (case s1N7 => (intro _ _; with_unfolding_all rfl)); (case g1N7 => (intro _ _ _; with_unfolding_all rfl)); (case s2N7 => (intro _; with_unfolding_all rfl)); (case g2N7 => (intro _ _; with_unfolding_all rfl)); intro _ _ pgLo pgHi) | ((with_reducible show wpAny _ _ (call (Value.builtin "len") _) _ _ _); k_here; (refine' page_len (PageOf.at (by assumption) (by assumption) ?plN7) ?pzN7 ?_); (case plN7 => (intro q9 hq9; repeat' (first | exact hq9 | refine List.mem_cons_of_mem _ ?_))); (case pzN7 => assumption); intro _ _) | ((with_reducible show wpAny _ _ (call (Value.ref _) _) _ _ _); (fail_if_success (with_reducible show wpAny _ _ (call (Value.ref 87) _) _ _ _)); (fail_if_success ((with_reducible rename GoIn => hgo9); (with_reducible show wpAny _ _ (call (Value.ref 137) _) _ _ _))); refine Stop.mk ?_) | (k_here; (with_reducible show wpAny _ _ (call (Value.type "list") [Value.bytes _ _]) _ _ _); k_dflt (refine' lb_list ?kbaiN7 ?kbahN7 ?kbaFN7 ?kbaNN7 ?kbanN7 ?_; (case kbaFN7 => k_asm); (case kbaNN7 => k_asm); (case kbahN7 => rfl); (case kbaiN7 => kba_ints); (case kbanN7 => kba_size)); intro D9z us9z c9z h9z tk9z F9z N9z l19z hI9z; (try k_lt l19z); (try k_sweep)) | walk1 | (dsimp only; first | ((with_reducible show wpAny _ _ (call (Value.ref _) _) _ _ _); (fail_if_success (with_reducible show wpAny _ _ (call (Value.ref 87) _) _ _ _)); (fail_if_success ((with_reducible rename GoIn => hgo9); (with_reducible show wpAny _ _ (call (Value.ref 137) _) _ _ _))); refine Stop.mk ?_) | walk1)))
        · unfold Stop
          rename (bl.length : Int) < _ => hf9
          rename Fr g' _ _ _ => F9
          have hbad9 := hP.far hlt hc9 hf9
          rename News g' _ _ _ => N9
          exact LeaveR.ret (own' := led) hret F9 (fun q hq => N9 q (by repeat' (first | exact hq | refine List.mem_cons_of_mem _ ?_))) ⟨.inl ⟨hbad9, rfl⟩, rfl⟩
        · unfold Stop
          rename ¬ (bl.length : Int) < _ => hf9
          rename Fr g' _ _ _ => F9
          rename News g' _ _ _ => N9
          rename IntsAre _ (l ++ _) => hI9
          have st := hP.step hlt hc9 hq0 (fun h => hf9 h.2)
          refine ksw_end ((_, _, _, _), (_, _)) F9 N9 (by kst_in) hI9 (by kst_all) (by ((intro z9 h29 h39; (try simp only [List.forall_mem_cons, List.not_mem_nil, false_implies, implies_true, and_true, ne_eq] at h29); (try simp only [List.contains_cons, List.contains_nil, Bool.or_false, Bool.or_eq_false_iff, beq_eq_false_iff_ne, ne_eq] at h39); (try dsimp only); first | rfl | (simp [h29, h39, kstB]; done) | (simp [h29, kstB]; done) | (simp [h39, kstB]; done) | (simp [kstB]; done)))) ⟨Int.le_of_lt (Int.lt_of_le_of_lt p0' hq0), hq1, in_app9 hin fun x hx => hbin x (List.mem_of_mem_drop (List.mem_of_mem_take hx)), len_turn hlen p0' hq0 (len_part hza), st⟩ (om_dec hlt hq0)
  · unfold Stop
    rename ¬ p < (ks.length : Int) => hlt
    have hfin := hP.fin hlt
    refine KBa.make_K (vs := us) (ns := l) F8 N8 rfl (by is_list) hF hin (by omega) ?_
    intro h6 t6 k6 F6 N6 I6
    (repeat' (first | (k_unfold; (try dsimp only)) | ((with_reducible show wpAny _ _ (call (Value.type "list") _) _ _ _); k_here; (refine' page_list (by assumption) rfl (by k_asm) (by k_asm) ?pzN8 ?_); (case pzN8 => first | exact Mine.len_part (by assumption) | (rw [List.length_take, List.length_drop]; omega)); intro D9z us9z c9z h9z tk9z F9z N9z l19z hI9z; (try k_lt l19z); (try k_sweep)) | ((with_reducible show wpAny _ _ (subscriptTail _ _ _ _) _ _ _); k_here; (with_reducible show wpAny _ _ (subscriptTail _ (Expr.Slice _ _ none _) _ (Value.ref _)) _ _ _); (with_reducible rename Fr _ _ _ _ => F9z); (with_reducible rename News _ _ _ _ => N9z); (refine' page_slice (s := ⟨_, _, _, _, _⟩) (PageOf.at (by assumption) N9z ?plN8) F9z N9z (by constructor) (by constructor) ?pzN8 ?p0N8 ?p1N8 ?p2N8 ?_ ?s1N8 ?g1N8 ?s2N8 ?g2N8); (case plN8 => (intro q9 hq9; repeat' (first | exact hq9 | refine List.mem_cons_of_mem _ ?_))); (case pzN8 => assumption); (case p0N8 => omega); (case p1N8 => omega); (case p2N8 => omega); (case s1N8 => (intro _ _; with_unfolding_all rfl)); (case g1N8 => (intro _ _ _; with_unfolding_all rfl)); (case s2N8 => (intro _; with_unfolding_all rfl)); (case g2N8 => (intro _ _; with_unfolding_all rfl)); intro _ _ _ F9z N9z pgA) | ((with_reducible show wpAny _ _ (subscriptTail _ _ _ _) _ _ _); k_here; (refine' page_item (PageOf.at (by assumption) (by assumption) ?plN8) ?pzN8 ?pinN8 ?p0N8 ?p1N8 ?_ ?s1N8 ?g1N8 ?s2N8 ?g2N8); (case plN8 => (intro q9 hq9; repeat' (first | exact hq9 | refine List.mem_cons_of_mem _ ?_))); (case pzN8 => assumption); (case pinN8 => assumption); (case p0N8 => omega); (case p1N8 => omega); (case s1N8 => (intro _ _; with_unfolding_all rfl)); (case g1N8 => (intro _ _ _; with_unfolding_all rfl)); (case s2N8 => (intro _; with_unfolding_all rfl)); (case g2N8 => (intro _ _; with_unfolding_all rfl)); intro _ _ pgLo pgHi) | ((with_reducible show wpAny _ _ (call (Value.builtin "len") _) _ _ _); k_here; (refine' page_len (PageOf.at (by assumption) (by assumption) ?plN8) ?pzN8 ?_); (case plN8 => (intro q9 hq9; repeat' (first | exact hq9 | refine List.mem_cons_of_mem _ ?_))); (case pzN8 => assumption); intro _ _) | ((with_reducible show wpAny _ _ (call (Value.ref _) _) _ _ _); (fail_if_success (with_reducible show wpAny _ _ (call (Value.ref 87) _) _ _ _)); (fail_if_success ((with_reducible rename GoIn => hgo9); (with_reducible show wpAny _ _ (call (Value.ref 137) _) _ _ _))); refine Stop.mk ?_) | (k_here; (with_reducible show wpAny _ _ (call (Value.type "list") [Value.bytes _ _]) _ _ _); k_dflt (refine' lb_list ?kbaiN8 ?kbahN8 ?kbaFN8 ?kbaNN8 ?kbanN8 ?_; (case kbaFN8 => k_asm); (case kbaNN8 => k_asm); (case kbahN8 => rfl); (case kbaiN8 => kba_ints); (case kbanN8 => kba_size)); intro D9z us9z c9z h9z tk9z F9z N9z l19z hI9z; (try k_lt l19z); (try k_sweep)) | walk1 | (dsimp only; first | ((with_reducible show wpAny _ _ (call (Value.ref _) _) _ _ _); (fail_if_success (with_reducible show wpAny _ _ (call (Value.ref 87) _) _ _ _)); (fail_if_success ((with_reducible rename GoIn => hgo9); (with_reducible show wpAny _ _ (call (Value.ref 137) _) _ _ _))); refine Stop.mk ?_) | walk1)))
    unfold Stop
    exact LeaveR.ret (own' := led) hret F6 (fun q hq => N6 q (by repeat' (first | exact hq | refine List.mem_cons_of_mem _ ?_))) ⟨.inr ⟨_, _, _, hfin, KBa.ints_make I6, by omega, rfl⟩, rfl⟩

@[irreducible] def LAtSt (ks : List Int) (at_ nu un p : Int) : Prop := AtInv (ks.drop at_.toNat) nu un (ks.drop p.toNat)
theorem LAtSt.start (ks : List Int) (at_ : Int) : LAtSt ks at_ 0 1 at_ := by
  unfold LAtSt
  exact AtInv.start _
theorem LAtSt.cut {ks : List Int} {at_ nu sh p : Int} (h : LAtSt ks at_ nu sh p) (hp : ¬ p < ks.length) : szAt (ks.drop at_.toNat) = none := by
  unfold LAtSt at h
  rw [drop_none hp] at h
  exact h.none
theorem LAtSt.fin {ks : List Int} {at_ nu sh p : Int} (h : LAtSt ks at_ nu sh p) (h0 : 0 ≤ p) (hp : p < ks.length) (ho : 0 ≤ ks.getD p.toNat 0) (hlt : ks.getD p.toNat 0 < 128) :
    szAt (ks.drop at_.toNat) = some (nu + ks.getD p.toNat 0 % 128 * sh, ks.drop (p + 1).toNat) := by
  unfold LAtSt at h
  rw [drop_cons h0 hp] at h
  rw [h.fin hlt, show ks.getD p.toNat 0 % 128 = ks.getD p.toNat 0 from by omega, Int.mul_comm]
theorem LAtSt.step {ks : List Int} {at_ nu sh p : Int} (h : LAtSt ks at_ nu sh p) (h0 : 0 ≤ p) (hp : p < ks.length) (hlt : ¬ ks.getD p.toNat 0 < 128) :
    LAtSt ks at_ (nu + ks.getD p.toNat 0 % 128 * sh) (sh * 128) (p + 1) := by
  unfold LAtSt at h ⊢
  rw [drop_cons h0 hp] at h
  rw [Int.mul_comm (_ % 128)]
  exact h.step hlt

theorem spec_lsat {w : World} {mean : ExcName → Option Value} {mg mb : Str → Option Value} {b : Array UInt8} {ks : List Int} {at_ : Int} {t t' : Tok} (hb : KBw.bInts b = ks) (hz : ks.length ≤ 100000) (h0 : 0 ≤ at_) (h1 : at_ ≤ ks.length) :
    Spec w mean mg mb 169 4 32 [] [.bytes b t, .int at_ t'] (fun r o => (szAt (ks.drop at_.toNat) = none ∧ r = .none ∧ o = []) ∨ ∃ n rst p D t1 t2, szAt (ks.drop at_.toNat) = some (n, rst) ∧ p = (ks.length : Int) - rst.length ∧ r = .ref D ∧ o = [(D, { cls := .type "tuple", data := .seq #[.int n t1, .int p t2] })]) False := by
  unfold Spec
  w_top off
  intro dp un gd cn cs a ccd cl outer A₀ base h₀ L m rest s R B F X N hap T hk hd hu hret hbad
  ((k_dflt (refine' code_own ?k1N1 ?k2N1 ?k3N1 ?k4N1 ?kapN1 ?k5N1 ?kAN1 ?kFN1 ?kKN1 ?k6N1 ?k7N1 ?k8N1 ?k9N1 ?kBN1 ?_ ?c2N1 ?c3N1 ?c4N1 ?c5N1; (case kAN1 => exact rfl); (case kFN1 => exact rfl); (case kKN1 => assumption); (case k1N1 => k_asm); (case k2N1 => k_asm); (case k3N1 => k_asm); (case k4N1 => k_asm); (case kapN1 => k_asm); (case k5N1 => k_asm); (case k6N1 => k_is); (case k7N1 => k_is); (case k8N1 => ktr_room); (case k9N1 => first | exact BindsTo.of_eq rfl | exact binds_K (by k_in) rfl (by k_is) rfl rfl rfl); (case c5N1 => decide); (case kBN1 => exact locs rfl); (case c2N1 => exact rfl); (case c3N1 => exact rfl); (case c4N1 => exact rfl); k_whole)))
  intro g' L' h' FG' F' N' B' X' T' hrest
  (try dsimp only)
  (try k_fold)
  (repeat' (first | (k_unfold; (try dsimp only)) | ((with_reducible show wpAny _ _ (call (Value.ref _) _) _ _ _); (fail_if_success (with_reducible show wpAny _ _ (call (Value.ref 87) _) _ _ _)); (fail_if_success ((with_reducible rename GoIn => hgo9); (with_reducible show wpAny _ _ (call (Value.ref 137) _) _ _ _))); refine Stop.mk ?_) | (k_here; (with_reducible show wpAny _ _ (call (Value.type "list") [Value.bytes _ _]) _ _ _); k_dflt (refine' lb_list ?kbaiN2 ?kbahN2 ?kbaFN2 ?kbaNN2 ?kbanN2 ?_; (case kbaFN2 => k_asm); (case kbaNN2 => k_asm); (case kbahN2 => rfl); (case kbaiN2 => kba_ints); (case kbanN2 => kba_size)); intro D9z us9z c9z h9z tk9z F9z N9z l19z hI9z; (try k_lt l19z); (try k_sweep)) | walk1 | (dsimp only; first | ((with_reducible show wpAny _ _ (call (Value.ref _) _) _ _ _); (fail_if_success (with_reducible show wpAny _ _ (call (Value.ref 87) _) _ _ _)); (fail_if_success ((with_reducible rename GoIn => hgo9); (with_reducible show wpAny _ _ (call (Value.ref 137) _) _ _ _))); refine Stop.mk ?_) | walk1)))
  unfold Stop
  rename Fr _ _ _ _ => F9
  rename News _ _ _ _ => N9
  refine' ksw_while (σ := (Int × Tok) × (Int × Tok) × (Int × Tok)) (fun c => []) (fun c => [(Str.ofString "found", .int c.1.1 c.1.2), (Str.ofString "unit", .int c.2.1.1 c.2.1.2), (Str.ofString "at", .int c.2.2.1 c.2.2.2)])
      (fun c => True) [] (fun c => 0 ≤ c.2.2.1 ∧ c.2.2.1 ≤ ks.length ∧ LAtSt ks at_ c.1.1 c.2.1.1 c.2.2.1) (fun c => (ks.length - c.2.2.1).toNat) ((0, _), (1, _), (at_, t')) F9 News.nil ?kf ?kk ?kp ?_ ?hE
  case hE => passes_own
  case kf => trivial
  case kk => kst_all
  case kp => exact ⟨h0, h1, LAtSt.start _ _⟩
  rintro ⟨⟨nu, tn⟩, ⟨sh, ts⟩, ⟨p, tp⟩⟩ u h8 tk8 hF ⟨p0, p1, hP⟩ F8 N8
  (try dsimp only at hF p0 p1 hP F8 N8)
  clear F9 N9 hF
  (repeat' (first | (k_unfold; (try dsimp only)) | ((with_reducible show wpAny _ _ (call (Value.ref _) _) _ _ _); (fail_if_success (with_reducible show wpAny _ _ (call (Value.ref 87) _) _ _ _)); (fail_if_success ((with_reducible rename GoIn => hgo9); (with_reducible show wpAny _ _ (call (Value.ref 137) _) _ _ _))); refine Stop.mk ?_) | (k_here; (with_reducible show wpAny _ _ (call (Value.type "list") [Value.bytes _ _]) _ _ _); k_dflt (refine' lb_list ?kbaiN3 ?kbahN3 ?kbaFN3 ?kbaNN3 ?kbanN3 ?_; (case kbaFN3 => k_asm); (case kbaNN3 => k_asm); (case kbahN3 => rfl); (case kbaiN3 => kba_ints); (case kbanN3 => kba_size)); intro D9z us9z c9z h9z tk9z F9z N9z l19z hI9z; (try k_lt l19z); (try k_sweep)) | walk1 | (dsimp only; first | ((with_reducible show wpAny _ _ (call (Value.ref _) _) _ _ _); (fail_if_success (with_reducible show wpAny _ _ (call (Value.ref 87) _) _ _ _)); (fail_if_success ((with_reducible rename GoIn => hgo9); (with_reducible show wpAny _ _ (call (Value.ref 137) _) _ _ _))); refine Stop.mk ?_) | walk1)))
  · unfold Stop
    rename Fr _ _ _ _ => F9
    rename News _ _ _ _ => N9
    rename ks.getD (p + 1 - 1).toNat 0 < 128 => hlt
    rw [show p + 1 - 1 = p from by omega] at hlt
    have e9 : (ks.getD p.toNat 0).fmod 128 = ks.getD p.toNat 0 % 128 := Int.fmod_eq_emod_of_nonneg _ (by decide)
    rw [e9] at N9
    have hs := hP.fin p0 (by omega) (by omega) hlt
    exact LeaveR.ret (own' := [_]) hret F9 (fun q hq => N9 q (by rcases List.mem_singleton.mp hq with rfl; exact .head _)) (.inr ⟨_, _, p + 1, _, _, _, hs, by rw [List.length_drop]; omega, rfl, rfl⟩)
  · unfold Stop
    rename Fr _ _ _ _ => F9
    rename ¬ ks.getD (p + 1 - 1).toNat 0 < 128 => hlt
    rw [show p + 1 - 1 = p from by omega] at hlt
    have e9 : (ks.getD p.toNat 0).fmod 128 = ks.getD p.toNat 0 % 128 := Int.fmod_eq_emod_of_nonneg _ (by decide)
    rw [e9] at F9
    refine ksw_end ((_, _), (_, _), (_, _)) F9 News.nil (fun q hq => nomatch hq) trivial (by kst_all) (by intro z h2 h3; have z1 := h2 _ (.head _); have z2 := h2 _ (.tail _ (.head _)); have z3 := h2 _ (.tail _ (.tail _ (.head _))); dsimp only at z1 z2 z3; simp [z1, z2, z3, kstB]) ?_ ?_
    · exact ⟨by dsimp only; omega, by dsimp only; omega, hP.step p0 (by omega) hlt⟩
    · dsimp only
      omega
  · unfold Stop
    exact LeaveR.ret (own' := []) hret F8 News.nil (.inl ⟨hP.cut (by assumption), rfl, rfl⟩)

theorem spec_lhead {w : World} {mean : ExcName → Option Value} {mg mb : Str → Option Value} {b : Array UInt8} {tb : Tok} {ks : List Int}
    (hb : KBw.bInts b = ks) (hz : ks.length ≤ 2000) :
    Spec w mean mg mb 190 30 300 [] [.bytes b tb] (fun r o => (headP ks = none ∧ r = .none ∧ o = []) ∨ ∃ n sz p D t1 t2 t3, headP ks = some (n, sz, p) ∧ 0 ≤ p ∧ p ≤ ks.length ∧ r = .ref D ∧ o = [(D, { cls := .type "tuple", data := .seq #[.int n t1, .int sz t2, .int p t3] })]) (False) := by
  unfold Spec
  w_top off
  intro dp un gd cn cs a ccd cl outer A₀ base h₀ L m rest s R B F X N hap T hk hd hu hret hbad
  ((k_dflt (refine' code_own ?k1N1 ?k2N1 ?k3N1 ?k4N1 ?kapN1 ?k5N1 ?kAN1 ?kFN1 ?kKN1 ?k6N1 ?k7N1 ?k8N1 ?k9N1 ?kBN1 ?_ ?c2N1 ?c3N1 ?c4N1 ?c5N1; (case kAN1 => exact rfl); (case kFN1 => exact rfl); (case kKN1 => assumption); (case k1N1 => k_asm); (case k2N1 => k_asm); (case k3N1 => k_asm); (case k4N1 => k_asm); (case kapN1 => k_asm); (case k5N1 => k_asm); (case k6N1 => k_is); (case k7N1 => k_is); (case k8N1 => ktr_room); (case k9N1 => first | exact BindsTo.of_eq rfl | exact binds_K (by k_in) rfl (by k_is) rfl rfl rfl); (case c5N1 => decide); (case kBN1 => exact locs rfl); (case c2N1 => exact rfl); (case c3N1 => exact rfl); (case c4N1 => exact rfl); k_whole)))
  intro g' L' h' FG' F' N' B' X' T' hrest
  (try dsimp only)
  (try k_fold)
  have hMk := kstMark
  (repeat' (first | (k_unfold; (try dsimp only)) | ((with_reducible show wpAny _ _ (call (Value.ref _) _) _ _ _); (fail_if_success (with_reducible show wpAny _ _ (call (Value.ref 87) _) _ _ _)); (fail_if_success ((with_reducible rename GoIn => hgo9); (with_reducible show wpAny _ _ (call (Value.ref 137) _) _ _ _))); refine Stop.mk ?_) | (k_here; (with_reducible show wpAny _ _ (call (Value.type "list") [Value.bytes _ _]) _ _ _); k_dflt (refine' lb_list ?kbaiN2 ?kbahN2 ?kbaFN2 ?kbaNN2 ?kbanN2 ?_; (case kbaFN2 => k_asm); (case kbaNN2 => k_asm); (case kbahN2 => rfl); (case kbaiN2 => kba_ints); (case kbanN2 => kba_size)); intro D9z us9z c9z h9z tk9z F9z N9z l19z hI9z; (try k_lt l19z); (try k_sweep)) | walk1 | (dsimp only; first | ((with_reducible show wpAny _ _ (call (Value.ref _) _) _ _ _); (fail_if_success (with_reducible show wpAny _ _ (call (Value.ref 87) _) _ _ _)); (fail_if_success ((with_reducible rename GoIn => hgo9); (with_reducible show wpAny _ _ (call (Value.ref 137) _) _ _ _))); refine Stop.mk ?_) | walk1)))
  unfold Stop
  rename Fr g' L' _ _ => F9
  rename News g' L' _ _ => N9
  (try dsimp only)
  refine' Spec.use0 (spec_lsat (ks := ks) (at_ := 0) hb (by omega) (by omega) (by omega)) B' F9 X' N9 T' rfl ?ud ?uu ?_ ?_
  case ud => ktr_room
  case uu => ktr_units
  rotate_left 1
  · intro hno
    exact hno.elim
  rintro r9 o9 h9 tk9 F9 N9 A9 (⟨hno, rfl, rfl⟩ | ⟨n, rst, p, D, t1, t2, hh, hp, rfl, rfl⟩)
  · have hn9 : headP ks = none := headP_no1 hno
    clear N9
    (repeat' (first | (k_unfold; (try dsimp only)) | ((with_reducible show wpAny _ _ (call (Value.ref _) _) _ _ _); (fail_if_success (with_reducible show wpAny _ _ (call (Value.ref 87) _) _ _ _)); (fail_if_success ((with_reducible rename GoIn => hgo9); (with_reducible show wpAny _ _ (call (Value.ref 137) _) _ _ _))); refine Stop.mk ?_) | (k_here; (with_reducible show wpAny _ _ (call (Value.type "list") [Value.bytes _ _]) _ _ _); k_dflt (refine' lb_list ?kbaiN3 ?kbahN3 ?kbaFN3 ?kbaNN3 ?kbanN3 ?_; (case kbaFN3 => k_asm); (case kbaNN3 => k_asm); (case kbahN3 => rfl); (case kbaiN3 => kba_ints); (case kbanN3 => kba_size)); intro D9z us9z c9z h9z tk9z F9z N9z l19z hI9z; (try k_lt l19z); (try k_sweep)) | walk1 | (dsimp only; first | ((with_reducible show wpAny _ _ (call (Value.ref _) _) _ _ _); (fail_if_success (with_reducible show wpAny _ _ (call (Value.ref 87) _) _ _ _)); (fail_if_success ((with_reducible rename GoIn => hgo9); (with_reducible show wpAny _ _ (call (Value.ref 137) _) _ _ _))); refine Stop.mk ?_) | walk1)))
    unfold Stop
    rename Fr g' L' _ _ => F9
    exact LeaveR.ret (own' := []) hret F9 News.nil (.inl ⟨hn9, rfl, rfl⟩)
  · (try simp only [List.cons_append, List.nil_append] at N9)
    rw [show (Int.toNat 0) = 0 from rfl, List.drop_zero] at hh
    have hlen := szAt_len hh
    have hdr := szAt_drop hh
    have hp2 : ks.drop p.toNat = rst := by
      rw [hdr]
      congr 1
      omega
    (repeat' (first | (k_unfold; (try dsimp only)) | ((with_reducible show wpAny _ _ (call (Value.ref _) _) _ _ _); (fail_if_success (with_reducible show wpAny _ _ (call (Value.ref 87) _) _ _ _)); (fail_if_success ((with_reducible rename GoIn => hgo9); (with_reducible show wpAny _ _ (call (Value.ref 137) _) _ _ _))); refine Stop.mk ?_) | (k_here; (with_reducible show wpAny _ _ (call (Value.type "list") [Value.bytes _ _]) _ _ _); k_dflt (refine' lb_list ?kbaiN4 ?kbahN4 ?kbaFN4 ?kbaNN4 ?kbanN4 ?_; (case kbaFN4 => k_asm); (case kbaNN4 => k_asm); (case kbahN4 => rfl); (case kbaiN4 => kba_ints); (case kbanN4 => kba_size)); intro D9z us9z c9z h9z tk9z F9z N9z l19z hI9z; (try k_lt l19z); (try k_sweep)) | walk1 | (dsimp only; first | ((with_reducible show wpAny _ _ (call (Value.ref _) _) _ _ _); (fail_if_success (with_reducible show wpAny _ _ (call (Value.ref 87) _) _ _ _)); (fail_if_success ((with_reducible rename GoIn => hgo9); (with_reducible show wpAny _ _ (call (Value.ref 137) _) _ _ _))); refine Stop.mk ?_) | walk1)))
    unfold Stop
    rename Fr g' L' _ _ => F9
    rename News g' L' _ _ => N9
    (try dsimp only)
    refine' Spec.use0 (spec_lsat (ks := ks) (at_ := p) hb (by omega) (by omega) (by omega)) B' F9 X' N9 T' rfl ?ud ?uu ?_ ?_
    case ud => ktr_room
    case uu => ktr_units
    rotate_left 1
    · intro hno
      exact hno.elim
    rw [hp2]
    rintro r9 o9 h9 tk9 F9 N9 A9 (⟨hno, rfl, rfl⟩ | ⟨n2, rst2, p2, D2, t12, t22, hs2, hp3, rfl, rfl⟩)
    · (try simp only [List.cons_append, List.nil_append] at N9)
      (repeat' (first | (k_unfold; (try dsimp only)) | ((with_reducible show wpAny _ _ (call (Value.ref _) _) _ _ _); (fail_if_success (with_reducible show wpAny _ _ (call (Value.ref 87) _) _ _ _)); (fail_if_success ((with_reducible rename GoIn => hgo9); (with_reducible show wpAny _ _ (call (Value.ref 137) _) _ _ _))); refine Stop.mk ?_) | (k_here; (with_reducible show wpAny _ _ (call (Value.type "list") [Value.bytes _ _]) _ _ _); k_dflt (refine' lb_list ?kbaiN5 ?kbahN5 ?kbaFN5 ?kbaNN5 ?kbanN5 ?_; (case kbaFN5 => k_asm); (case kbaNN5 => k_asm); (case kbahN5 => rfl); (case kbaiN5 => kba_ints); (case kbanN5 => kba_size)); intro D9z us9z c9z h9z tk9z F9z N9z l19z hI9z; (try k_lt l19z); (try k_sweep)) | walk1 | (dsimp only; first | ((with_reducible show wpAny _ _ (call (Value.ref _) _) _ _ _); (fail_if_success (with_reducible show wpAny _ _ (call (Value.ref 87) _) _ _ _)); (fail_if_success ((with_reducible rename GoIn => hgo9); (with_reducible show wpAny _ _ (call (Value.ref 137) _) _ _ _))); refine Stop.mk ?_) | walk1)))
      have hn9 := headP_no2 hh hno
      unfold Stop
      rename Fr g' L' _ _ => F9
      exact LeaveR.ret (own' := []) hret F9 News.nil (.inl ⟨hn9, rfl, rfl⟩)
    · (try simp only [List.cons_append, List.nil_append] at N9)
      (repeat' (first | (k_unfold; (try dsimp only)) | ((with_reducible show wpAny _ _ (call (Value.ref _) _) _ _ _); (fail_if_success (with_reducible show wpAny _ _ (call (Value.ref 87) _) _ _ _)); (fail_if_success ((with_reducible rename GoIn => hgo9); (with_reducible show wpAny _ _ (call (Value.ref 137) _) _ _ _))); refine Stop.mk ?_) | (k_here; (with_reducible show wpAny _ _ (call (Value.type "list") [Value.bytes _ _]) _ _ _); k_dflt (refine' lb_list ?kbaiN6 ?kbahN6 ?kbaFN6 ?kbaNN6 ?kbanN6 ?_; (case kbaFN6 => k_asm); (case kbaNN6 => k_asm); (case kbahN6 => rfl); (case kbaiN6 => kba_ints); (case kbanN6 => kba_size)); intro D9z us9z c9z h9z tk9z F9z N9z l19z hI9z; (try k_lt l19z); (try k_sweep)) | walk1 | (dsimp only; first | ((with_reducible show wpAny _ _ (call (Value.ref _) _) _ _ _); (fail_if_success (with_reducible show wpAny _ _ (call (Value.ref 87) _) _ _ _)); (fail_if_success ((with_reducible rename GoIn => hgo9); (with_reducible show wpAny _ _ (call (Value.ref 137) _) _ _ _))); refine Stop.mk ?_) | walk1)))
      unfold Stop
      rename Fr g' L' _ _ => F9
      rename News g' L' _ _ => N9
      have hl2 := szAt_len hs2
      exact LeaveR.ret (own' := [_]) hret F9 (fun q hq => N9 q (by rcases List.mem_singleton.mp hq with rfl; exact .head _)) (.inr ⟨_, _, _, _, _, _, _, (headP_yes hh hs2).trans (by rw [hp3]), by omega, by omega, rfl, rfl⟩)

theorem runF_len {bl ks : List Int} (hb : bl.length ≤ 2000) (hk : ks.length ≤ 2000) : ∀ {f : Nat} {p : Int} {out : List Int}, runF bl ks f p = some out → out.length ≤ f * 2000
  | 0, p, out, h => by cases h
  | f + 1, p, out, h => by
    rw [runF] at h
    split at h
    · split at h
      · cases h
      · rename_i pl mn oc q hc
        split at h
        · cases h
        · obtain ⟨r, hr, rfl⟩ := Option.map_eq_some_iff.mp h
          have h1 := runF_len hb hk hr
          have h2 : (cmdOut bl (pl, mn, oc)).length ≤ 2000 := cmdOut_len (fun o ho => by
            dsimp only at ho
            subst ho
            have := cmdP_len hc
            omega) hb
          rw [List.length_append]
          omega
    · cases h
      exact Nat.zero_le _
theorem run_len {bl ks out : List Int} {p : Int} (hb : bl.length ≤ 2000) (hk : ks.length ≤ 2000) (h : runP bl ks p = some out) : out.length ≤ 4002000 := by
  have := runF_len hb hk h
  omega
theorem appliedP_run0 {bl ks : List Int} {n sz p : Int} (h : headP ks = some (n, sz, p)) (hn : n = bl.length) (hr : runP bl ks p = none) : appliedP bl ks = none := by
  unfold appliedP
  rw [h]
  dsimp only
  rw [if_pos hn, hr]
theorem appliedP_run1 {bl ks out : List Int} {n sz p : Int} (h : headP ks = some (n, sz, p)) (hn : n = bl.length) (hr : runP bl ks p = some out) : appliedP bl ks = if (out.length : Int) = sz then some out else none := by
  unfold appliedP
  rw [h]
  dsimp only
  rw [if_pos hn, hr]
theorem spec_lapplied {w : World} {mean : ExcName → Option Value} {mg mb : Str → Option Value} {a b : Array UInt8} {bl ks : List Int} {ta tb : Tok}
    (ha : KBw.bInts a = bl) (hb : KBw.bInts b = ks) (hza : bl.length ≤ 2000) (hz : ks.length ≤ 2000) :
    Spec w mean mg mb 197 40 400 [] [.bytes a ta, .bytes b tb] (fun r o => ((appliedP bl ks = none ∧ r = .none) ∨ ∃ c out tc, appliedP bl ks = some out ∧ KBw.bInts c = out ∧ r = .bytes c tc) ∧ o = []) False := by
  unfold Spec
  w_top off
  intro dp un gd cn cs fa ccd cl outer A₀ base h₀ L m rest s R B F X N hap T hk hd hu hret hbad
  ((k_dflt (refine' code_own ?k1N1 ?k2N1 ?k3N1 ?k4N1 ?kapN1 ?k5N1 ?kAN1 ?kFN1 ?kKN1 ?k6N1 ?k7N1 ?k8N1 ?k9N1 ?kBN1 ?_ ?c2N1 ?c3N1 ?c4N1 ?c5N1; (case kAN1 => exact rfl); (case kFN1 => exact rfl); (case kKN1 => assumption); (case k1N1 => k_asm); (case k2N1 => k_asm); (case k3N1 => k_asm); (case k4N1 => k_asm); (case kapN1 => k_asm); (case k5N1 => k_asm); (case k6N1 => k_is); (case k7N1 => k_is); (case k8N1 => ktr_room); (case k9N1 => first | exact BindsTo.of_eq rfl | exact binds_K (by k_in) rfl (by k_is) rfl rfl rfl); (case c5N1 => decide); (case kBN1 => exact locs rfl); (case c2N1 => exact rfl); (case c3N1 => exact rfl); (case c4N1 => exact rfl); k_whole)))
  intro g' L' h' FG' F' N' B' X' T' hrest
  (try dsimp only)
  (try k_fold)
  have hMk := kstMark
  (repeat' (first | (k_unfold; (try dsimp only)) | ((with_reducible show wpAny _ _ (call (Value.ref _) _) _ _ _); (fail_if_success (with_reducible show wpAny _ _ (call (Value.ref 87) _) _ _ _)); (fail_if_success ((with_reducible rename GoIn => hgo9); (with_reducible show wpAny _ _ (call (Value.ref 137) _) _ _ _))); refine Stop.mk ?_) | (k_here; (with_reducible show wpAny _ _ (call (Value.type "list") [Value.bytes _ _]) _ _ _); k_dflt (refine' lb_list ?kbaiN2 ?kbahN2 ?kbaFN2 ?kbaNN2 ?kbanN2 ?_; (case kbaFN2 => k_asm); (case kbaNN2 => k_asm); (case kbahN2 => rfl); (case kbaiN2 => kba_ints); (case kbanN2 => kba_size)); intro D9z us9z c9z h9z tk9z F9z N9z l19z hI9z; (try k_lt l19z); (try k_sweep)) | walk1 | (dsimp only; first | ((with_reducible show wpAny _ _ (call (Value.ref _) _) _ _ _); (fail_if_success (with_reducible show wpAny _ _ (call (Value.ref 87) _) _ _ _)); (fail_if_success ((with_reducible rename GoIn => hgo9); (with_reducible show wpAny _ _ (call (Value.ref 137) _) _ _ _))); refine Stop.mk ?_) | walk1)))
  unfold Stop
  rename Fr g' L' _ _ => F9
  rename News g' L' _ _ => N9
  (try dsimp only)
  refine' Spec.use0 (spec_lhead (ks := ks) hb hz) B' F9 X' N9 T' rfl ?ud ?uu ?_ ?_
  case ud => ktr_room
  case uu => ktr_units
  rotate_left 1
  · intro hno
    exact hno.elim
  rintro r9 o9 h9 tk9 F9 N9 A9 (⟨hno, rfl, rfl⟩ | ⟨n, sz, p, D, t1, t2, t3, hh, hp0, hp1, rfl, rfl⟩)
  · have hn9 : appliedP bl ks = none := by unfold appliedP; rw [hno]
    clear N9
    (repeat' (first | (k_unfold; (try dsimp only)) | ((with_reducible show wpAny _ _ (call (Value.ref _) _) _ _ _); (fail_if_success (with_reducible show wpAny _ _ (call (Value.ref 87) _) _ _ _)); (fail_if_success ((with_reducible rename GoIn => hgo9); (with_reducible show wpAny _ _ (call (Value.ref 137) _) _ _ _))); refine Stop.mk ?_) | (k_here; (with_reducible show wpAny _ _ (call (Value.type "list") [Value.bytes _ _]) _ _ _); k_dflt (refine' lb_list ?kbaiN3 ?kbahN3 ?kbaFN3 ?kbaNN3 ?kbanN3 ?_; (case kbaFN3 => k_asm); (case kbaNN3 => k_asm); (case kbahN3 => rfl); (case kbaiN3 => kba_ints); (case kbanN3 => kba_size)); intro D9z us9z c9z h9z tk9z F9z N9z l19z hI9z; (try k_lt l19z); (try k_sweep)) | walk1 | (dsimp only; first | ((with_reducible show wpAny _ _ (call (Value.ref _) _) _ _ _); (fail_if_success (with_reducible show wpAny _ _ (call (Value.ref 87) _) _ _ _)); (fail_if_success ((with_reducible rename GoIn => hgo9); (with_reducible show wpAny _ _ (call (Value.ref 137) _) _ _ _))); refine Stop.mk ?_) | walk1)))
    unfold Stop
    rename Fr g' L' _ _ => F9
    exact LeaveR.ret (own' := []) hret F9 News.nil ⟨.inl ⟨hn9, rfl⟩, rfl⟩
  · (try simp only [List.cons_append, List.nil_append] at N9)
    (repeat' (first | (k_unfold; (try dsimp only)) | ((with_reducible show wpAny _ _ (call (Value.ref _) _) _ _ _); (fail_if_success (with_reducible show wpAny _ _ (call (Value.ref 87) _) _ _ _)); (fail_if_success ((with_reducible rename GoIn => hgo9); (with_reducible show wpAny _ _ (call (Value.ref 137) _) _ _ _))); refine Stop.mk ?_) | (k_here; (with_reducible show wpAny _ _ (call (Value.type "list") [Value.bytes _ _]) _ _ _); k_dflt (refine' lb_list ?kbaiN4 ?kbahN4 ?kbaFN4 ?kbaNN4 ?kbanN4 ?_; (case kbaFN4 => k_asm); (case kbaNN4 => k_asm); (case kbahN4 => rfl); (case kbaiN4 => kba_ints); (case kbanN4 => kba_size)); intro D9z us9z c9z h9z tk9z F9z N9z l19z hI9z; (try k_lt l19z); (try k_sweep)) | walk1 | (dsimp only; first | ((with_reducible show wpAny _ _ (call (Value.ref _) _) _ _ _); (fail_if_success (with_reducible show wpAny _ _ (call (Value.ref 87) _) _ _ _)); (fail_if_success ((with_reducible rename GoIn => hgo9); (with_reducible show wpAny _ _ (call (Value.ref 137) _) _ _ _))); refine Stop.mk ?_) | walk1)))
    · rename n ≠ (bl.length : Int) => hne
      have hn9 : appliedP bl ks = none := by unfold appliedP; rw [hh]; dsimp only; rw [if_neg hne]
      unfold Stop
      rename Fr g' L' _ _ => F9
      exact LeaveR.ret (own' := []) hret F9 News.nil ⟨.inl ⟨hn9, rfl⟩, rfl⟩
    · rename n = (bl.length : Int) => heq
      unfold Stop
      rename Fr g' L' _ _ => F9
      rename News g' L' _ _ => N9
      (try dsimp only)
      refine' Spec.use0 (spec_lrun (p0 := p) ha (.inl ⟨_, _, rfl, hb, rfl⟩) (fun x hx => KBw.ints_in (b := b) (hb ▸ hx)) hza hz hp0 hp1) B' F9 X' N9 T' rfl ?ud ?uu ?_ ?_
      case ud => ktr_room
      case uu => ktr_units
      rotate_left 1
      · intro hno
        exact hno.elim
      rintro r9 o9 h9 tk9 F9 N9 A9 ⟨(⟨hno, rfl⟩ | ⟨c, out, tc, hru, hc, _, rfl⟩), rfl⟩
      · have hn9 : appliedP bl ks = none := appliedP_run0 hh heq hno
        (try simp only [List.cons_append, List.nil_append] at N9)
        (repeat' (first | (k_unfold; (try dsimp only)) | ((with_reducible show wpAny _ _ (call (Value.ref _) _) _ _ _); (fail_if_success (with_reducible show wpAny _ _ (call (Value.ref 87) _) _ _ _)); (fail_if_success ((with_reducible rename GoIn => hgo9); (with_reducible show wpAny _ _ (call (Value.ref 137) _) _ _ _))); refine Stop.mk ?_) | (k_here; (with_reducible show wpAny _ _ (call (Value.type "list") [Value.bytes _ _]) _ _ _); k_dflt (refine' lb_list ?kbaiN5 ?kbahN5 ?kbaFN5 ?kbaNN5 ?kbanN5 ?_; (case kbaFN5 => k_asm); (case kbaNN5 => k_asm); (case kbahN5 => rfl); (case kbaiN5 => kba_ints); (case kbanN5 => kba_size)); intro D9z us9z c9z h9z tk9z F9z N9z l19z hI9z; (try k_lt l19z); (try k_sweep)) | walk1 | (dsimp only; first | ((with_reducible show wpAny _ _ (call (Value.ref _) _) _ _ _); (fail_if_success (with_reducible show wpAny _ _ (call (Value.ref 87) _) _ _ _)); (fail_if_success ((with_reducible rename GoIn => hgo9); (with_reducible show wpAny _ _ (call (Value.ref 137) _) _ _ _))); refine Stop.mk ?_) | walk1)))
        unfold Stop
        rename Fr g' L' _ _ => F9
        exact LeaveR.ret (own' := []) hret F9 News.nil ⟨.inl ⟨hn9, rfl⟩, rfl⟩
      · have e9 := appliedP_run1 hh heq hru
        have hl9 := run_len hza hz hru
        (try simp only [List.cons_append, List.nil_append] at N9)
        (repeat' (first | (k_unfold; (try dsimp only)) | ((with_reducible show wpAny _ _ (call (Value.ref _) _) _ _ _); (fail_if_success (with_reducible show wpAny _ _ (call (Value.ref 87) _) _ _ _)); (fail_if_success ((with_reducible rename GoIn => hgo9); (with_reducible show wpAny _ _ (call (Value.ref 137) _) _ _ _))); refine Stop.mk ?_) | (k_here; (with_reducible show wpAny _ _ (call (Value.type "list") [Value.bytes _ _]) _ _ _); k_dflt (refine' lb_list ?kbaiN6 ?kbahN6 ?kbaFN6 ?kbaNN6 ?kbanN6 ?_; (case kbaFN6 => k_asm); (case kbaNN6 => k_asm); (case kbahN6 => rfl); (case kbaiN6 => kba_ints); (case kbanN6 => kba_size)); intro D9z us9z c9z h9z tk9z F9z N9z l19z hI9z; (try k_lt l19z); (try k_sweep)) | walk1 | (dsimp only; first | ((with_reducible show wpAny _ _ (call (Value.ref _) _) _ _ _); (fail_if_success (with_reducible show wpAny _ _ (call (Value.ref 87) _) _ _ _)); (fail_if_success ((with_reducible rename GoIn => hgo9); (with_reducible show wpAny _ _ (call (Value.ref 137) _) _ _ _))); refine Stop.mk ?_) | walk1)))
        · rename (out.length : Int) = sz => hsz
          unfold Stop
          rename Fr g' L' _ _ => F9
          rw [if_pos hsz] at e9
          exact LeaveR.ret (own' := []) hret F9 News.nil ⟨.inr ⟨_, _, _, e9, hc, rfl⟩, rfl⟩
        · rename (out.length : Int) ≠ sz => hsz
          unfold Stop
          rename Fr g' L' _ _ => F9
          rw [if_neg hsz] at e9
          exact LeaveR.ret (own' := []) hret F9 News.nil ⟨.inl ⟨e9, rfl⟩, rfl⟩

theorem lit_fold (g : Nat → Array Nat) (hg : ∀ c, (g c).size ≤ 4) : ∀ (l : List UInt8) (acc : Array Nat), (l.foldl (fun acc c => acc ++ g c.toNat) acc).size ≤ acc.size + 4 * l.length
  | [], acc => by simp
  | c :: l, acc => by
    rw [List.foldl_cons]
    have h1 := lit_fold g hg l (acc ++ g c.toNat)
    have h2 := hg c.toNat
    rw [Array.size_append] at h1
    rw [List.length_cons]
    omega
theorem le4 {p : Prop} [Decidable p] {a b : Array Nat} (ha : a.size ≤ 4) (hb : b.size ≤ 4) : (if p then a else b).size ≤ 4 := by
  by_cases h : p
  · rw [if_pos h]; exact ha
  · rw [if_neg h]; exact hb
theorem lit_len (b : Array UInt8) : (Builtin.Bytes.literal b).length ≤ 4 * b.size + 3 := by
  unfold Builtin.Bytes.literal
  dsimp only
  show (Array.push _ _).size ≤ _
  rw [Array.size_push, ← Array.foldl_toList]
  have h := lit_fold (fun c => if (c == if false = true then 39 else if (b.contains 39 && !b.contains 34) = true then 34 else 39) || c == 92 then #[92, c]
    else if c == 9 then #[92, 116]
    else if c == 10 then #[92, 110]
    else if c == 13 then #[92, 114]
    else if c < 32 || c ≥ 127 then #[92, 120, (if c / 16 < 10 then 48 + c / 16 else 87 + c / 16), (if c % 16 < 10 then 48 + c % 16 else 87 + c % 16)]
    else #[c]) (fun c => le4 (Nat.le_of_ble_eq_true rfl) (le4 (Nat.le_of_ble_eq_true rfl) (le4 (Nat.le_of_ble_eq_true rfl) (le4 (Nat.le_of_ble_eq_true rfl) (le4 (Nat.le_of_ble_eq_true rfl) (Nat.le_of_ble_eq_true rfl)))))) b.toList #[98, if (b.contains 39 && !b.contains 34) = true then 34 else 39]
  refine Nat.le_trans (Nat.add_le_add_right h 1) ?_
  rw [Array.length_toList]
  simp
  omega
theorem by_slot_repr : Slot "bytes" "__repr__" "bytes.__repr__" :=
  .of (owner := "bytes") (n := "__repr__") (by rw [typeLookup_type, builtinLookup_eq_fast]; kernel_rfl) (by decide +kernel) (by decide +kernel) (by decide +kernel)
    (by first | exact .inl (by decide +kernel) | exact .inr (by decide +kernel)) (by rw [isSubtype_type]; kernel_rfl)
theorem by_entry_repr : entryFor table "bytes.__repr__" = some Builtin.«bytes.__repr__» := by first | exact entryFor_of_fast (by kernel_rfl) | exact entryFor_of_tree (by kernel_rfl)
theorem by_args_repr (a : Value) : argsOk "bytes.__repr__" ⟨[a], []⟩ := by unfold argsOk; kernel_rfl
theorem by_gives_repr (b : Array UInt8) (t : Tok) (hz : 4 * b.size + 3 ≤ sizeLine) : Gives (Builtin.«bytes.__repr__» ⟨[.bytes b t], []⟩) (.str (Builtin.Bytes.literal b)) := by
  have h : Builtin.Bytes.tooLong (4 * b.size + 3 + 0) = false := by
    unfold Builtin.Bytes.tooLong
    exact decide_eq_false (Nat.not_lt.mpr hz)
  refine .of_eq ?_
  show (Builtin.Bytes.literalAsked b >>= retStr) = _
  unfold Builtin.Bytes.literalAsked
  rw [h]
  rfl
section
variable {prog : Program} {w : World} {A : Around} {E : Value → Shared → Prop} {s : Shared}
theorem repr_of_bytes {b : Array UInt8} {t : Tok} {Q : Value → Shared → Prop} (hz : 4 * b.size + 3 ≤ sizeLine) (h : Q (.str (Builtin.Bytes.literal b) s.toks) { s with toks := s.toks + 1 }) :
    wpAny (model prog w) A (call (.builtin "repr") [.bytes b t]) Q E s :=
  call_repr_gives (PySem.W.typeIs_bytes s b t) by_slot_repr by_entry_repr (by_args_repr _) (by_gives_repr b t hz) h (hx := Nat.le_trans (lit_len b) hz)
end
theorem bInts_inj {b c : Array UInt8} (h : KBw.bInts b = KBw.bInts c) : b = c := by
  unfold KBw.bInts at h
  have h2 : b.toList = c.toList := by
    generalize b.toList = x at h
    generalize c.toList = y at h
    induction x generalizing y with
    | nil =>
      cases y with
      | nil => rfl
      | cons _ _ => cases h
    | cons a x ih =>
      cases y with
      | nil => cases h
      | cons d y =>
        simp only [List.map_cons, List.cons.injEq] at h
        have e : a = d := UInt8.toNat_inj.mp (Int.ofNat.inj h.1)
        rw [e, ih y h.2]
  cases b
  cases c
  exact congrArg Array.mk h2
theorem appliedP_len {bl ks out : List Int} (hb : bl.length ≤ 2000) (hk : ks.length ≤ 2000) (h : appliedP bl ks = some out) : out.length ≤ 4002000 := by
  unfold appliedP at h
  split at h
  · cases h
  · split at h
    · split at h
      · cases h
      · rename_i o hr
        split at h
        · cases h
          exact run_len hb hk hr
        · cases h
    · cases h

section
variable {α : Type} {M : Model} {A : Around} {E : Value → Shared → Prop} {s : Shared} {env : Env}
theorem wpG_spliced_cons {x : Sem Value} {rest : List (Bool × Sem Value)} {Q : List Value → Shared → Prop}
    (h : wpG M A x (fun v s₁ => wpAny M A (spliced rest) (fun vs s₂ => Q (v :: vs) s₂) E s₁) E s) : wpG M A (spliced ((false, x) :: rest)) Q E s := by
  rw [spliced]
  refine wpG_bind (wpG_mono h (fun v s₁ h₁ => ?_) fun _ _ x => x)
  simp only [Bool.false_eq_true, if_false]
  exact wpG_step (wpAny_pure (wpG_step (wpAny_holding (wpAny_mono h₁ (fun vs s₂ h₂ => wpG_pure h₂) fun _ _ x => x))))
theorem wpG_eval_Tuple {e : Expr} {rest : List Expr} {k : Nat} {pos : Pos} {Q : Value → Shared → Prop}
    (h : wpG M A (eval e env) (fun v s₁ => wpAny M A (spliced (backTo pos (starEach rest env))) (fun vs s₂ => wpAny M A (newTuple (v :: vs)) Q E s₂) E s₁) E s)
    (he : starEach (e :: rest) env = (false, eval e env) :: starEach rest env := by rfl) : wpG M A (eval (.Tuple (e :: rest) k pos) env) Q E s := by
  show wpG M A (do standAt pos; newTuple (← spliced (backTo pos (starEach (e :: rest) env)))) Q E s
  rw [he]
  have h2 : wpG M A (spliced ((false, eval e env) :: backTo pos (starEach rest env))) (fun vs s => wpAny M A (newTuple vs) Q E s) E s := wpG_spliced_cons h
  exact wpG_step (wpAny_standAt (wpG_bind (wpG_mono h2 (fun _ _ x => wpG_any x) fun _ _ x => x)))
theorem wpG_Assign_Tuple_swapped {elts : List Expr} {k : Nat} {tpos pos : Pos} {value : Expr} {names : List Str} {Q : Flow → Shared → Prop}
    (h : wpG M A (eval value env) (fun v s₁ => wpAny M A (unpackItems v names.length none) (fun items s₂ =>
      wpAny M A (assignInOrder (names.reverse.map fun n => bindName env n) items.reverse) (fun _ => Q .next) E s₂) E s₁) E s)
    (hs : swapsWithSole [.Tuple elts k tpos] value pos.line env = pure false := by rfl)
    (hw : swappedStores [.Tuple elts k tpos] value env = pure (some names) := by rfl) :
    wpG M A (exec (.Assign [.Tuple elts k tpos] value pos) env) Q E s := by
  rw [exec_Assign]
  refine wpG_step (wpAny_standAt ?_)
  rw [hs]
  refine wpG_step (wpAny_pure ?_)
  rw [if_neg (by decide)]
  refine wpG_bind (wpG_mono h (fun v s₁ h₁ => ?_) fun _ _ x => x)
  rw [hw]
  refine wpG_step (wpAny_pure ?_)
  show wpG M A (do rule "assign.swapped-stores"; let items ← unpackItems v names.length none; assignInOrder (names.reverse.map fun n => bindName env n) items.reverse; pure .next) Q E s₁
  exact wpG_step (wpAny_rule (wpG_step (wpAny_mono h₁ (fun items s₂ h₂ => wpG_step (wpAny_mono h₂ (fun _ _ x => wpG_pure x) fun _ _ x => x)) fun _ _ x => x)))
end
section
theorem specTG_lright {w : World} {mean : ExcName → Option Value} {mg mb : Str → Option Value} {a b : Array UInt8} {ta tb : Tok} {bl ks : List Int}
    (ha : KBw.bInts a = bl) (hb : KBw.bInts b = ks) (hza : bl.length ≤ 2000) (hz : ks.length ≤ 2000) :
    SpecTG w mean mg mb 242 60 600 [] [.bytes a ta, .bytes b tb] (fun r o => r = .bool true ∧ o = []) := by
  unfold SpecTG
  w_top off
  intro dp un gd cn cs fa ccd cl outer A₀ base h₀ L m rest s R B F X N hap T XB TB D hk hd hu hret
  ((k_dflt (refine' code_ownTG ?k1N1 ?k2N1 ?k3N1 ?k4N1 ?kapN1 ?k5N1 ?kDN1 ?kAN1 ?kKN1 ?k6N1 ?k7N1 ?k8N1 ?k9N1 ?kBN1 ?_ ?c2N1 ?c3N1 ?c4N1 ?c5N1; (case kAN1 => exact rfl); (case kDN1 => k_asm); (case kKN1 => assumption); (case k1N1 => k_asm); (case k2N1 => k_asm); (case k3N1 => k_asm); (case k4N1 => k_asm); (case kapN1 => k_asm); (case k5N1 => k_asm); (case k6N1 => k_is); (case k7N1 => k_is); (case k8N1 => ktr_room); (case k9N1 => first | exact BindsTo.of_eq rfl | exact binds_K (by k_in) rfl (by k_is) rfl rfl rfl); (case c5N1 => decide); (case kBN1 => exact locs rfl); (case c2N1 => exact rfl); (case c3N1 => exact rfl); (case c4N1 => exact rfl); k_whole)))
  intro g' L' h' FG' F' N' B' X' T' D' hrest
  (try dsimp only)
  (try k_fold)
  have hMk := kstMark
  have hkin : KBa.In ks := fun x hx => KBw.ints_in (b := b) (hb ▸ hx)
  refine wpG_cons (wpG_Assign_Tuple_swapped (names := [Str.ofString "told", Str.ofString "due"]) (wpG_eval_Tuple (wpG_Call_Name ?_)))
  (repeat' (first | (k_unfold; (try dsimp only)) | (k_here; (with_reducible show wpAny _ _ (call (Value.builtin "repr") [Value.bytes _ _]) _ _ _); (refine repr_of_bytes (by rw [PySem.sizeLine_eq]; omega) ?_)) | ((with_reducible show wpAny _ _ (call (Value.ref _) _) _ _ _); (fail_if_success (with_reducible show wpAny _ _ (call (Value.ref 87) _) _ _ _)); (fail_if_success ((with_reducible rename GoIn => hgo9); (with_reducible show wpAny _ _ (call (Value.ref 137) _) _ _ _))); refine Stop.mk ?_) | (k_here; (with_reducible show wpAny _ _ (call (Value.type "list") [Value.bytes _ _]) _ _ _); k_dflt (refine' lb_list ?kbaiN2 ?kbahN2 ?kbaFN2 ?kbaNN2 ?kbanN2 ?_; (case kbaFN2 => k_asm); (case kbaNN2 => k_asm); (case kbahN2 => rfl); (case kbaiN2 => kba_ints); (case kbanN2 => kba_size)); intro D9z us9z c9z h9z tk9z F9z N9z l19z hI9z; (try k_lt l19z); (try k_sweep)) | walk1 | (dsimp only; first | ((with_reducible show wpAny _ _ (call (Value.ref _) _) _ _ _); (fail_if_success (with_reducible show wpAny _ _ (call (Value.ref 87) _) _ _ _)); (fail_if_success ((with_reducible rename GoIn => hgo9); (with_reducible show wpAny _ _ (call (Value.ref 137) _) _ _ _))); refine Stop.mk ?_) | walk1)))
  refine wpG_callWith_K (K := Mine.hd.heap_1_39 w.params) (by k_is) ?_
  (repeat' (first | (k_unfold; (try dsimp only)) | (k_here; (with_reducible show wpAny _ _ (call (Value.builtin "repr") [Value.bytes _ _]) _ _ _); (refine repr_of_bytes (by rw [PySem.sizeLine_eq]; omega) ?_)) | ((with_reducible show wpAny _ _ (call (Value.ref _) _) _ _ _); (fail_if_success (with_reducible show wpAny _ _ (call (Value.ref 87) _) _ _ _)); (fail_if_success ((with_reducible rename GoIn => hgo9); (with_reducible show wpAny _ _ (call (Value.ref 137) _) _ _ _))); refine Stop.mk ?_) | (k_here; (with_reducible show wpAny _ _ (call (Value.type "list") [Value.bytes _ _]) _ _ _); k_dflt (refine' lb_list ?kbaiN3 ?kbahN3 ?kbaFN3 ?kbaNN3 ?kbanN3 ?_; (case kbaFN3 => k_asm); (case kbaNN3 => k_asm); (case kbahN3 => rfl); (case kbaiN3 => kba_ints); (case kbanN3 => kba_size)); intro D9z us9z c9z h9z tk9z F9z N9z l19z hI9z; (try k_lt l19z); (try k_sweep)) | walk1 | (dsimp only; first | ((with_reducible show wpAny _ _ (call (Value.ref _) _) _ _ _); (fail_if_success (with_reducible show wpAny _ _ (call (Value.ref 87) _) _ _ _)); (fail_if_success ((with_reducible rename GoIn => hgo9); (with_reducible show wpAny _ _ (call (Value.ref 137) _) _ _ _))); refine Stop.mk ?_) | walk1)))
  refine' SpecTG.use0 (specTG_lheard ha hb hza hz) B' F' X' N' T' XB TB D' rfl ?ud ?uu ?_
  case ud => ktr_room
  case uu => ktr_units
  intro r9 o9 g9 h9 tk9 T9 B9 F9 N9 hgood9
  have X9 := XB.keeps B9.stays
  have TT9 := TB.keeps B9.stays
  have D9 := D'.turn T9
  obtain ⟨hv9, rfl⟩ : ((applyP bl ks = none ∧ r9 = .none) ∨ ∃ out c t, applyP bl ks = some out ∧ KBw.bInts c = out ∧ r9 = .bytes c t) ∧ o9 = [] := by
    rcases hgood9 with ⟨h1, h2, h3⟩ | ⟨out, c, t, h1, h2, h3, h4⟩
    · exact ⟨.inl ⟨h1, h2⟩, h3⟩
    · exact ⟨.inr ⟨out, c, t, h1, h2, h3⟩, h4⟩
  clear hgood9 F' N' B' X' T' D'
  (try simp only [List.cons_append, List.nil_append] at N9)
  dsimp only
  (repeat' (first | (k_unfold; (try dsimp only)) | (k_here; (with_reducible show wpAny _ _ (call (Value.builtin "repr") [Value.bytes _ _]) _ _ _); (refine repr_of_bytes (by rw [PySem.sizeLine_eq]; omega) ?_)) | ((with_reducible show wpAny _ _ (call (Value.ref _) _) _ _ _); (fail_if_success (with_reducible show wpAny _ _ (call (Value.ref 87) _) _ _ _)); (fail_if_success ((with_reducible rename GoIn => hgo9); (with_reducible show wpAny _ _ (call (Value.ref 137) _) _ _ _))); refine Stop.mk ?_) | (k_here; (with_reducible show wpAny _ _ (call (Value.type "list") [Value.bytes _ _]) _ _ _); k_dflt (refine' lb_list ?kbaiN4 ?kbahN4 ?kbaFN4 ?kbaNN4 ?kbanN4 ?_; (case kbaFN4 => k_asm); (case kbaNN4 => k_asm); (case kbahN4 => rfl); (case kbaiN4 => kba_ints); (case kbanN4 => kba_size)); intro D9z us9z c9z h9z tk9z F9z N9z l19z hI9z; (try k_lt l19z); (try k_sweep)) | walk1 | (dsimp only; first | ((with_reducible show wpAny _ _ (call (Value.ref _) _) _ _ _); (fail_if_success (with_reducible show wpAny _ _ (call (Value.ref 87) _) _ _ _)); (fail_if_success ((with_reducible rename GoIn => hgo9); (with_reducible show wpAny _ _ (call (Value.ref 137) _) _ _ _))); refine Stop.mk ?_) | walk1)))
  unfold Stop
  rename Fr g9 L' _ _ => F8
  rename News g9 L' _ _ => N8
  (try dsimp only)
  refine' Spec.use0 (spec_lapplied ha hb hza hz) B9 F8 X9 N8 TT9 rfl ?ud ?uu ?_ ?_
  case ud => ktr_room
  case uu => ktr_units
  rotate_left 1
  · intro hno
    exact hno.elim
  rintro r8 o8 h8 tk8 F8 N8 A9 ⟨hv8, rfl⟩
  (try simp only [List.cons_append, List.nil_append] at N8)
  rw [apply_is hkin] at hv9
  have hv : (r9 = .none ∧ r8 = .none) ∨ ∃ c t t', c.size ≤ 4002000 ∧ r9 = .bytes c t ∧ r8 = .bytes c t' := by
    rcases hv9 with ⟨h1, rfl⟩ | ⟨out, c, t, h1, h2, rfl⟩
    · rcases hv8 with ⟨_, rfl⟩ | ⟨_, _, _, h3, _, _⟩
      · exact .inl ⟨rfl, rfl⟩
      · rw [h1] at h3
        cases h3
    · rcases hv8 with ⟨h3, _⟩ | ⟨c', out', t', h3, h4, rfl⟩
      · rw [h1] at h3
        cases h3
      · rw [h1] at h3
        cases h3
        have e := bInts_inj (h2.trans h4.symm)
        subst e
        have hl := appliedP_len hza hz h1
        rw [← h2, KBw.ints_length] at hl
        exact .inr ⟨_, _, _, hl, rfl, rfl⟩
  clear hv8 hv9
  rcases hv with ⟨rfl, rfl⟩ | ⟨c, t, t', hc9, rfl, rfl⟩
  · (repeat' (first | (k_unfold; (try dsimp only)) | (k_here; (with_reducible show wpAny _ _ (call (Value.builtin "repr") [Value.bytes _ _]) _ _ _); (refine repr_of_bytes (by rw [PySem.sizeLine_eq]; omega) ?_)) | ((with_reducible show wpAny _ _ (call (Value.ref _) _) _ _ _); (fail_if_success (with_reducible show wpAny _ _ (call (Value.ref 87) _) _ _ _)); (fail_if_success ((with_reducible rename GoIn => hgo9); (with_reducible show wpAny _ _ (call (Value.ref 137) _) _ _ _))); refine Stop.mk ?_) | (k_here; (with_reducible show wpAny _ _ (call (Value.type "list") [Value.bytes _ _]) _ _ _); k_dflt (refine' lb_list ?kbaiN5 ?kbahN5 ?kbaFN5 ?kbaNN5 ?kbanN5 ?_; (case kbaFN5 => k_asm); (case kbaNN5 => k_asm); (case kbahN5 => rfl); (case kbaiN5 => kba_ints); (case kbanN5 => kba_size)); intro D9z us9z c9z h9z tk9z F9z N9z l19z hI9z; (try k_lt l19z); (try k_sweep)) | walk1 | (dsimp only; first | ((with_reducible show wpAny _ _ (call (Value.ref _) _) _ _ _); (fail_if_success (with_reducible show wpAny _ _ (call (Value.ref 87) _) _ _ _)); (fail_if_success ((with_reducible rename GoIn => hgo9); (with_reducible show wpAny _ _ (call (Value.ref 137) _) _ _ _))); refine Stop.mk ?_) | walk1)))
    refine wpG_cons (wpG_Return (wpG_any ?_))
    (repeat' (first | (k_unfold; (try dsimp only)) | (k_here; (with_reducible show wpAny _ _ (call (Value.builtin "repr") [Value.bytes _ _]) _ _ _); (refine repr_of_bytes (by rw [PySem.sizeLine_eq]; omega) ?_)) | ((with_reducible show wpAny _ _ (call (Value.ref _) _) _ _ _); (fail_if_success (with_reducible show wpAny _ _ (call (Value.ref 87) _) _ _ _)); (fail_if_success ((with_reducible rename GoIn => hgo9); (with_reducible show wpAny _ _ (call (Value.ref 137) _) _ _ _))); refine Stop.mk ?_) | (k_here; (with_reducible show wpAny _ _ (call (Value.type "list") [Value.bytes _ _]) _ _ _); k_dflt (refine' lb_list ?kbaiN6 ?kbahN6 ?kbaFN6 ?kbaNN6 ?kbanN6 ?_; (case kbaFN6 => k_asm); (case kbaNN6 => k_asm); (case kbahN6 => rfl); (case kbaiN6 => kba_ints); (case kbanN6 => kba_size)); intro D9z us9z c9z h9z tk9z F9z N9z l19z hI9z; (try k_lt l19z); (try k_sweep)) | walk1 | (dsimp only; first | ((with_reducible show wpAny _ _ (call (Value.ref _) _) _ _ _); (fail_if_success (with_reducible show wpAny _ _ (call (Value.ref 87) _) _ _ _)); (fail_if_success ((with_reducible rename GoIn => hgo9); (with_reducible show wpAny _ _ (call (Value.ref 137) _) _ _ _))); refine Stop.mk ?_) | walk1)))
    unfold Stop
    rename Fr g9 L' _ _ => F7
    rename News g9 L' _ _ => N7
    (try dsimp only)
    refine' SpecT.use0 (specT_lhhead hb hz) B9 F7 X9 N7 TT9 XB TB D9 rfl ?ud ?uu ?_
    case ud => ktr_room
    case uu => ktr_units
    intro r7 o7 g7 h7 tk7 T7 B7 F6 N6 hgood7
    have X7 := XB.keeps B7.stays
    have TT7 := TB.keeps B7.stays
    clear F7 N7 X9 TT9 D9 B9
    rcases hgood7 with ⟨hh, rfl, rfl⟩ | ⟨n, sz, p, D7, t1, t2, t3, hh, rfl, rfl⟩
    · (try simp only [List.cons_append, List.nil_append] at N6)
      (repeat' (first | (k_unfold; (try dsimp only)) | (k_here; (with_reducible show wpAny _ _ (call (Value.builtin "repr") [Value.bytes _ _]) _ _ _); (refine repr_of_bytes (by rw [PySem.sizeLine_eq]; omega) ?_)) | ((with_reducible show wpAny _ _ (call (Value.ref _) _) _ _ _); (fail_if_success (with_reducible show wpAny _ _ (call (Value.ref 87) _) _ _ _)); (fail_if_success ((with_reducible rename GoIn => hgo9); (with_reducible show wpAny _ _ (call (Value.ref 137) _) _ _ _))); refine Stop.mk ?_) | (k_here; (with_reducible show wpAny _ _ (call (Value.type "list") [Value.bytes _ _]) _ _ _); k_dflt (refine' lb_list ?kbaiN7 ?kbahN7 ?kbaFN7 ?kbaNN7 ?kbanN7 ?_; (case kbaFN7 => k_asm); (case kbaNN7 => k_asm); (case kbahN7 => rfl); (case kbaiN7 => kba_ints); (case kbanN7 => kba_size)); intro D9z us9z c9z h9z tk9z F9z N9z l19z hI9z; (try k_lt l19z); (try k_sweep)) | walk1 | (dsimp only; first | ((with_reducible show wpAny _ _ (call (Value.ref _) _) _ _ _); (fail_if_success (with_reducible show wpAny _ _ (call (Value.ref 87) _) _ _ _)); (fail_if_success ((with_reducible rename GoIn => hgo9); (with_reducible show wpAny _ _ (call (Value.ref 137) _) _ _ _))); refine Stop.mk ?_) | walk1)))
      unfold Stop
      rename Fr g7 L' _ _ => F7
      rename News g7 L' _ _ => N7
      (try dsimp only)
      refine' Spec.use0 (spec_lhead hb hz) B7 F7 X7 N7 TT7 rfl ?ud ?uu ?_ ?_
      case ud => ktr_room
      case uu => ktr_units
      rotate_left 1
      · intro hno
        exact hno.elim
      rintro r5 o5 h5 tk5 F5 N5 A9 (⟨hh5, rfl, rfl⟩ | ⟨_, _, _, _, _, _, _, hh5, _, _, _, _⟩)
      · (try simp only [List.cons_append, List.nil_append] at N5)
        (repeat' (first | (k_unfold; (try dsimp only)) | (k_here; (with_reducible show wpAny _ _ (call (Value.builtin "repr") [Value.bytes _ _]) _ _ _); (refine repr_of_bytes (by rw [PySem.sizeLine_eq]; omega) ?_)) | ((with_reducible show wpAny _ _ (call (Value.ref _) _) _ _ _); (fail_if_success (with_reducible show wpAny _ _ (call (Value.ref 87) _) _ _ _)); (fail_if_success ((with_reducible rename GoIn => hgo9); (with_reducible show wpAny _ _ (call (Value.ref 137) _) _ _ _))); refine Stop.mk ?_) | (k_here; (with_reducible show wpAny _ _ (call (Value.type "list") [Value.bytes _ _]) _ _ _); k_dflt (refine' lb_list ?kbaiN8 ?kbahN8 ?kbaFN8 ?kbaNN8 ?kbanN8 ?_; (case kbaFN8 => k_asm); (case kbaNN8 => k_asm); (case kbahN8 => rfl); (case kbaiN8 => kba_ints); (case kbanN8 => kba_size)); intro D9z us9z c9z h9z tk9z F9z N9z l19z hI9z; (try k_lt l19z); (try k_sweep)) | walk1 | (dsimp only; first | ((with_reducible show wpAny _ _ (call (Value.ref _) _) _ _ _); (fail_if_success (with_reducible show wpAny _ _ (call (Value.ref 87) _) _ _ _)); (fail_if_success ((with_reducible rename GoIn => hgo9); (with_reducible show wpAny _ _ (call (Value.ref 137) _) _ _ _))); refine Stop.mk ?_) | walk1)))
        rename Fr g7 L' _ _ => F4
        exact ⟨g7, _, _, [], T9.trans T7, F4, News.nil, fun h₀' TT BB kF kN => hret _ [] _ _ _ TT BB kF kN ⟨rfl, rfl⟩⟩
      · rw [hh] at hh5
        cases hh5
    · (try simp only [List.cons_append, List.nil_append] at N6)
      (repeat' (first | (k_unfold; (try dsimp only)) | (k_here; (with_reducible show wpAny _ _ (call (Value.builtin "repr") [Value.bytes _ _]) _ _ _); (refine repr_of_bytes (by rw [PySem.sizeLine_eq]; omega) ?_)) | ((with_reducible show wpAny _ _ (call (Value.ref _) _) _ _ _); (fail_if_success (with_reducible show wpAny _ _ (call (Value.ref 87) _) _ _ _)); (fail_if_success ((with_reducible rename GoIn => hgo9); (with_reducible show wpAny _ _ (call (Value.ref 137) _) _ _ _))); refine Stop.mk ?_) | (k_here; (with_reducible show wpAny _ _ (call (Value.type "list") [Value.bytes _ _]) _ _ _); k_dflt (refine' lb_list ?kbaiN9 ?kbahN9 ?kbaFN9 ?kbaNN9 ?kbanN9 ?_; (case kbaFN9 => k_asm); (case kbaNN9 => k_asm); (case kbahN9 => rfl); (case kbaiN9 => kba_ints); (case kbanN9 => kba_size)); intro D9z us9z c9z h9z tk9z F9z N9z l19z hI9z; (try k_lt l19z); (try k_sweep)) | walk1 | (dsimp only; first | ((with_reducible show wpAny _ _ (call (Value.ref _) _) _ _ _); (fail_if_success (with_reducible show wpAny _ _ (call (Value.ref 87) _) _ _ _)); (fail_if_success ((with_reducible rename GoIn => hgo9); (with_reducible show wpAny _ _ (call (Value.ref 137) _) _ _ _))); refine Stop.mk ?_) | walk1)))
      unfold Stop
      rename Fr g7 L' _ _ => F7
      rename News g7 L' _ _ => N7
      (try dsimp only)
      refine' Spec.use0 (spec_lhead hb hz) B7 F7 X7 N7 TT7 rfl ?ud ?uu ?_ ?_
      case ud => ktr_room
      case uu => ktr_units
      rotate_left 1
      · intro hno
        exact hno.elim
      rintro r5 o5 h5 tk5 F5 N5 A9 (⟨hh5, rfl, rfl⟩ | ⟨n5, sz5, p5, D5, u1, u2, u3, hh5, _, _, rfl, rfl⟩)
      · rw [hh] at hh5
        cases hh5
      · rw [hh] at hh5
        cases hh5
        (try simp only [List.cons_append, List.nil_append] at N5)
        (repeat' (first | (k_unfold; (try dsimp only)) | (k_here; (with_reducible show wpAny _ _ (call (Value.builtin "repr") [Value.bytes _ _]) _ _ _); (refine repr_of_bytes (by rw [PySem.sizeLine_eq]; omega) ?_)) | ((with_reducible show wpAny _ _ (call (Value.ref _) _) _ _ _); (fail_if_success (with_reducible show wpAny _ _ (call (Value.ref 87) _) _ _ _)); (fail_if_success ((with_reducible rename GoIn => hgo9); (with_reducible show wpAny _ _ (call (Value.ref 137) _) _ _ _))); refine Stop.mk ?_) | (k_here; (with_reducible show wpAny _ _ (call (Value.type "list") [Value.bytes _ _]) _ _ _); k_dflt (refine' lb_list ?kbaiN10 ?kbahN10 ?kbaFN10 ?kbaNN10 ?kbanN10 ?_; (case kbaFN10 => k_asm); (case kbaNN10 => k_asm); (case kbahN10 => rfl); (case kbaiN10 => kba_ints); (case kbanN10 => kba_size)); intro D9z us9z c9z h9z tk9z F9z N9z l19z hI9z; (try k_lt l19z); (try k_sweep)) | walk1 | (dsimp only; first | ((with_reducible show wpAny _ _ (call (Value.ref _) _) _ _ _); (fail_if_success (with_reducible show wpAny _ _ (call (Value.ref 87) _) _ _ _)); (fail_if_success ((with_reducible rename GoIn => hgo9); (with_reducible show wpAny _ _ (call (Value.ref 137) _) _ _ _))); refine Stop.mk ?_) | walk1)))
        rename Fr g7 L' _ _ => F4
        exact ⟨g7, _, _, [], T9.trans T7, F4, News.nil, fun h₀' TT BB kF kN => hret _ [] _ _ _ TT BB kF kN ⟨rfl, rfl⟩⟩
  · (repeat' (first | (k_unfold; (try dsimp only)) | (k_here; (with_reducible show wpAny _ _ (call (Value.builtin "repr") [Value.bytes _ _]) _ _ _); (refine repr_of_bytes (by rw [PySem.sizeLine_eq]; omega) ?_)) | ((with_reducible show wpAny _ _ (call (Value.ref _) _) _ _ _); (fail_if_success (with_reducible show wpAny _ _ (call (Value.ref 87) _) _ _ _)); (fail_if_success ((with_reducible rename GoIn => hgo9); (with_reducible show wpAny _ _ (call (Value.ref 137) _) _ _ _))); refine Stop.mk ?_) | (k_here; (with_reducible show wpAny _ _ (call (Value.type "list") [Value.bytes _ _]) _ _ _); k_dflt (refine' lb_list ?kbaiN11 ?kbahN11 ?kbaFN11 ?kbaNN11 ?kbanN11 ?_; (case kbaFN11 => k_asm); (case kbaNN11 => k_asm); (case kbahN11 => rfl); (case kbaiN11 => kba_ints); (case kbanN11 => kba_size)); intro D9z us9z c9z h9z tk9z F9z N9z l19z hI9z; (try k_lt l19z); (try k_sweep)) | walk1 | (dsimp only; first | ((with_reducible show wpAny _ _ (call (Value.ref _) _) _ _ _); (fail_if_success (with_reducible show wpAny _ _ (call (Value.ref 87) _) _ _ _)); (fail_if_success ((with_reducible rename GoIn => hgo9); (with_reducible show wpAny _ _ (call (Value.ref 137) _) _ _ _))); refine Stop.mk ?_) | walk1)))
    refine wpG_cons (wpG_Return (wpG_any ?_))
    have hee : (Builtin.Bytes.literal c == Builtin.Bytes.literal c) = true := beq_self_eq_true _
    (repeat' (first | (k_unfold; (try dsimp only)) | (k_here; (with_reducible show wpAny _ _ (call (Value.builtin "repr") [Value.bytes _ _]) _ _ _); (refine repr_of_bytes (by rw [PySem.sizeLine_eq]; omega) ?_)) | ((with_reducible show wpAny _ _ (call (Value.ref _) _) _ _ _); (fail_if_success (with_reducible show wpAny _ _ (call (Value.ref 87) _) _ _ _)); (fail_if_success ((with_reducible rename GoIn => hgo9); (with_reducible show wpAny _ _ (call (Value.ref 137) _) _ _ _))); refine Stop.mk ?_) | (k_here; (with_reducible show wpAny _ _ (call (Value.type "list") [Value.bytes _ _]) _ _ _); k_dflt (refine' lb_list ?kbaiN12 ?kbahN12 ?kbaFN12 ?kbaNN12 ?kbanN12 ?_; (case kbaFN12 => k_asm); (case kbaNN12 => k_asm); (case kbahN12 => rfl); (case kbaiN12 => kba_ints); (case kbanN12 => kba_size)); intro D9z us9z c9z h9z tk9z F9z N9z l19z hI9z; (try k_lt l19z); (try k_sweep)) | walk1 | (dsimp only; first | ((with_reducible show wpAny _ _ (call (Value.ref _) _) _ _ _); (fail_if_success (with_reducible show wpAny _ _ (call (Value.ref 87) _) _ _ _)); (fail_if_success ((with_reducible rename GoIn => hgo9); (with_reducible show wpAny _ _ (call (Value.ref 137) _) _ _ _))); refine Stop.mk ?_) | walk1)))
    unfold Stop
    rename Fr g9 L' _ _ => F7
    rename News g9 L' _ _ => N7
    (try dsimp only)
    refine' SpecT.use0 (specT_lhhead hb hz) B9 F7 X9 N7 TT9 XB TB D9 rfl ?ud ?uu ?_
    case ud => ktr_room
    case uu => ktr_units
    intro r7 o7 g7 h7 tk7 T7 B7 F6 N6 hgood7
    have X7 := XB.keeps B7.stays
    have TT7 := TB.keeps B7.stays
    clear F7 N7 X9 TT9 D9 B9
    rcases hgood7 with ⟨hh, rfl, rfl⟩ | ⟨n, sz, p, D7, t1, t2, t3, hh, rfl, rfl⟩
    · (try simp only [List.cons_append, List.nil_append] at N6)
      (repeat' (first | (k_unfold; (try dsimp only)) | (k_here; (with_reducible show wpAny _ _ (call (Value.builtin "repr") [Value.bytes _ _]) _ _ _); (refine repr_of_bytes (by rw [PySem.sizeLine_eq]; omega) ?_)) | ((with_reducible show wpAny _ _ (call (Value.ref _) _) _ _ _); (fail_if_success (with_reducible show wpAny _ _ (call (Value.ref 87) _) _ _ _)); (fail_if_success ((with_reducible rename GoIn => hgo9); (with_reducible show wpAny _ _ (call (Value.ref 137) _) _ _ _))); refine Stop.mk ?_) | (k_here; (with_reducible show wpAny _ _ (call (Value.type "list") [Value.bytes _ _]) _ _ _); k_dflt (refine' lb_list ?kbaiN13 ?kbahN13 ?kbaFN13 ?kbaNN13 ?kbanN13 ?_; (case kbaFN13 => k_asm); (case kbaNN13 => k_asm); (case kbahN13 => rfl); (case kbaiN13 => kba_ints); (case kbanN13 => kba_size)); intro D9z us9z c9z h9z tk9z F9z N9z l19z hI9z; (try k_lt l19z); (try k_sweep)) | walk1 | (dsimp only; first | ((with_reducible show wpAny _ _ (call (Value.ref _) _) _ _ _); (fail_if_success (with_reducible show wpAny _ _ (call (Value.ref 87) _) _ _ _)); (fail_if_success ((with_reducible rename GoIn => hgo9); (with_reducible show wpAny _ _ (call (Value.ref 137) _) _ _ _))); refine Stop.mk ?_) | walk1)))
      unfold Stop
      rename Fr g7 L' _ _ => F7
      rename News g7 L' _ _ => N7
      (try dsimp only)
      refine' Spec.use0 (spec_lhead hb hz) B7 F7 X7 N7 TT7 rfl ?ud ?uu ?_ ?_
      case ud => ktr_room
      case uu => ktr_units
      rotate_left 1
      · intro hno
        exact hno.elim
      rintro r5 o5 h5 tk5 F5 N5 A9 (⟨hh5, rfl, rfl⟩ | ⟨_, _, _, _, _, _, _, hh5, _, _, _, _⟩)
      · (try simp only [List.cons_append, List.nil_append] at N5)
        (repeat' (first | (k_unfold; (try dsimp only)) | (k_here; (with_reducible show wpAny _ _ (call (Value.builtin "repr") [Value.bytes _ _]) _ _ _); (refine repr_of_bytes (by rw [PySem.sizeLine_eq]; omega) ?_)) | ((with_reducible show wpAny _ _ (call (Value.ref _) _) _ _ _); (fail_if_success (with_reducible show wpAny _ _ (call (Value.ref 87) _) _ _ _)); (fail_if_success ((with_reducible rename GoIn => hgo9); (with_reducible show wpAny _ _ (call (Value.ref 137) _) _ _ _))); refine Stop.mk ?_) | (k_here; (with_reducible show wpAny _ _ (call (Value.type "list") [Value.bytes _ _]) _ _ _); k_dflt (refine' lb_list ?kbaiN14 ?kbahN14 ?kbaFN14 ?kbaNN14 ?kbanN14 ?_; (case kbaFN14 => k_asm); (case kbaNN14 => k_asm); (case kbahN14 => rfl); (case kbaiN14 => kba_ints); (case kbanN14 => kba_size)); intro D9z us9z c9z h9z tk9z F9z N9z l19z hI9z; (try k_lt l19z); (try k_sweep)) | walk1 | (dsimp only; first | ((with_reducible show wpAny _ _ (call (Value.ref _) _) _ _ _); (fail_if_success (with_reducible show wpAny _ _ (call (Value.ref 87) _) _ _ _)); (fail_if_success ((with_reducible rename GoIn => hgo9); (with_reducible show wpAny _ _ (call (Value.ref 137) _) _ _ _))); refine Stop.mk ?_) | walk1)))
        rename Fr g7 L' _ _ => F4
        exact ⟨g7, _, _, [], T9.trans T7, F4, News.nil, fun h₀' TT BB kF kN => hret _ [] _ _ _ TT BB kF kN ⟨rfl, rfl⟩⟩
      · rw [hh] at hh5
        cases hh5
    · (try simp only [List.cons_append, List.nil_append] at N6)
      (repeat' (first | (k_unfold; (try dsimp only)) | (k_here; (with_reducible show wpAny _ _ (call (Value.builtin "repr") [Value.bytes _ _]) _ _ _); (refine repr_of_bytes (by rw [PySem.sizeLine_eq]; omega) ?_)) | ((with_reducible show wpAny _ _ (call (Value.ref _) _) _ _ _); (fail_if_success (with_reducible show wpAny _ _ (call (Value.ref 87) _) _ _ _)); (fail_if_success ((with_reducible rename GoIn => hgo9); (with_reducible show wpAny _ _ (call (Value.ref 137) _) _ _ _))); refine Stop.mk ?_) | (k_here; (with_reducible show wpAny _ _ (call (Value.type "list") [Value.bytes _ _]) _ _ _); k_dflt (refine' lb_list ?kbaiN15 ?kbahN15 ?kbaFN15 ?kbaNN15 ?kbanN15 ?_; (case kbaFN15 => k_asm); (case kbaNN15 => k_asm); (case kbahN15 => rfl); (case kbaiN15 => kba_ints); (case kbanN15 => kba_size)); intro D9z us9z c9z h9z tk9z F9z N9z l19z hI9z; (try k_lt l19z); (try k_sweep)) | walk1 | (dsimp only; first | ((with_reducible show wpAny _ _ (call (Value.ref _) _) _ _ _); (fail_if_success (with_reducible show wpAny _ _ (call (Value.ref 87) _) _ _ _)); (fail_if_success ((with_reducible rename GoIn => hgo9); (with_reducible show wpAny _ _ (call (Value.ref 137) _) _ _ _))); refine Stop.mk ?_) | walk1)))
      unfold Stop
      rename Fr g7 L' _ _ => F7
      rename News g7 L' _ _ => N7
      (try dsimp only)
      refine' Spec.use0 (spec_lhead hb hz) B7 F7 X7 N7 TT7 rfl ?ud ?uu ?_ ?_
      case ud => ktr_room
      case uu => ktr_units
      rotate_left 1
      · intro hno
        exact hno.elim
      rintro r5 o5 h5 tk5 F5 N5 A9 (⟨hh5, rfl, rfl⟩ | ⟨n5, sz5, p5, D5, u1, u2, u3, hh5, _, _, rfl, rfl⟩)
      · rw [hh] at hh5
        cases hh5
      · rw [hh] at hh5
        cases hh5
        (try simp only [List.cons_append, List.nil_append] at N5)
        (repeat' (first | (k_unfold; (try dsimp only)) | (k_here; (with_reducible show wpAny _ _ (call (Value.builtin "repr") [Value.bytes _ _]) _ _ _); (refine repr_of_bytes (by rw [PySem.sizeLine_eq]; omega) ?_)) | ((with_reducible show wpAny _ _ (call (Value.ref _) _) _ _ _); (fail_if_success (with_reducible show wpAny _ _ (call (Value.ref 87) _) _ _ _)); (fail_if_success ((with_reducible rename GoIn => hgo9); (with_reducible show wpAny _ _ (call (Value.ref 137) _) _ _ _))); refine Stop.mk ?_) | (k_here; (with_reducible show wpAny _ _ (call (Value.type "list") [Value.bytes _ _]) _ _ _); k_dflt (refine' lb_list ?kbaiN16 ?kbahN16 ?kbaFN16 ?kbaNN16 ?kbanN16 ?_; (case kbaFN16 => k_asm); (case kbaNN16 => k_asm); (case kbahN16 => rfl); (case kbaiN16 => kba_ints); (case kbanN16 => kba_size)); intro D9z us9z c9z h9z tk9z F9z N9z l19z hI9z; (try k_lt l19z); (try k_sweep)) | walk1 | (dsimp only; first | ((with_reducible show wpAny _ _ (call (Value.ref _) _) _ _ _); (fail_if_success (with_reducible show wpAny _ _ (call (Value.ref 87) _) _ _ _)); (fail_if_success ((with_reducible rename GoIn => hgo9); (with_reducible show wpAny _ _ (call (Value.ref 137) _) _ _ _))); refine Stop.mk ?_) | walk1)))
        rename Fr g7 L' _ _ => F4
        exact ⟨g7, _, _, [], T9.trans T7, F4, News.nil, fun h₀' TT BB kF kN => hret _ [] _ _ _ TT BB kF kN ⟨rfl, rfl⟩⟩
end

theorem spec_lrunL {w : World} {mean : ExcName → Option Value} {mg mb : Str → Option Value} {a : Array UInt8} {bl ks : List Int} {p0 : Int} {ta t : Tok} {pd : Addr} {pvs : List Value} {pcap : Nat}
    (ha : KBw.bInts a = bl) (hpI : IntsAre pvs ks) (hkin : KBa.In ks) (hza : bl.length ≤ 2000) (hz : ks.length ≤ 2000) (h0 : 0 ≤ p0) (h1 : p0 ≤ ks.length) :
    Spec w mean mg mb 183 4 32 [(pd, W.listOf pvs.toArray pcap)] [.bytes a ta, .ref pd, .int p0 t] (fun r o => (r = .none ∨ ∃ c tc, (KBw.bInts c).length ≤ ks.length * 2000 ∧ r = .bytes c tc) ∧ o = [(pd, W.listOf pvs.toArray pcap)]) False := by
  unfold Spec
  intro dp un gd cn cs fa ccd cl outer A₀ base h₀ L m rest s R B F X N hap T hk hd hu hret hbad
  exact spec_lrun ha (.inr ⟨pd, pvs, pcap, rfl, rfl, hpI⟩) hkin hza hz h0 h1 dp un gd cn cs fa ccd cl outer A₀ base h₀ L m rest s R B F X N hap T hk hd hu
    (fun r o h' tk F N A g => hret r o h' tk F N A ⟨g.1.imp (fun x => x.2) (fun ⟨c, out, tc, _, hc, hl, hr⟩ => ⟨c, tc, hc ▸ hl, hr⟩), g.2⟩) hbad

def putF : Nat → Int → List Int
  | 0, n => [n]
  | f + 1, n => if n > 127 then (128 + n % 128) :: putF f (n / 128) else [n]
def putS (n : Int) : List Int := putF n.toNat n

theorem putF_more : ∀ (f g : Nat) (n : Int), n.toNat ≤ f → n.toNat ≤ g → putF f n = putF g n := by
  intro f
  induction f with
  | zero =>
    intro g n h1 h2
    cases g with
    | zero => rfl
    | succ g => rw [putF, putF, if_neg (by omega)]
  | succ f ih =>
    intro g n h1 h2
    cases g with
    | zero => rw [putF, putF, if_neg (by omega)]
    | succ g =>
      rw [putF, putF]
      split
      · rw [ih g (n / 128) (by omega) (by omega)]
      · rfl
theorem putS_gt {n : Int} (h : 127 < n) : putS n = (128 + n % 128) :: putS (n / 128) := by
  unfold putS
  have e : n.toNat = (n.toNat - 1) + 1 := by omega
  rw [e, putF, if_pos (by omega), putF_more (n.toNat - 1) (n / 128).toNat _ (by omega) (by omega)]
theorem putS_le {n : Int} (h : ¬ 127 < n) : putS n = [n] := by
  unfold putS
  cases n.toNat with
  | zero => rfl
  | succ f => rw [putF, if_neg (by omega)]

theorem putF_len : ∀ (f : Nat) (j : Nat) (n : Int), 0 ≤ n → n < 128 ^ (j + 1) → (putF f n).length ≤ j + 1 := by
  intro f
  induction f with
  | zero => intro j n _ _; simp [putF]
  | succ f ih =>
    intro j n h0 h1
    rw [putF]
    split
    · cases j with
      | zero => rw [Nat.zero_add, Int.pow_succ, Int.pow_zero] at h1; omega
      | succ j =>
        have := ih j (n / 128) (by omega) (by rw [Int.pow_succ] at h1; omega)
        rw [List.length_cons]; omega
    · simp
theorem putS_len {n : Int} (h0 : 0 ≤ n) (h1 : n < 1099511627776) : (putS n).length ≤ 6 := putF_len _ 5 n h0 (by omega)
theorem putF_in : ∀ (f : Nat) (n : Int), 0 ≤ n → n.toNat ≤ f → KBa.In (putF f n) := by
  intro f
  induction f with
  | zero => intro n h0 h1 x hx; simp only [putF, List.mem_singleton] at hx; omega
  | succ f ih =>
    intro n h0 h1 x hx
    rw [putF] at hx
    split at hx
    · rcases List.mem_cons.mp hx with rfl | hx
      · omega
      · exact ih (n / 128) (by omega) (by omega) x hx
    · simp only [List.mem_singleton] at hx; omega
theorem putS_in {n : Int} (h0 : 0 ≤ n) : KBa.In (putS n) := putF_in _ n h0 (Nat.le_refl _)
theorem or_low (k : Int) : Builtin.bitOr 128 (Builtin.bitAnd k 127) = 128 + k % 128 := by
  rw [bitOr_and, bitAnd_m7, show (128 : Int) = 2 ^ 7 from by decide, kbt_bit']
  have : k % 2 ^ 7 / 2 ^ 7 = 0 := by omega
  rw [this]
  omega
theorem fdiv128 (k : Int) : k.fdiv (2 ^ Int.toNat 7) = k / 128 := Int.fdiv_eq_ediv_of_nonneg k (by decide)
theorem put_turn {n k : Int} {l : List Int} (h0 : 0 ≤ n) (h1 : n < 1099511627776) (hP : 0 ≤ k ∧ k < 1099511627776 ∧ l.length ≤ 40 ∧ putS n = l ++ putS k) (hk : 127 < k) :
    0 ≤ k.fdiv (2 ^ Int.toNat 7) ∧ k.fdiv (2 ^ Int.toNat 7) < 1099511627776 ∧ (l ++ [Builtin.bitOr 128 (Builtin.bitAnd k 127)]).length ≤ 40 ∧ putS n = (l ++ [Builtin.bitOr 128 (Builtin.bitAnd k 127)]) ++ putS (k.fdiv (2 ^ Int.toNat 7)) := by
  rw [fdiv128, or_low]
  obtain ⟨a, b, c, d⟩ := hP
  rw [putS_gt hk] at d
  refine ⟨by omega, by omega, ?_, by rw [d]; simp⟩
  have e := congrArg List.length d
  have f := putS_len h0 h1
  simp only [List.length_append, List.length_cons] at e ⊢
  simp only [List.length_nil]
  omega
theorem put_last {n k : Int} {l : List Int} (hP : 0 ≤ k ∧ k < 1099511627776 ∧ l.length ≤ 40 ∧ putS n = l ++ putS k) (hk : ¬ 127 < k) :
    putS n = l ++ [k] := by rw [hP.2.2.2, putS_le hk]

theorem spec_put_size {w : World} {mean : ExcName → Option Value} {mg mb : Str → Option Value} {n : Int} {t : Tok} (h0 : 0 ≤ n) (h1 : n < 1099511627776) :
    Spec w mean mg mb 54 2 16 [] [.int n t] (fun r o => ∃ b tk, r = .bytes b tk ∧ KBw.bInts b = putS n ∧ o = []) False := by
  unfold Spec
  w_top off
  intro dp un gd cn cs a ccd cl outer A₀ base h₀ L m rest s R B F X N hap T hk hd hu hret hbad
  ((k_dflt (refine' code_own ?k1N1 ?k2N1 ?k3N1 ?k4N1 ?kapN1 ?k5N1 ?kAN1 ?kFN1 ?kKN1 ?k6N1 ?k7N1 ?k8N1 ?k9N1 ?kBN1 ?_ ?c2N1 ?c3N1 ?c4N1 ?c5N1; (case kAN1 => exact rfl); (case kFN1 => exact rfl); (case kKN1 => assumption); (case k1N1 => k_asm); (case k2N1 => k_asm); (case k3N1 => k_asm); (case k4N1 => k_asm); (case kapN1 => k_asm); (case k5N1 => k_asm); (case k6N1 => k_is); (case k7N1 => k_is); (case k8N1 => ktr_room); (case k9N1 => first | exact BindsTo.of_eq rfl | exact binds_K (by k_in) rfl (by k_is) rfl rfl rfl); (case c5N1 => decide); (case kBN1 => exact locs rfl); (case c2N1 => exact rfl); (case c3N1 => exact rfl); (case c4N1 => exact rfl); k_whole)))
  intro g' L' h' FG' F' N' B' X' T' hrest
  (try dsimp only)
  (try k_fold)
  (repeat' (first | (k_unfold; (try dsimp only)) | ((with_reducible show wpAny _ _ (call (Value.ref _) _) _ _ _); (fail_if_success (with_reducible show wpAny _ _ (call (Value.ref 87) _) _ _ _)); (fail_if_success ((with_reducible rename GoIn => hgo9); (with_reducible show wpAny _ _ (call (Value.ref 137) _) _ _ _))); refine Stop.mk ?_) | (k_here; (with_reducible show wpAny _ _ (call (Value.type "list") [Value.bytes _ _]) _ _ _); k_dflt (refine' lb_list ?kbaiN2 ?kbahN2 ?kbaFN2 ?kbaNN2 ?kbanN2 ?_; (case kbaFN2 => k_asm); (case kbaNN2 => k_asm); (case kbahN2 => rfl); (case kbaiN2 => kba_ints); (case kbanN2 => kba_size)); intro D9z us9z c9z h9z tk9z F9z N9z l19z hI9z; (try k_lt l19z); (try k_sweep)) | walk1 | (dsimp only; first | ((with_reducible show wpAny _ _ (call (Value.ref _) _) _ _ _); (fail_if_success (with_reducible show wpAny _ _ (call (Value.ref 87) _) _ _ _)); (fail_if_success ((with_reducible rename GoIn => hgo9); (with_reducible show wpAny _ _ (call (Value.ref 137) _) _ _ _))); refine Stop.mk ?_) | walk1)))
  unfold Stop
  rename Fr _ _ _ _ => F9
  rename News _ _ _ _ => N9
  refine' ksw_while (σ := (List Value × List Int × Nat) × (Int × Tok)) (fun c => [(_, W.listOf c.1.1.toArray c.1.2.2)]) (fun c => [(Str.ofString "found", .ref _), (Str.ofString "number", .int c.2.1 c.2.2)])
      (fun c => IntsAre c.1.1 c.1.2.1) [] (fun c => 0 ≤ c.2.1 ∧ c.2.1 < 1099511627776 ∧ c.1.2.1.length ≤ 40 ∧ (putS n = c.1.2.1 ++ putS c.2.1)) (fun c => c.2.1.toNat) (([], [], 0), (n, t)) F9 N9 ?kf ?kk ?kp ?_ ?hE
  case hE => passes_own
  case kf => exact IntsAre.nil
  case kk => kst_all
  case kp => exact ⟨h0, h1, Nat.zero_le _, rfl⟩
  rintro ⟨⟨us, l, nn⟩, k, tk⟩ u h8 tk8 hF hP F8 N8
  (try dsimp only at hF hP F8 N8)
  clear F9 N9
  (repeat' (first | (k_unfold; (try dsimp only)) | ((with_reducible show wpAny _ _ (call (Value.ref _) _) _ _ _); (fail_if_success (with_reducible show wpAny _ _ (call (Value.ref 87) _) _ _ _)); (fail_if_success ((with_reducible rename GoIn => hgo9); (with_reducible show wpAny _ _ (call (Value.ref 137) _) _ _ _))); refine Stop.mk ?_) | (k_here; (with_reducible show wpAny _ _ (call (Value.type "list") [Value.bytes _ _]) _ _ _); k_dflt (refine' lb_list ?kbaiN3 ?kbahN3 ?kbaFN3 ?kbaNN3 ?kbanN3 ?_; (case kbaFN3 => k_asm); (case kbaNN3 => k_asm); (case kbahN3 => rfl); (case kbaiN3 => kba_ints); (case kbanN3 => kba_size)); intro D9z us9z c9z h9z tk9z F9z N9z l19z hI9z; (try k_lt l19z); (try k_sweep)) | walk1 | (dsimp only; first | ((with_reducible show wpAny _ _ (call (Value.ref _) _) _ _ _); (fail_if_success (with_reducible show wpAny _ _ (call (Value.ref 87) _) _ _ _)); (fail_if_success ((with_reducible rename GoIn => hgo9); (with_reducible show wpAny _ _ (call (Value.ref 137) _) _ _ _))); refine Stop.mk ?_) | walk1)))
  · unfold Stop
    rename Fr _ _ _ _ => F9
    rename News _ _ _ _ => N9
    rename 127 < k => hk7
    simp only [List.push_toArray] at N9
    refine ksw_end ((_, _, _), (_, _)) F9 N9 (by kst_in) (by kst_facts) (by kst_all) (by intro z h2 h3; have z1 := h2 _ (.head _); have z2 := h2 _ (.tail _ (.head _)); dsimp only at z1 z2; simp [z1, z2, kstB]) ?_ ?_
    · dsimp only
      exact put_turn h0 h1 hP hk7
    · dsimp only
      rw [fdiv128]
      omega
  · unfold Stop
    rename Fr _ _ _ _ => F9
    rename News _ _ _ _ => N9
    rename ¬ 127 < k => hk7
    simp only [List.push_toArray] at N9
    have hl := put_last hP hk7
    refine KBa.make_K (vs := us ++ [.int k _]) (ns := putS n) F9 N9 rfl (by is_list) (hl ▸ IntsAre.append hF (.cons _ _ .nil)) (putS_in h0) (by have := putS_len h0 h1; omega) ?_
    intro h6 t6 k6 F6 N6 I6
    (repeat' (first | (k_unfold; (try dsimp only)) | ((with_reducible show wpAny _ _ (call (Value.ref _) _) _ _ _); (fail_if_success (with_reducible show wpAny _ _ (call (Value.ref 87) _) _ _ _)); (fail_if_success ((with_reducible rename GoIn => hgo9); (with_reducible show wpAny _ _ (call (Value.ref 137) _) _ _ _))); refine Stop.mk ?_) | (k_here; (with_reducible show wpAny _ _ (call (Value.type "list") [Value.bytes _ _]) _ _ _); k_dflt (refine' lb_list ?kbaiN4 ?kbahN4 ?kbaFN4 ?kbaNN4 ?kbanN4 ?_; (case kbaFN4 => k_asm); (case kbaNN4 => k_asm); (case kbahN4 => rfl); (case kbaiN4 => kba_ints); (case kbanN4 => kba_size)); intro D9z us9z c9z h9z tk9z F9z N9z l19z hI9z; (try k_lt l19z); (try k_sweep)) | walk1 | (dsimp only; first | ((with_reducible show wpAny _ _ (call (Value.ref _) _) _ _ _); (fail_if_success (with_reducible show wpAny _ _ (call (Value.ref 87) _) _ _ _)); (fail_if_success ((with_reducible rename GoIn => hgo9); (with_reducible show wpAny _ _ (call (Value.ref 137) _) _ _ _))); refine Stop.mk ?_) | walk1)))
    unfold Stop
    exact LeaveR.ret (own' := []) hret F6 News.nil ⟨_, _, rfl, KBa.ints_make I6, rfl⟩

theorem fd128 (k : Int) : k.fdiv 128 = k / 128 := Int.fdiv_eq_ediv_of_nonneg k (by decide)
theorem fm128 (k : Int) : k.fmod 128 = k % 128 := Int.fmod_eq_emod_of_nonneg k (by decide)
theorem lput_turn {n k : Int} {l : List Int} (h0 : 0 ≤ n) (h1 : n < 1099511627776) (hP : 0 ≤ k ∧ k < 1099511627776 ∧ l.length ≤ 40 ∧ putS n = l ++ putS k) (hk : 127 < k) :
    0 ≤ k / 128 ∧ k / 128 < 1099511627776 ∧ (l ++ [128 + k % 128]).length ≤ 40 ∧ putS n = (l ++ [128 + k % 128]) ++ putS (k / 128) := by
  have := put_turn h0 h1 hP hk
  rwa [fdiv128, or_low] at this
theorem putF_pos : ∀ (f : Nat) (n : Int), 1 ≤ (putF f n).length
  | 0, _ => Nat.le_refl _
  | f + 1, n => by
    rw [putF]
    split
    · simp
    · simp
theorem putS_pos (n : Int) : 1 ≤ (putS n).length := putF_pos _ _
theorem putF_last : ∀ (f : Nat) (n : Int), 0 ≤ n → n.toNat ≤ f → (putF f n).getD ((putF f n).length - 1) 0 ≤ 127
  | 0, n, h0, h1 => by
    have e : n = 0 := by omega
    subst e
    decide
  | f + 1, n, h0, h1 => by
    rw [putF]
    split
    · have hp := putF_pos f (n / 128)
      have ih := putF_last f (n / 128) (by omega) (by omega)
      rw [List.length_cons, show (putF f (n / 128)).length + 1 - 1 = ((putF f (n / 128)).length - 1) + 1 from by omega, List.getD_cons_succ]
      exact ih
    · show n ≤ 127
      omega
theorem putS_last {n : Int} (h0 : 0 ≤ n) : (putS n).getD ((putS n).length - 1) 0 ≤ 127 := putF_last _ _ h0 (Nat.le_refl _)
theorem szAt_putF : ∀ (f : Nat) (n : Int) (r : List Int), 0 ≤ n → n.toNat ≤ f → szAt (putF f n ++ r) = some (n, r)
  | 0, n, r, h0, h1 => by
    have e : n = 0 := by omega
    subst e
    rfl
  | f + 1, n, r, h0, h1 => by
    rw [putF]
    split
    · have ih := szAt_putF f (n / 128) r (by omega) (by omega)
      rw [List.cons_append, szAt, if_neg (by omega), ih]
      simp only [Option.map_some, Option.some.injEq, Prod.mk.injEq, and_true]
      omega
    · show szAt (n :: r) = _
      rw [szAt, if_pos (by omega)]
theorem szAt_putS {n : Int} (r : List Int) (h0 : 0 ≤ n) : szAt (putS n ++ r) = some (n, r) := szAt_putF _ _ r h0 (Nat.le_refl _)
theorem spec_lput {w : World} {mean : ExcName → Option Value} {mg mb : Str → Option Value} {n : Int} {t : Tok} (h0 : 0 ≤ n) (h1 : n < 1099511627776) :
    Spec w mean mg mb 176 2 16 [] [.int n t] (fun r o => ∃ d us nn, r = .ref d ∧ IntsAre us (putS n) ∧ o = [(d, W.listOf us.toArray nn)]) False := by
  unfold Spec
  w_top off
  intro dp un gd cn cs a ccd cl outer A₀ base h₀ L m rest s R B F X N hap T hk hd hu hret hbad
  ((k_dflt (refine' code_own ?k1N1 ?k2N1 ?k3N1 ?k4N1 ?kapN1 ?k5N1 ?kAN1 ?kFN1 ?kKN1 ?k6N1 ?k7N1 ?k8N1 ?k9N1 ?kBN1 ?_ ?c2N1 ?c3N1 ?c4N1 ?c5N1; (case kAN1 => exact rfl); (case kFN1 => exact rfl); (case kKN1 => assumption); (case k1N1 => k_asm); (case k2N1 => k_asm); (case k3N1 => k_asm); (case k4N1 => k_asm); (case kapN1 => k_asm); (case k5N1 => k_asm); (case k6N1 => k_is); (case k7N1 => k_is); (case k8N1 => ktr_room); (case k9N1 => first | exact BindsTo.of_eq rfl | exact binds_K (by k_in) rfl (by k_is) rfl rfl rfl); (case c5N1 => decide); (case kBN1 => exact locs rfl); (case c2N1 => exact rfl); (case c3N1 => exact rfl); (case c4N1 => exact rfl); k_whole)))
  intro g' L' h' FG' F' N' B' X' T' hrest
  (try dsimp only)
  (try k_fold)
  (repeat' (first | (k_unfold; (try dsimp only)) | ((with_reducible show wpAny _ _ (call (Value.ref _) _) _ _ _); (fail_if_success (with_reducible show wpAny _ _ (call (Value.ref 87) _) _ _ _)); (fail_if_success ((with_reducible rename GoIn => hgo9); (with_reducible show wpAny _ _ (call (Value.ref 137) _) _ _ _))); refine Stop.mk ?_) | (k_here; (with_reducible show wpAny _ _ (call (Value.type "list") [Value.bytes _ _]) _ _ _); k_dflt (refine' lb_list ?kbaiN2 ?kbahN2 ?kbaFN2 ?kbaNN2 ?kbanN2 ?_; (case kbaFN2 => k_asm); (case kbaNN2 => k_asm); (case kbahN2 => rfl); (case kbaiN2 => kba_ints); (case kbanN2 => kba_size)); intro D9z us9z c9z h9z tk9z F9z N9z l19z hI9z; (try k_lt l19z); (try k_sweep)) | walk1 | (dsimp only; first | ((with_reducible show wpAny _ _ (call (Value.ref _) _) _ _ _); (fail_if_success (with_reducible show wpAny _ _ (call (Value.ref 87) _) _ _ _)); (fail_if_success ((with_reducible rename GoIn => hgo9); (with_reducible show wpAny _ _ (call (Value.ref 137) _) _ _ _))); refine Stop.mk ?_) | walk1)))
  unfold Stop
  rename Fr _ _ _ _ => F9
  rename News _ _ _ _ => N9
  refine' ksw_while (σ := (List Value × List Int × Nat) × (Int × Tok)) (fun c => [(_, W.listOf c.1.1.toArray c.1.2.2)]) (fun c => [(Str.ofString "found", .ref _), (Str.ofString "number", .int c.2.1 c.2.2)])
      (fun c => IntsAre c.1.1 c.1.2.1) [] (fun c => 0 ≤ c.2.1 ∧ c.2.1 < 1099511627776 ∧ c.1.2.1.length ≤ 40 ∧ (putS n = c.1.2.1 ++ putS c.2.1)) (fun c => c.2.1.toNat) (([], [], 0), (n, t)) F9 N9 ?kf ?kk ?kp ?_ ?hE
  case hE => passes_own
  case kf => exact IntsAre.nil
  case kk => kst_all
  case kp => exact ⟨h0, h1, Nat.zero_le _, rfl⟩
  rintro ⟨⟨us, l, nn⟩, k, tk⟩ u h8 tk8 hF hP F8 N8
  (try dsimp only at hF hP F8 N8)
  clear F9 N9
  (repeat' (first | (k_unfold; (try dsimp only)) | ((with_reducible show wpAny _ _ (call (Value.ref _) _) _ _ _); (fail_if_success (with_reducible show wpAny _ _ (call (Value.ref 87) _) _ _ _)); (fail_if_success ((with_reducible rename GoIn => hgo9); (with_reducible show wpAny _ _ (call (Value.ref 137) _) _ _ _))); refine Stop.mk ?_) | (k_here; (with_reducible show wpAny _ _ (call (Value.type "list") [Value.bytes _ _]) _ _ _); k_dflt (refine' lb_list ?kbaiN3 ?kbahN3 ?kbaFN3 ?kbaNN3 ?kbanN3 ?_; (case kbaFN3 => k_asm); (case kbaNN3 => k_asm); (case kbahN3 => rfl); (case kbaiN3 => kba_ints); (case kbanN3 => kba_size)); intro D9z us9z c9z h9z tk9z F9z N9z l19z hI9z; (try k_lt l19z); (try k_sweep)) | walk1 | (dsimp only; first | ((with_reducible show wpAny _ _ (call (Value.ref _) _) _ _ _); (fail_if_success (with_reducible show wpAny _ _ (call (Value.ref 87) _) _ _ _)); (fail_if_success ((with_reducible rename GoIn => hgo9); (with_reducible show wpAny _ _ (call (Value.ref 137) _) _ _ _))); refine Stop.mk ?_) | walk1)))
  · unfold Stop
    rename Fr _ _ _ _ => F9
    rename News _ _ _ _ => N9
    rename 127 < k => hk7
    simp only [List.push_toArray] at N9
    refine ksw_end ((_, _, _), (_, _)) F9 N9 (by kst_in) (by kst_facts) (by kst_all) (by intro z h2 h3; have z1 := h2 _ (.head _); have z2 := h2 _ (.tail _ (.head _)); dsimp only at z1 z2; simp [z1, z2, kstB]) ?_ ?_
    · dsimp only
      rw [fd128, fm128]
      exact lput_turn h0 h1 hP hk7
    · dsimp only
      rw [fd128]
      omega
  · unfold Stop
    rename Fr _ _ _ _ => F9
    rename News _ _ _ _ => N9
    rename ¬ 127 < k => hk7
    have hl := put_last hP hk7
    rename IntsAre _ (_ ++ [k]) => hI9
    exact LeaveR.ret (own' := [_]) hret F9 (fun q hq => N9 q (by rcases List.mem_singleton.mp hq with rfl; exact .head _)) ⟨_, _, _, rfl, hl ▸ hI9, rfl⟩

theorem ints_mem {vs : List Value} {ns : List Int} (h : IntsAre vs ns) : ∀ {i : Nat} {v : Value}, vs[i]? = some v → ∃ n t, v = .int n t ∧ n ∈ ns := by
  induction h with
  | nil => intro i v h; cases h
  | cons n t _ ih =>
    intro i v h
    cases i with
    | zero => cases h; exact ⟨n, t, rfl, .head _⟩
    | succ i =>
      obtain ⟨n', t', e, hm⟩ := ih (i := i) (by simpa using h)
      exact ⟨n', t', e, .tail _ hm⟩
theorem fm256 (k : Int) : k.fmod 256 = k % 256 := Int.fmod_eq_emod_of_nonneg k (by decide)
theorem fd256 (k : Int) : k.fdiv 256 = k / 256 := Int.fdiv_eq_ediv_of_nonneg k (by decide)
theorem fmN1 (k : Int) (n : Nat) : k.fmod ((n : Int) + 1) = k % ((n : Int) + 1) := Int.fmod_eq_emod_of_nonneg k (by omega)
theorem nums_news {h₀ h : Heap} {L a : Addr} {p q : Addr × Obj} {r : List (Addr × Obj)} {x0 x1 x4 x6 : Int} {t0 t1 t2 t3 t4 t5 t6 : Tok}
    (N : News h₀ L h (q :: p :: (a, W.listOf #[.int x0 t0, .int x1 t1, .int 0 t2, .int 0 t3, .int x4 t4, .int 0 t5, .int x6 t6] 0) :: r))
    (h0 : 0 ≤ x0 ∧ x0 < 256) (h1 : 0 ≤ x1 ∧ x1 < 256) (h4 : 0 ≤ x4 ∧ x4 < 256) (h6 : 0 ≤ x6 ∧ x6 < 256) :
    ∃ vs ns, IntsAre vs ns ∧ KBa.In ns ∧ vs.length = 7 ∧ News h₀ L h [p, (a, W.listOf vs.toArray 0)] := by
  refine ⟨[.int x0 t0, .int x1 t1, .int 0 t2, .int 0 t3, .int x4 t4, .int 0 t5, .int x6 t6], [x0, x1, 0, 0, x4, 0, x6], .cons _ _ (.cons _ _ (.cons _ _ (.cons _ _ (.cons _ _ (.cons _ _ (.cons _ _ .nil)))))), ?_, rfl, fun z hz => N z ?_⟩
  · intro n hn
    simp only [List.mem_cons, List.not_mem_nil, or_false] at hn
    omega
  · simp only [List.mem_cons, List.not_mem_nil, or_false] at hz ⊢
    rcases hz with hz | hz
    · exact .inr (.inl hz)
    · exact .inr (.inr (.inl hz))
theorem copy_turn {tl : List Int} {x wd : Int} {i : Nat} (h : KBa.In tl) (hx : 0 ≤ x ∧ x < 256) (hl : tl.length ≤ i) (h1 : 128 ≤ wd) (h2 : wd < 128 + 2 ^ i) :
    KBa.In (tl ++ [x]) ∧ (tl ++ [x]).length ≤ i + 1 ∧ 128 ≤ wd + 2 ^ (i : Int).toNat ∧ wd + 2 ^ (i : Int).toNat < 128 + 2 ^ (i + 1) := by
  have hp5 : (2 : Int) ^ (i + 1) = 2 ^ i * 2 := Int.pow_succ 2 i
  have hp6 : (0 : Int) < 2 ^ i := Int.pow_pos (by decide)
  rw [Int.toNat_natCast]
  refine ⟨fun y hy => ?_, by simp only [List.length_append, List.length_cons, List.length_nil]; omega, by omega, by omega⟩
  rcases List.mem_append.mp hy with hy | hy
  · exact h y hy
  · rw [List.mem_singleton.mp hy]
    exact hx
theorem copy_in {tl : List Int} {wd : Int} (h : KBa.In tl) (h1 : 128 ≤ wd) (h2 : wd < 128 + 2 ^ 7) : KBa.In ([wd] ++ tl) := by
  have e : (2 : Int) ^ 7 = 128 := by decide
  intro y hy
  rcases List.mem_append.mp hy with hy | hy
  · rw [List.mem_singleton.mp hy]
    omega
  · exact h y hy
theorem spec_lcopy {w : World} {mean : ExcName → Option Value} {mg mb : Str → Option Value} {b : Array UInt8} {tb : Tok} {ks : List Int} {c : Int} {t : Tok}
    (hb : KBw.bInts b = ks) (hz : ks.length ≤ 66) (h0 : 0 ≤ c) (h1 : c < 1000000000) :
    Spec w mean mg mb 218 30 300 [] [.bytes b tb, .int c t] (fun r o => ∃ d us ls nn, r = .ref d ∧ IntsAre us ls ∧ KBa.In ls ∧ ls.length ≤ 8 ∧ o = [(d, W.listOf us.toArray nn)]) (False) := by
  unfold Spec
  w_top off
  intro dp un gd cn cs a ccd cl outer A₀ base h₀ L m rest s R B F X N hap T hk hd hu hret hbad
  ((k_dflt (refine' code_own ?k1N1 ?k2N1 ?k3N1 ?k4N1 ?kapN1 ?k5N1 ?kAN1 ?kFN1 ?kKN1 ?k6N1 ?k7N1 ?k8N1 ?k9N1 ?kBN1 ?_ ?c2N1 ?c3N1 ?c4N1 ?c5N1; (case kAN1 => exact rfl); (case kFN1 => exact rfl); (case kKN1 => assumption); (case k1N1 => k_asm); (case k2N1 => k_asm); (case k3N1 => k_asm); (case k4N1 => k_asm); (case kapN1 => k_asm); (case k5N1 => k_asm); (case k6N1 => k_is); (case k7N1 => k_is); (case k8N1 => ktr_room); (case k9N1 => first | exact BindsTo.of_eq rfl | exact binds_K (by k_in) rfl (by k_is) rfl rfl rfl); (case c5N1 => decide); (case kBN1 => exact locs rfl); (case c2N1 => exact rfl); (case c3N1 => exact rfl); (case c4N1 => exact rfl); k_whole)))
  intro g' L' h' FG' F' N' B' X' T' hrest
  (try dsimp only)
  (try k_fold)
  have hMk := kstMark
  have hbg : 0 ≤ c.fmod ((ks.length : Int) + 1) ∧ c.fmod ((ks.length : Int) + 1) < 67 := by
    rw [fmN1]
    have z1 := Int.emod_nonneg c (show (ks.length : Int) + 1 ≠ 0 by omega)
    have z2 := Int.emod_lt_of_pos c (show 0 < (ks.length : Int) + 1 by omega)
    omega
  refine execs_mid (s0 := s) (g := g') (L := L') [_, _] _ (fun _ ps => ∃ t1 sz t2, ps = [(Str.ofString "begin", .int (c.fmod ((ks.length : Int) + 1)) t1), (Str.ofString "size", .int sz t2), (Str.ofString "base", .bytes b tb), (Str.ofString "cell", .int c t)]) [] ?first ?second
  case first =>
    (repeat' (first | (k_unfold; (try dsimp only)) | ((with_reducible show wpAny _ _ (call (Value.ref _) _) _ _ _); (fail_if_success (with_reducible show wpAny _ _ (call (Value.ref 87) _) _ _ _)); (fail_if_success ((with_reducible rename GoIn => hgo9); (with_reducible show wpAny _ _ (call (Value.ref 137) _) _ _ _))); refine Stop.mk ?_) | (k_here; (with_reducible show wpAny _ _ (call (Value.type "list") [Value.bytes _ _]) _ _ _); k_dflt (refine' lb_list ?kbaiN2 ?kbahN2 ?kbaFN2 ?kbaNN2 ?kbanN2 ?_; (case kbaFN2 => k_asm); (case kbaNN2 => k_asm); (case kbahN2 => rfl); (case kbaiN2 => kba_ints); (case kbanN2 => kba_size)); intro D9z us9z c9z h9z tk9z F9z N9z l19z hI9z; (try k_lt l19z); (try k_sweep)) | walk1 | (dsimp only; first | ((with_reducible show wpAny _ _ (call (Value.ref _) _) _ _ _); (fail_if_success (with_reducible show wpAny _ _ (call (Value.ref 87) _) _ _ _)); (fail_if_success ((with_reducible rename GoIn => hgo9); (with_reducible show wpAny _ _ (call (Value.ref 137) _) _ _ _))); refine Stop.mk ?_) | walk1)))
    all_goals rename Fr _ _ _ _ => F9
    all_goals exact MidEnd.mk F9 News.nil _ (by kst_all) (fun _ hp => nomatch hp) ⟨_, _, _, rfl⟩
  case second =>
    rintro _ m0 h1 tk1 ⟨t1, sz, t2, rfl⟩ F1 N1
    clear F' N'
    (repeat' (first | (k_unfold; (try dsimp only)) | ((with_reducible show wpAny _ _ (call (Value.ref _) _) _ _ _); (fail_if_success (with_reducible show wpAny _ _ (call (Value.ref 87) _) _ _ _)); (fail_if_success ((with_reducible rename GoIn => hgo9); (with_reducible show wpAny _ _ (call (Value.ref 137) _) _ _ _))); refine Stop.mk ?_) | (k_here; (with_reducible show wpAny _ _ (call (Value.type "list") [Value.bytes _ _]) _ _ _); k_dflt (refine' lb_list ?kbaiN3 ?kbahN3 ?kbaFN3 ?kbaNN3 ?kbanN3 ?_; (case kbaFN3 => k_asm); (case kbaNN3 => k_asm); (case kbahN3 => rfl); (case kbaiN3 => kba_ints); (case kbanN3 => kba_size)); intro D9z us9z c9z h9z tk9z F9z N9z l19z hI9z; (try k_lt l19z); (try k_sweep)) | walk1 | (dsimp only; first | ((with_reducible show wpAny _ _ (call (Value.ref _) _) _ _ _); (fail_if_success (with_reducible show wpAny _ _ (call (Value.ref 87) _) _ _ _)); (fail_if_success ((with_reducible rename GoIn => hgo9); (with_reducible show wpAny _ _ (call (Value.ref 137) _) _ _ _))); refine Stop.mk ?_) | walk1)))
    unfold Stop
    rename Fr _ _ _ _ => F9
    rename News _ _ _ _ => N9
    obtain ⟨vs, ns, hI, hin, hl7, N99⟩ := nums_news N9 (by rw [fm256]; omega) (by rw [fd256]; omega) (by rw [fm256]; omega) (by split <;> decide)
    refine For_turns F9 ?_
    (repeat' (first | (k_unfold; (try dsimp only)) | ((with_reducible show wpAny _ _ (call (Value.ref _) _) _ _ _); (fail_if_success (with_reducible show wpAny _ _ (call (Value.ref 87) _) _ _ _)); (fail_if_success ((with_reducible rename GoIn => hgo9); (with_reducible show wpAny _ _ (call (Value.ref 137) _) _ _ _))); refine Stop.mk ?_) | (k_here; (with_reducible show wpAny _ _ (call (Value.type "list") [Value.bytes _ _]) _ _ _); k_dflt (refine' lb_list ?kbaiN4 ?kbahN4 ?kbaFN4 ?kbaNN4 ?kbanN4 ?_; (case kbaFN4 => k_asm); (case kbaNN4 => k_asm); (case kbahN4 => rfl); (case kbaiN4 => kba_ints); (case kbanN4 => kba_size)); intro D9z us9z c9z h9z tk9z F9z N9z l19z hI9z; (try k_lt l19z); (try k_sweep)) | walk1 | (dsimp only; first | ((with_reducible show wpAny _ _ (call (Value.ref _) _) _ _ _); (fail_if_success (with_reducible show wpAny _ _ (call (Value.ref 87) _) _ _ _)); (fail_if_success ((with_reducible rename GoIn => hgo9); (with_reducible show wpAny _ _ (call (Value.ref 137) _) _ _ _))); refine Stop.mk ?_) | walk1)))
    unfold Stop
    rename Fr g' L' _ _ => F9
    refine free_enum (σ := (List Value × List Int × Nat) × (Int × Tok)) (vs := vs) (nn := 0) (fun c => [(_, W.listOf c.1.1.toArray c.1.2.2), (_, W.listOf vs.toArray 0)]) (fun c => [(Str.ofString "word", .int c.2.1 c.2.2)]) [Str.ofString "k", Str.ofString "number"]
      (fun i c => IntsAre c.1.1 c.1.2.1 ∧ KBa.In c.1.2.1 ∧ c.1.2.1.length ≤ i ∧ 128 ≤ c.2.1 ∧ c.2.1 < 128 + 2 ^ i) (([], [], 0), (128, _)) rfl (fun _ => .tail _ (.head _)) F9 N99 ?ho (by kst_all) ⟨IntsAre.nil, (fun x hx => nomatch hx), Nat.zero_le _, Int.le_refl _, by show (128 : Int) < 128 + 2 ^ 0; decide⟩ ?turn ?done
    case ho =>
      intro p9 hp9
      simp only [List.mem_cons, List.not_mem_nil, or_false] at hp9
      rcases hp9 with rfl | rfl
      · exact ⟨by simp [W.listOf], by simp [W.listOf]⟩
      · exact ⟨by simp [W.listOf], by simp [W.listOf]⟩
    case turn =>
      rintro ⟨⟨tus, tl, tn⟩, ⟨wd, tw⟩⟩ i v t5 u5 h5 tk5 T5 I5 J5 o5 q5 hv5 ho5 hq5 hoff5 ⟨hI5, hin5, hl5, hw5, hw6⟩ hT5 F5 N5
      (try dsimp only at hI5 hin5 hl5 hw5 hw6 F5 N5)
      obtain ⟨x5, tx5, rfl, hx5⟩ := ints_mem hI hv5
      have hx6 := hin x5 hx5
      have hi5 : i < 7 := by
        rcases Nat.lt_or_ge i 7 with h | h
        · exact h
        · rw [List.getElem?_eq_none (by omega)] at hv5
          cases hv5
      have ne1 := news_ne N5 (a := I5) (.head _) (.tail _ (.tail _ (.head _))) (by rw [ho5]; exact (hoff5 _ (.head _)).1.symm)
      have ne2 := news_ne N5 (a := I5) (.head _) (.tail _ (.tail _ (.tail _ (.head _)))) (by rw [ho5]; exact (hoff5 _ (.tail _ (.head _))).1.symm)
      have ne3 := news_ne N5 (a := J5) (.tail _ (.head _)) (.tail _ (.tail _ (.head _))) (by rw [hq5]; exact (hoff5 _ (.head _)).2.symm)
      have ne4 := news_ne N5 (a := J5) (.tail _ (.head _)) (.tail _ (.tail _ (.tail _ (.head _)))) (by rw [hq5]; exact (hoff5 _ (.tail _ (.head _))).2.symm)
      have hl6 : tus.length ≤ i := by rw [hI5.length]; exact hl5
      clear F9 N99
      (repeat' (first | (k_unfold; (try dsimp only)) | ((with_reducible show wpAny _ _ (call (Value.ref _) _) _ _ _); (fail_if_success (with_reducible show wpAny _ _ (call (Value.ref 87) _) _ _ _)); (fail_if_success ((with_reducible rename GoIn => hgo9); (with_reducible show wpAny _ _ (call (Value.ref 137) _) _ _ _))); refine Stop.mk ?_) | (k_here; (with_reducible show wpAny _ _ (call (Value.type "list") [Value.bytes _ _]) _ _ _); k_dflt (refine' lb_list ?kbaiN5 ?kbahN5 ?kbaFN5 ?kbaNN5 ?kbanN5 ?_; (case kbaFN5 => k_asm); (case kbaNN5 => k_asm); (case kbahN5 => rfl); (case kbaiN5 => kba_ints); (case kbanN5 => kba_size)); intro D9z us9z c9z h9z tk9z F9z N9z l19z hI9z; (try k_lt l19z); (try k_sweep)) | walk1 | (dsimp only; first | ((with_reducible show wpAny _ _ (call (Value.ref _) _) _ _ _); (fail_if_success (with_reducible show wpAny _ _ (call (Value.ref 87) _) _ _ _)); (fail_if_success ((with_reducible rename GoIn => hgo9); (with_reducible show wpAny _ _ (call (Value.ref 137) _) _ _ _))); refine Stop.mk ?_) | walk1)))
      all_goals unfold Stop
      all_goals rename News g' L' _ _ => N9
      all_goals rename Fr g' L' _ _ => F9
      · simp only [List.push_toArray] at N9
        refine enum_end ((_, _, _), (_, _)) F9 N9 (by (repeat' (first | exact List.mem_cons_self | assumption | (refine List.mem_cons_of_mem _ ?_) | (refine List.mem_append_right _ ?_)))) (by (repeat' (first | exact List.mem_cons_self | assumption | (refine List.mem_cons_of_mem _ ?_) | (refine List.mem_append_right _ ?_)))) (by (((try simp only [List.cons_append, List.nil_append, List.append_assoc]); (repeat' (first | (refine List.forall_mem_cons.mpr (And.intro ?_ ?_)) | (intro p9 hp9; exact absurd hp9 List.not_mem_nil) | (intro p9 hp9; (repeat refine List.mem_cons_of_mem _ ?_); exact hp9) | exact List.mem_cons_self | (refine List.mem_cons_of_mem _ ?_)))))) ?_ (by kst_all) (by ((intro z9 h29 h39; (try simp only [List.forall_mem_cons, List.not_mem_nil, false_implies, implies_true, and_true, ne_eq] at h29); (try simp only [List.contains_cons, List.contains_nil, Bool.or_false, Bool.or_eq_false_iff, beq_eq_false_iff_ne, ne_eq] at h39); (try dsimp only); first | rfl | (simp [h29, h39, kstB]; done) | (simp [h29, kstB]; done) | (simp [h39, kstB]; done) | (simp [kstB]; done)))) ⟨IntsAre.append hI5 (.cons _ _ .nil), copy_turn hin5 hx6 hl5 hw5 hw6⟩
        intro p9 hp9
        simp only [List.mem_cons, List.not_mem_nil, or_false] at hp9
        rcases hp9 with rfl | rfl
        · exact ⟨by simp, by simp⟩
        · exact ⟨by simp, by simp⟩
      · simp only [List.push_toArray] at N9
        refine enum_end ((_, _, _), (_, _)) F9 N9 (by (repeat' (first | exact List.mem_cons_self | assumption | (refine List.mem_cons_of_mem _ ?_) | (refine List.mem_append_right _ ?_)))) (by (repeat' (first | exact List.mem_cons_self | assumption | (refine List.mem_cons_of_mem _ ?_) | (refine List.mem_append_right _ ?_)))) (by (((try simp only [List.cons_append, List.nil_append, List.append_assoc]); (repeat' (first | (refine List.forall_mem_cons.mpr (And.intro ?_ ?_)) | (intro p9 hp9; exact absurd hp9 List.not_mem_nil) | (intro p9 hp9; (repeat refine List.mem_cons_of_mem _ ?_); exact hp9) | exact List.mem_cons_self | (refine List.mem_cons_of_mem _ ?_)))))) ?_ (by kst_all) (by ((intro z9 h29 h39; (try simp only [List.forall_mem_cons, List.not_mem_nil, false_implies, implies_true, and_true, ne_eq] at h29); (try simp only [List.contains_cons, List.contains_nil, Bool.or_false, Bool.or_eq_false_iff, beq_eq_false_iff_ne, ne_eq] at h39); (try dsimp only); first | rfl | (simp [h29, h39, kstB]; done) | (simp [h29, kstB]; done) | (simp [h39, kstB]; done) | (simp [kstB]; done)))) ⟨IntsAre.append hI5 (.cons _ _ .nil), copy_turn hin5 hx6 hl5 hw5 hw6⟩
        intro p9 hp9
        simp only [List.mem_cons, List.not_mem_nil, or_false] at hp9
        rcases hp9 with rfl | rfl
        · exact ⟨by simp, by simp⟩
        · exact ⟨by simp, by simp⟩
      · have hp5 : (2 : Int) ^ (i + 1) = 2 ^ i * 2 := Int.pow_succ 2 i
        have hp6 : (0 : Int) < 2 ^ i := Int.pow_pos (by decide)
        refine enum_end ((_, _, _), (_, _)) F9 N9 (by (repeat' (first | exact List.mem_cons_self | assumption | (refine List.mem_cons_of_mem _ ?_) | (refine List.mem_append_right _ ?_)))) (by (repeat' (first | exact List.mem_cons_self | assumption | (refine List.mem_cons_of_mem _ ?_) | (refine List.mem_append_right _ ?_)))) (by (((try simp only [List.cons_append, List.nil_append, List.append_assoc]); (repeat' (first | (refine List.forall_mem_cons.mpr (And.intro ?_ ?_)) | (intro p9 hp9; exact absurd hp9 List.not_mem_nil) | (intro p9 hp9; (repeat refine List.mem_cons_of_mem _ ?_); exact hp9) | exact List.mem_cons_self | (refine List.mem_cons_of_mem _ ?_)))))) ?_ (by kst_all) (by ((intro z9 h29 h39; (try simp only [List.forall_mem_cons, List.not_mem_nil, false_implies, implies_true, and_true, ne_eq] at h29); (try simp only [List.contains_cons, List.contains_nil, Bool.or_false, Bool.or_eq_false_iff, beq_eq_false_iff_ne, ne_eq] at h39); (try dsimp only); first | rfl | (simp [h29, h39, kstB]; done) | (simp [h29, kstB]; done) | (simp [h39, kstB]; done) | (simp [kstB]; done)))) ⟨hI5, hin5, Nat.le_succ_of_le hl5, hw5, by dsimp only; omega⟩
        intro p9 hp9
        simp only [List.mem_cons, List.not_mem_nil, or_false] at hp9
        rcases hp9 with rfl | rfl
        · exact ⟨by simp, by simp⟩
        · exact ⟨by simp, by simp⟩
    case done =>
      rintro ⟨⟨tus, tl, tn⟩, ⟨wd, tw⟩⟩ u5 h5 tk5 ⟨hI5, hin5, hl5, hw5, hw6⟩ F5 N5
      (try dsimp only at hI5 hin5 hl5 hw5 hw6 F5 N5)
      rw [hl7] at hl5 hw6
      clear F9 N99
      (repeat' (first | (k_unfold; (try dsimp only)) | ((with_reducible show wpAny _ _ (call (Value.ref _) _) _ _ _); (fail_if_success (with_reducible show wpAny _ _ (call (Value.ref 87) _) _ _ _)); (fail_if_success ((with_reducible rename GoIn => hgo9); (with_reducible show wpAny _ _ (call (Value.ref 137) _) _ _ _))); refine Stop.mk ?_) | (k_here; (with_reducible show wpAny _ _ (call (Value.type "list") [Value.bytes _ _]) _ _ _); k_dflt (refine' lb_list ?kbaiN6 ?kbahN6 ?kbaFN6 ?kbaNN6 ?kbanN6 ?_; (case kbaFN6 => k_asm); (case kbaNN6 => k_asm); (case kbahN6 => rfl); (case kbaiN6 => kba_ints); (case kbanN6 => kba_size)); intro D9z us9z c9z h9z tk9z F9z N9z l19z hI9z; (try k_lt l19z); (try k_sweep)) | walk1 | (dsimp only; first | ((with_reducible show wpAny _ _ (call (Value.ref _) _) _ _ _); (fail_if_success (with_reducible show wpAny _ _ (call (Value.ref 87) _) _ _ _)); (fail_if_success ((with_reducible rename GoIn => hgo9); (with_reducible show wpAny _ _ (call (Value.ref 137) _) _ _ _))); refine Stop.mk ?_) | walk1)))
      unfold Stop
      rename News g' L' _ _ => N9
      rename Fr g' L' _ _ => F9
      rename IntsAre _ (_ ++ tl) => hI9
      exact LeaveR.ret (own' := [_]) hret F9 (fun q hq => N9 q (by rcases List.mem_singleton.mp hq with rfl; (repeat' (first | exact List.mem_cons_self | assumption | (refine List.mem_cons_of_mem _ ?_) | (refine List.mem_append_right _ ?_))))) ⟨_, _, _, _, rfl, hI9, copy_in hin5 hw5 hw6, by simp only [List.length_append, List.length_cons, List.length_nil]; omega, rfl⟩

theorem news_neD {h₀ h : Heap} {L a b : Addr} {o o' : Obj} {news : List (Addr × Obj)} (N : News h₀ L h news) (h1 : (a, o) ∈ news) (h2 : (b, o') ∈ news) (hc : o.data ≠ o'.data) : @Ne Nat a b := by
  intro e
  have e' : a = b := e
  subst e'
  have q1 := (N _ h1).1
  have q2 := (N _ h2).1
  dsimp only at q1 q2
  rw [q1] at q2
  exact hc (congrArg Obj.data (Option.some.inj q2))
theorem spec_lbase {w : World} {mean : ExcName → Option Value} {mg mb : Str → Option Value} {us : List Value} {ls : List Int} {ld : Addr} {nn : Nat}
    (hl : IntsAre us ls) (hz : ls.length ≤ 6) (hc : ∀ x ∈ ls, 0 ≤ x ∧ x < 1000000000) :
    Spec w mean mg mb 223 30 300 [(ld, W.listOf us.toArray nn)] [.ref ld] (fun r o => ∃ c tc, r = .bytes c tc ∧ (KBw.bInts c).length ≤ 66 ∧ o = [(ld, W.listOf us.toArray nn)]) (False) := by
  unfold Spec
  w_top off
  intro dp un gd cn cs a ccd cl outer A₀ base h₀ L m rest s R B F X N hap T hk hd hu hret hbad
  ((k_dflt (refine' code_ownC ?k1N1 ?k2N1 ?k3N1 ?k4N1 ?kapN1 ?k5N1 ?kAN1 ?kFN1 ?kKN1 ?k6N1 ?k7N1 ?k8N1 ?k9N1 ?kBN1 ?kDN1 ?_ ?c2N1 ?c3N1 ?c4N1; (case kAN1 => exact rfl); (case kFN1 => exact rfl); (case kKN1 => assumption); (case k1N1 => k_asm); (case k2N1 => k_asm); (case k3N1 => k_asm); (case k4N1 => k_asm); (case kapN1 => k_asm); (case k5N1 => k_asm); (case k6N1 => k_is); (case k7N1 => k_is); (case k8N1 => ktr_room); (case k9N1 => first | exact BindsTo.of_eq rfl | exact binds_K (by k_in) rfl (by k_is) rfl rfl rfl); (case kBN1 => exact rfl); (case kDN1 => decide +kernel); (case c2N1 => exact rfl); (case c3N1 => exact rfl); (case c4N1 => exact rfl); k_whole)))
  intro g' L' h' tk' cells' FG' F' N' Y' B' X' T' l1 hrest
  k_lt l1
  k_cells Y'
  (try simp only [List.cons_append, List.nil_append] at N')
  (try dsimp only)
  (try k_fold)
  have hMk := kstMark
  (repeat' (first | (k_unfold; (try dsimp only)) | ((with_reducible show wpAny _ _ (call (Value.ref _) _) _ _ _); (fail_if_success (with_reducible show wpAny _ _ (call (Value.ref 87) _) _ _ _)); (fail_if_success ((with_reducible rename GoIn => hgo9); (with_reducible show wpAny _ _ (call (Value.ref 137) _) _ _ _))); refine Stop.mk ?_) | (k_here; (with_reducible show wpAny _ _ (call (Value.type "list") [Value.bytes _ _]) _ _ _); k_dflt (refine' lb_list ?kbaiN2 ?kbahN2 ?kbaFN2 ?kbaNN2 ?kbanN2 ?_; (case kbaFN2 => k_asm); (case kbaNN2 => k_asm); (case kbahN2 => rfl); (case kbaiN2 => kba_ints); (case kbanN2 => kba_size)); intro D9z us9z c9z h9z tk9z F9z N9z l19z hI9z; (try k_lt l19z); (try k_sweep)) | walk1 | (dsimp only; first | ((with_reducible show wpAny _ _ (call (Value.ref _) _) _ _ _); (fail_if_success (with_reducible show wpAny _ _ (call (Value.ref 87) _) _ _ _)); (fail_if_success ((with_reducible rename GoIn => hgo9); (with_reducible show wpAny _ _ (call (Value.ref 137) _) _ _ _))); refine Stop.mk ?_) | walk1)))
  unfold Stop
  rename Fr g' L' _ _ => F9
  rename News g' L' _ _ => N9
  refine For_turns F9 ?_
  (repeat' (first | (k_unfold; (try dsimp only)) | ((with_reducible show wpAny _ _ (call (Value.ref _) _) _ _ _); (fail_if_success (with_reducible show wpAny _ _ (call (Value.ref 87) _) _ _ _)); (fail_if_success ((with_reducible rename GoIn => hgo9); (with_reducible show wpAny _ _ (call (Value.ref 137) _) _ _ _))); refine Stop.mk ?_) | (k_here; (with_reducible show wpAny _ _ (call (Value.type "list") [Value.bytes _ _]) _ _ _); k_dflt (refine' lb_list ?kbaiN3 ?kbahN3 ?kbaFN3 ?kbaNN3 ?kbanN3 ?_; (case kbaFN3 => k_asm); (case kbaNN3 => k_asm); (case kbahN3 => rfl); (case kbaiN3 => kba_ints); (case kbanN3 => kba_size)); intro D9z us9z c9z h9z tk9z F9z N9z l19z hI9z; (try k_lt l19z); (try k_sweep)) | walk1 | (dsimp only; first | ((with_reducible show wpAny _ _ (call (Value.ref _) _) _ _ _); (fail_if_success (with_reducible show wpAny _ _ (call (Value.ref 87) _) _ _ _)); (fail_if_success ((with_reducible rename GoIn => hgo9); (with_reducible show wpAny _ _ (call (Value.ref 137) _) _ _ _))); refine Stop.mk ?_) | walk1)))
  unfold Stop
  refine free_turns (σ := (Addr × List Value × List Int × Nat) × Obj) (vs := us) (nn := nn) (fun c => [(c.1.1, W.listOf c.1.2.1.toArray c.1.2.2.2), (L' + 1, c.2), (ld, W.listOf us.toArray nn)]) (fun c => [(Str.ofString "page", .ref c.1.1)]) []
      (fun i c => IntsAre c.1.2.1 c.1.2.2.1 ∧ KBa.In c.1.2.2.1 ∧ c.1.2.2.1.length ≤ 11 * i ∧ ∃ vo, c.2.data = .cell vo) ((_, [], [], 0), _) rfl (fun _ => .tail _ (.tail _ (.head _))) F9 N9 (by kst_all) ⟨IntsAre.nil, (fun x hx => nomatch hx), Nat.zero_le _, _, by assumption⟩ ?turn ?done
  case turn =>
    rintro I5 hI5 ⟨⟨pd, pus, pl, pn⟩, oc⟩ i v u5 h5 tk5 o5 hv5 ho5 hoff5 ⟨hi5, hin5, hl5, vo, hvo⟩ F5 N5
    (try dsimp only at hi5 hin5 hl5 hvo F5 N5)
    have hi1 : @LT.lt Nat _ (L' + 1) I5 := hI5 _ (.tail _ (.head _))
    have hi2 : @LT.lt Nat _ ld I5 := hI5 _ (.tail _ (.tail _ (.head _)))
    obtain ⟨x5, tx5, rfl, hx5⟩ := ints_mem hl hv5
    have hx6 := hc x5 hx5
    have hi6 : i < 6 := by
      rcases Nat.lt_or_ge i 6 with h | h
      · exact h
      · rw [List.getElem?_eq_none (by rw [hl.length]; omega)] at hv5
        cases hv5
    have hi7 := news_neD N5 (a := pd) (b := L' + 1) (.tail _ (.head _)) (.tail _ (.tail _ (.head _))) (by rw [hvo]; intro e; cases e)
    have hi8 : @Ne Nat pd I5 := (hoff5 _ (.head _)).elim id fun h => (news_ne N5 (.tail _ (.head _)) (.head _) (by rw [ho5]; exact h))
    clear F9 N9 hI5
    (repeat' (first | (k_unfold; (try dsimp only)) | ((with_reducible show wpAny _ _ (call (Value.ref _) _) _ _ _); (fail_if_success (with_reducible show wpAny _ _ (call (Value.ref 87) _) _ _ _)); (fail_if_success ((with_reducible rename GoIn => hgo9); (with_reducible show wpAny _ _ (call (Value.ref 137) _) _ _ _))); refine Stop.mk ?_) | (k_here; (with_reducible show wpAny _ _ (call (Value.type "list") [Value.bytes _ _]) _ _ _); k_dflt (refine' lb_list ?kbaiN4 ?kbahN4 ?kbaFN4 ?kbaNN4 ?kbanN4 ?_; (case kbaFN4 => k_asm); (case kbaNN4 => k_asm); (case kbahN4 => rfl); (case kbaiN4 => kba_ints); (case kbanN4 => kba_size)); intro D9z us9z c9z h9z tk9z F9z N9z l19z hI9z; (try k_lt l19z); (try k_sweep)) | walk1 | (dsimp only; first | ((with_reducible show wpAny _ _ (call (Value.ref _) _) _ _ _); (fail_if_success (with_reducible show wpAny _ _ (call (Value.ref 87) _) _ _ _)); (fail_if_success ((with_reducible rename GoIn => hgo9); (with_reducible show wpAny _ _ (call (Value.ref 137) _) _ _ _))); refine Stop.mk ?_) | walk1)))
    unfold Stop
    rename News g' L' _ _ => N9
    rename Fr g' L' _ _ => F9
    rename IntsAre _ (pl ++ _) => hI9
    rename Obj.data _ = Data.cell (some _) => hd9
    rename 0 ≤ Int.fmod x5 7 => hm1
    rename Int.fmod x5 7 < 7 => hm2
    refine turn_end ((_, _, _, _), _) F9 N9 (by (repeat' (first | exact List.mem_cons_self | assumption | (refine List.mem_cons_of_mem _ ?_) | (refine List.mem_append_right _ ?_)))) (by (((try simp only [List.cons_append, List.nil_append, List.append_assoc]); (repeat' (first | (refine List.forall_mem_cons.mpr (And.intro ?_ ?_)) | (intro p9 hp9; exact absurd hp9 List.not_mem_nil) | (intro p9 hp9; (repeat refine List.mem_cons_of_mem _ ?_); exact hp9) | exact List.mem_cons_self | (refine List.mem_cons_of_mem _ ?_)))))) ?_ (by kst_all) (by ((intro z9 h29 h39; (try simp only [List.forall_mem_cons, List.not_mem_nil, false_implies, implies_true, and_true, ne_eq] at h29); (try simp only [List.contains_cons, List.contains_nil, Bool.or_false, Bool.or_eq_false_iff, beq_eq_false_iff_ne, ne_eq] at h39); (try dsimp only); first | rfl | (simp [h29, h39, kstB]; done) | (simp [h29, kstB]; done) | (simp [h39, kstB]; done) | (simp [kstB]; done)))) ⟨hI9, ?_, ?_, _, hd9⟩
    · intro p9 hp9
      simp only [List.mem_cons, List.not_mem_nil, or_false] at hp9
      rcases hp9 with rfl | rfl | rfl
      · exact .inr (by simp [W.listOf])
      · exact .inl (Nat.ne_of_lt hi1)
      · exact .inr (by simp [W.listOf])
    · intro y hy
      rcases List.mem_append.mp hy with hy | hy
      · exact hin5 y hy
      · obtain ⟨k9, _, rfl⟩ := List.mem_map.mp hy
        rw [fm256]
        omega
    · dsimp only
      rw [List.length_append, List.length_map, rangeKs_length]
      omega
  case done =>
    rintro ⟨⟨pd, pus, pl, pn⟩, oc⟩ u5 h5 tk5 ⟨hi5, hin5, hl5, vo, hvo⟩ F5 N5
    (try dsimp only at hi5 hin5 hl5 hvo F5 N5)
    rw [hl.length] at hl5
    clear F9 N9
    (repeat' (first | (k_unfold; (try dsimp only)) | ((with_reducible show wpAny _ _ (call (Value.ref _) _) _ _ _); (fail_if_success (with_reducible show wpAny _ _ (call (Value.ref 87) _) _ _ _)); (fail_if_success ((with_reducible rename GoIn => hgo9); (with_reducible show wpAny _ _ (call (Value.ref 137) _) _ _ _))); refine Stop.mk ?_) | (k_here; (with_reducible show wpAny _ _ (call (Value.type "list") [Value.bytes _ _]) _ _ _); k_dflt (refine' lb_list ?kbaiN5 ?kbahN5 ?kbaFN5 ?kbaNN5 ?kbanN5 ?_; (case kbaFN5 => k_asm); (case kbaNN5 => k_asm); (case kbahN5 => rfl); (case kbaiN5 => kba_ints); (case kbanN5 => kba_size)); intro D9z us9z c9z h9z tk9z F9z N9z l19z hI9z; (try k_lt l19z); (try k_sweep)) | walk1 | (dsimp only; first | ((with_reducible show wpAny _ _ (call (Value.ref _) _) _ _ _); (fail_if_success (with_reducible show wpAny _ _ (call (Value.ref 87) _) _ _ _)); (fail_if_success ((with_reducible rename GoIn => hgo9); (with_reducible show wpAny _ _ (call (Value.ref 137) _) _ _ _))); refine Stop.mk ?_) | walk1)))
    unfold Stop
    refine KBa.make_K (vs := pus) (ns := pl) F5 N5 rfl (by is_list) hi5 hin5 (by omega) ?_
    intro h6 t6 k6 F6 N6 I6
    exact LeaveR.ret (own' := [_]) hret F6 (fun q hq => N6 q (by rcases List.mem_singleton.mp hq with rfl; (repeat' (first | exact List.mem_cons_self | assumption | (refine List.mem_cons_of_mem _ ?_) | (refine List.mem_append_right _ ?_))))) ⟨_, _, rfl, by rw [KBa.ints_make I6]; omega, rfl⟩

section
theorem in_app {a b : List Int} (h1 : KBa.In a) (h2 : KBa.In b) : KBa.In (a ++ b) := fun x hx => (List.mem_append.mp hx).elim (h1 x) (h2 x)
theorem in_one {x : Int} (h1 : 0 ≤ x) (h2 : x < 256) : KBa.In [x] := fun y hy => by
  rw [List.mem_singleton.mp hy]
  exact ⟨h1, h2⟩
theorem fd8 (k : Int) : k.fdiv 8 = k / 8 := Int.fdiv_eq_ediv_of_nonneg k (by decide)
theorem spec_lcmds {w : World} {mean : ExcName → Option Value} {mg mb : Str → Option Value} {b : Array UInt8} {tb : Tok} {ks : List Int} {us : List Value} {ls : List Int} {ld : Addr} {nn : Nat}
    (hb : KBw.bInts b = ks) (hz : ks.length ≤ 66) (hl : IntsAre us ls) (hlz : ls.length ≤ 8) (hc : ∀ x ∈ ls, 0 ≤ x ∧ x < 1000000000) :
    Spec w mean mg mb 228 40 400 [(ld, W.listOf us.toArray nn)] [.bytes b tb, .ref ld] (fun r o => ∃ d vs ns cap, r = .ref d ∧ IntsAre vs ns ∧ KBa.In ns ∧ ns.length ≤ 80 ∧ o = [(d, W.listOf vs.toArray cap), (ld, W.listOf us.toArray nn)]) (False) := by
  unfold Spec
  w_top off
  intro dp un gd cn cs a ccd cl outer A₀ base h₀ L m rest s R B F X N hap T hk hd hu hret hbad
  ((k_dflt (refine' code_ownC ?k1N1 ?k2N1 ?k3N1 ?k4N1 ?kapN1 ?k5N1 ?kAN1 ?kFN1 ?kKN1 ?k6N1 ?k7N1 ?k8N1 ?k9N1 ?kBN1 ?kDN1 ?_ ?c2N1 ?c3N1 ?c4N1; (case kAN1 => exact rfl); (case kFN1 => exact rfl); (case kKN1 => assumption); (case k1N1 => k_asm); (case k2N1 => k_asm); (case k3N1 => k_asm); (case k4N1 => k_asm); (case kapN1 => k_asm); (case k5N1 => k_asm); (case k6N1 => k_is); (case k7N1 => k_is); (case k8N1 => ktr_room); (case k9N1 => first | exact BindsTo.of_eq rfl | exact binds_K (by k_in) rfl (by k_is) rfl rfl rfl); (case kBN1 => exact rfl); (case kDN1 => decide +kernel); (case c2N1 => exact rfl); (case c3N1 => exact rfl); (case c4N1 => exact rfl); k_whole)))
  intro g' L' h' tk' cells' FG' F' N' Y' B' X' T' l1 hrest
  k_lt l1
  k_cells Y'
  (try simp only [List.cons_append, List.nil_append] at N')
  (try dsimp only)
  (try k_fold)
  have hMk := kstMark
  (repeat' (first | (k_unfold; (try dsimp only)) | ((with_reducible show wpAny _ _ (eval (Expr.ListComp _ _ _ _) _) _ _ _); k_here; k_dflt (refine LCg.ListComp_U (F₀ := by k_asm) (by with_unfolding_all rfl) (by decide) (by rfl) (by decide) (by rfl) ?_)) | ((with_reducible show wpAny _ _ (call (Value.ref _) _) _ _ _); (fail_if_success (with_reducible show wpAny _ _ (call (Value.ref 87) _) _ _ _)); (fail_if_success ((with_reducible rename GoIn => hgo9); (with_reducible show wpAny _ _ (call (Value.ref 137) _) _ _ _))); refine Stop.mk ?_) | (k_here; (with_reducible show wpAny _ _ (call (Value.type "list") [Value.bytes _ _]) _ _ _); k_dflt (refine' lb_list ?kbaiN2 ?kbahN2 ?kbaFN2 ?kbaNN2 ?kbanN2 ?_; (case kbaFN2 => k_asm); (case kbaNN2 => k_asm); (case kbahN2 => rfl); (case kbaiN2 => kba_ints); (case kbanN2 => kba_size)); intro D9z us9z c9z h9z tk9z F9z N9z l19z hI9z; (try k_lt l19z); (try k_sweep)) | walk1 | (dsimp only; first | ((with_reducible show wpAny _ _ (call (Value.ref _) _) _ _ _); (fail_if_success (with_reducible show wpAny _ _ (call (Value.ref 87) _) _ _ _)); (fail_if_success ((with_reducible rename GoIn => hgo9); (with_reducible show wpAny _ _ (call (Value.ref 137) _) _ _ _))); refine Stop.mk ?_) | walk1)))
  unfold Stop
  rename Fr g' L' _ _ => F9
  rename News g' L' _ _ => N9
  refine For_turns F9 ?_
  (repeat' (first | (k_unfold; (try dsimp only)) | ((with_reducible show wpAny _ _ (eval (Expr.ListComp _ _ _ _) _) _ _ _); k_here; k_dflt (refine LCg.ListComp_U (F₀ := by k_asm) (by with_unfolding_all rfl) (by decide) (by rfl) (by decide) (by rfl) ?_)) | ((with_reducible show wpAny _ _ (call (Value.ref _) _) _ _ _); (fail_if_success (with_reducible show wpAny _ _ (call (Value.ref 87) _) _ _ _)); (fail_if_success ((with_reducible rename GoIn => hgo9); (with_reducible show wpAny _ _ (call (Value.ref 137) _) _ _ _))); refine Stop.mk ?_) | (k_here; (with_reducible show wpAny _ _ (call (Value.type "list") [Value.bytes _ _]) _ _ _); k_dflt (refine' lb_list ?kbaiN3 ?kbahN3 ?kbaFN3 ?kbaNN3 ?kbanN3 ?_; (case kbaFN3 => k_asm); (case kbaNN3 => k_asm); (case kbahN3 => rfl); (case kbaiN3 => kba_ints); (case kbanN3 => kba_size)); intro D9z us9z c9z h9z tk9z F9z N9z l19z hI9z; (try k_lt l19z); (try k_sweep)) | walk1 | (dsimp only; first | ((with_reducible show wpAny _ _ (call (Value.ref _) _) _ _ _); (fail_if_success (with_reducible show wpAny _ _ (call (Value.ref 87) _) _ _ _)); (fail_if_success ((with_reducible rename GoIn => hgo9); (with_reducible show wpAny _ _ (call (Value.ref 137) _) _ _ _))); refine Stop.mk ?_) | walk1)))
  unfold Stop
  refine free_turns (σ := (Addr × List Value × List Int × Nat) × Obj) (vs := us) (nn := nn) (fun c => [(c.1.1, W.listOf c.1.2.1.toArray c.1.2.2.2), (L' + 1, c.2), (ld, W.listOf us.toArray nn)]) (fun c => [(Str.ofString "body", .ref c.1.1)]) [Str.ofString "way", Str.ofString "size"]
      (fun i c => IntsAre c.1.2.1 c.1.2.2.1 ∧ KBa.In c.1.2.2.1 ∧ c.1.2.2.1.length ≤ 10 * i ∧ ∃ vo, c.2.data = .cell vo) ((_, [], [], 0), _) rfl (fun _ => .tail _ (.tail _ (.head _))) F9 N9 (by kst_all) ⟨IntsAre.nil, (fun x hx => nomatch hx), Nat.zero_le _, _, by assumption⟩ ?turn ?done
  case turn =>
    rintro I5 hI5 ⟨⟨pd, pus, pl, pn⟩, oc⟩ i v u5 h5 tk5 o5 hv5 ho5 hoff5 ⟨hi5, hin5, hl5, vo, hvo⟩ F5 N5
    (try dsimp only at hi5 hin5 hl5 hvo F5 N5)
    have hi1 : @LT.lt Nat _ (L' + 1) I5 := hI5 _ (.tail _ (.head _))
    have hi2 : @LT.lt Nat _ ld I5 := hI5 _ (.tail _ (.tail _ (.head _)))
    obtain ⟨x5, tx5, rfl, hx5⟩ := ints_mem hl hv5
    have hx6 := hc x5 hx5
    have hi6 : i < 8 := by
      rcases Nat.lt_or_ge i 8 with h | h
      · exact h
      · rw [List.getElem?_eq_none (by rw [hl.length]; omega)] at hv5
        cases hv5
    have hi7 := news_neD N5 (a := pd) (b := L' + 1) (.tail _ (.head _)) (.tail _ (.tail _ (.head _))) (by rw [hvo]; intro e; cases e)
    have hi8 : @Ne Nat pd I5 := (hoff5 _ (.head _)).elim id fun h => (news_ne N5 (.tail _ (.head _)) (.head _) (by rw [ho5]; exact h))
    clear F9 N9 hI5
    (repeat' (first | (k_unfold; (try dsimp only)) | ((with_reducible show wpAny _ _ (eval (Expr.ListComp _ _ _ _) _) _ _ _); k_here; k_dflt (refine LCg.ListComp_U (F₀ := by k_asm) (by with_unfolding_all rfl) (by decide) (by rfl) (by decide) (by rfl) ?_)) | ((with_reducible show wpAny _ _ (call (Value.ref _) _) _ _ _); (fail_if_success (with_reducible show wpAny _ _ (call (Value.ref 87) _) _ _ _)); (fail_if_success ((with_reducible rename GoIn => hgo9); (with_reducible show wpAny _ _ (call (Value.ref 137) _) _ _ _))); refine Stop.mk ?_) | (k_here; (with_reducible show wpAny _ _ (call (Value.type "list") [Value.bytes _ _]) _ _ _); k_dflt (refine' lb_list ?kbaiN4 ?kbahN4 ?kbaFN4 ?kbaNN4 ?kbanN4 ?_; (case kbaFN4 => k_asm); (case kbaNN4 => k_asm); (case kbahN4 => rfl); (case kbaiN4 => kba_ints); (case kbanN4 => kba_size)); intro D9z us9z c9z h9z tk9z F9z N9z l19z hI9z; (try k_lt l19z); (try k_sweep)) | walk1 | (dsimp only; first | ((with_reducible show wpAny _ _ (call (Value.ref _) _) _ _ _); (fail_if_success (with_reducible show wpAny _ _ (call (Value.ref 87) _) _ _ _)); (fail_if_success ((with_reducible rename GoIn => hgo9); (with_reducible show wpAny _ _ (call (Value.ref 137) _) _ _ _))); refine Stop.mk ?_) | walk1)))
    · unfold Stop
      rename News g' L' _ _ => N9
      rename Fr g' L' _ _ => F9
      (try dsimp only)
      refine' Spec.use0 (spec_lcopy (ks := ks) (c := x5.fdiv 8) hb hz (by rw [fd8]; omega) (by rw [fd8]; omega)) B' F9 X' N9 T' rfl ?ud ?uu ?_ ?_
      case ud => ktr_room
      case uu => ktr_units
      rotate_left 1
      · intro hno
        exact hno.elim
      clear N9 F9
      rintro r9 o9 h9 tk9 F9 N9 A9 ⟨d, us9, ls9, nn9, rfl, hI9, hin9, hl9, rfl⟩
      (try simp only [List.cons_append, List.nil_append] at N9)
      (repeat' (first | (k_unfold; (try dsimp only)) | ((with_reducible show wpAny _ _ (eval (Expr.ListComp _ _ _ _) _) _ _ _); k_here; k_dflt (refine LCg.ListComp_U (F₀ := by k_asm) (by with_unfolding_all rfl) (by decide) (by rfl) (by decide) (by rfl) ?_)) | ((with_reducible show wpAny _ _ (call (Value.ref _) _) _ _ _); (fail_if_success (with_reducible show wpAny _ _ (call (Value.ref 87) _) _ _ _)); (fail_if_success ((with_reducible rename GoIn => hgo9); (with_reducible show wpAny _ _ (call (Value.ref 137) _) _ _ _))); refine Stop.mk ?_) | (k_here; (with_reducible show wpAny _ _ (call (Value.type "list") [Value.bytes _ _]) _ _ _); k_dflt (refine' lb_list ?kbaiN5 ?kbahN5 ?kbaFN5 ?kbaNN5 ?kbanN5 ?_; (case kbaFN5 => k_asm); (case kbaNN5 => k_asm); (case kbahN5 => rfl); (case kbaiN5 => kba_ints); (case kbanN5 => kba_size)); intro D9z us9z c9z h9z tk9z F9z N9z l19z hI9z; (try k_lt l19z); (try k_sweep)) | walk1 | (dsimp only; first | ((with_reducible show wpAny _ _ (call (Value.ref _) _) _ _ _); (fail_if_success (with_reducible show wpAny _ _ (call (Value.ref 87) _) _ _ _)); (fail_if_success ((with_reducible rename GoIn => hgo9); (with_reducible show wpAny _ _ (call (Value.ref 137) _) _ _ _))); refine Stop.mk ?_) | walk1)))
      unfold Stop
      rename News g' L' _ _ => N9
      rename Fr g' L' _ _ => F9
      rename Obj.data _ = Data.cell (some _) => hd9
      rename IntsAre _ (pl ++ _) => hI8
      refine turn_end ((_, _, _, _), _) F9 N9 (by (repeat' (first | exact List.mem_cons_self | assumption | (refine List.mem_cons_of_mem _ ?_) | (refine List.mem_append_right _ ?_)))) (by (((try simp only [List.cons_append, List.nil_append, List.append_assoc]); (repeat' (first | (refine List.forall_mem_cons.mpr (And.intro ?_ ?_)) | (intro p9 hp9; exact absurd hp9 List.not_mem_nil) | (intro p9 hp9; (repeat refine List.mem_cons_of_mem _ ?_); exact hp9) | exact List.mem_cons_self | (refine List.mem_cons_of_mem _ ?_)))))) ?_ (by kst_all) (by ((intro z9 h29 h39; (try simp only [List.forall_mem_cons, List.not_mem_nil, false_implies, implies_true, and_true, ne_eq] at h29); (try simp only [List.contains_cons, List.contains_nil, Bool.or_false, Bool.or_eq_false_iff, beq_eq_false_iff_ne, ne_eq] at h39); (try dsimp only); first | rfl | (simp [h29, h39, kstB]; done) | (simp [h29, kstB]; done) | (simp [h39, kstB]; done) | (simp [kstB]; done)))) ⟨hI8, in_app hin5 hin9, by dsimp only; rw [List.length_append]; omega, _, hd9⟩
      · intro p9 hp9
        simp only [List.mem_cons, List.not_mem_nil, or_false] at hp9
        rcases hp9 with rfl | rfl | rfl
        · exact .inr (by simp [W.listOf])
        · exact .inl (Nat.ne_of_lt hi1)
        · exact .inr (by simp [W.listOf])
    · rename 0 ≤ Int.fmod _ 9 => hm1
      rename Int.fmod _ 9 < 9 => hm2
      unfold Stop
      rename News g' L' _ _ => N9
      rename Fr g' L' _ _ => F9
      rename Obj.data _ = Data.cell (some _) => hd9
      rename IntsAre _ (pl ++ _ ++ _) => hI8
      refine turn_end ((_, _, _, _), _) F9 N9 (by (repeat' (first | exact List.mem_cons_self | assumption | (refine List.mem_cons_of_mem _ ?_) | (refine List.mem_append_right _ ?_)))) (by (((try simp only [List.cons_append, List.nil_append, List.append_assoc]); (repeat' (first | (refine List.forall_mem_cons.mpr (And.intro ?_ ?_)) | (intro p9 hp9; exact absurd hp9 List.not_mem_nil) | (intro p9 hp9; (repeat refine List.mem_cons_of_mem _ ?_); exact hp9) | exact List.mem_cons_self | (refine List.mem_cons_of_mem _ ?_)))))) ?_ (by kst_all) (by ((intro z9 h29 h39; (try simp only [List.forall_mem_cons, List.not_mem_nil, false_implies, implies_true, and_true, ne_eq] at h29); (try simp only [List.contains_cons, List.contains_nil, Bool.or_false, Bool.or_eq_false_iff, beq_eq_false_iff_ne, ne_eq] at h39); (try dsimp only); first | rfl | (simp [h29, h39, kstB]; done) | (simp [h29, kstB]; done) | (simp [h39, kstB]; done) | (simp [kstB]; done)))) ⟨hI8, in_app (in_app hin5 (in_one (by omega) (by omega))) ?_, ?_, _, hd9⟩
      · intro p9 hp9
        simp only [List.mem_cons, List.not_mem_nil, or_false] at hp9
        rcases hp9 with rfl | rfl | rfl
        · exact .inr (by simp [W.listOf])
        · exact .inl (Nat.ne_of_lt hi1)
        · exact .inr (by simp [W.listOf])
      · intro y hy
        obtain ⟨k9, _, rfl⟩ := List.mem_map.mp hy
        rw [fm256]
        omega
      · dsimp only
        rw [List.length_append, List.length_append, List.length_map, rangeKs_length, List.length_cons, List.length_nil]
        omega
    · unfold Stop
      rename News g' L' _ _ => N9
      rename Fr g' L' _ _ => F9
      rename Obj.data _ = Data.cell (some _) => hd9
      rename IntsAre _ (pl ++ _) => hI8
      refine turn_end ((_, _, _, _), _) F9 N9 (by (repeat' (first | exact List.mem_cons_self | assumption | (refine List.mem_cons_of_mem _ ?_) | (refine List.mem_append_right _ ?_)))) (by (((try simp only [List.cons_append, List.nil_append, List.append_assoc]); (repeat' (first | (refine List.forall_mem_cons.mpr (And.intro ?_ ?_)) | (intro p9 hp9; exact absurd hp9 List.not_mem_nil) | (intro p9 hp9; (repeat refine List.mem_cons_of_mem _ ?_); exact hp9) | exact List.mem_cons_self | (refine List.mem_cons_of_mem _ ?_)))))) ?_ (by kst_all) (by ((intro z9 h29 h39; (try simp only [List.forall_mem_cons, List.not_mem_nil, false_implies, implies_true, and_true, ne_eq] at h29); (try simp only [List.contains_cons, List.contains_nil, Bool.or_false, Bool.or_eq_false_iff, beq_eq_false_iff_ne, ne_eq] at h39); (try dsimp only); first | rfl | (simp [h29, h39, kstB]; done) | (simp [h29, kstB]; done) | (simp [h39, kstB]; done) | (simp [kstB]; done)))) ⟨hI8, in_app hin5 (in_one (by omega) (by omega)), by dsimp only; rw [List.length_append, List.length_cons, List.length_nil]; omega, _, hd9⟩
      · intro p9 hp9
        simp only [List.mem_cons, List.not_mem_nil, or_false] at hp9
        rcases hp9 with rfl | rfl | rfl
        · exact .inr (by simp [W.listOf])
        · exact .inl (Nat.ne_of_lt hi1)
        · exact .inr (by simp [W.listOf])
    · unfold Stop
      rename News g' L' _ _ => N9
      rename Fr g' L' _ _ => F9
      rename Obj.data _ = Data.cell (some _) => hd9
      rename IntsAre _ (pl ++ _) => hI8
      refine turn_end ((_, _, _, _), _) F9 N9 (by (repeat' (first | exact List.mem_cons_self | assumption | (refine List.mem_cons_of_mem _ ?_) | (refine List.mem_append_right _ ?_)))) (by (((try simp only [List.cons_append, List.nil_append, List.append_assoc]); (repeat' (first | (refine List.forall_mem_cons.mpr (And.intro ?_ ?_)) | (intro p9 hp9; exact absurd hp9 List.not_mem_nil) | (intro p9 hp9; (repeat refine List.mem_cons_of_mem _ ?_); exact hp9) | exact List.mem_cons_self | (refine List.mem_cons_of_mem _ ?_)))))) ?_ (by kst_all) (by ((intro z9 h29 h39; (try simp only [List.forall_mem_cons, List.not_mem_nil, false_implies, implies_true, and_true, ne_eq] at h29); (try simp only [List.contains_cons, List.contains_nil, Bool.or_false, Bool.or_eq_false_iff, beq_eq_false_iff_ne, ne_eq] at h39); (try dsimp only); first | rfl | (simp [h29, h39, kstB]; done) | (simp [h29, kstB]; done) | (simp [h39, kstB]; done) | (simp [kstB]; done)))) ⟨hI8, in_app hin5 (in_one (by omega) (by omega)), by dsimp only; rw [List.length_append, List.length_cons, List.length_nil]; omega, _, hd9⟩
      · intro p9 hp9
        simp only [List.mem_cons, List.not_mem_nil, or_false] at hp9
        rcases hp9 with rfl | rfl | rfl
        · exact .inr (by simp [W.listOf])
        · exact .inl (Nat.ne_of_lt hi1)
        · exact .inr (by simp [W.listOf])
    · unfold Stop
      rename News g' L' _ _ => N9
      rename Fr g' L' _ _ => F9
      rename Obj.data _ = Data.cell (some _) => hd9
      refine turn_end ((_, _, _, _), _) F9 N9 (by (repeat' (first | exact List.mem_cons_self | assumption | (refine List.mem_cons_of_mem _ ?_) | (refine List.mem_append_right _ ?_)))) (by (((try simp only [List.cons_append, List.nil_append, List.append_assoc]); (repeat' (first | (refine List.forall_mem_cons.mpr (And.intro ?_ ?_)) | (intro p9 hp9; exact absurd hp9 List.not_mem_nil) | (intro p9 hp9; (repeat refine List.mem_cons_of_mem _ ?_); exact hp9) | exact List.mem_cons_self | (refine List.mem_cons_of_mem _ ?_)))))) ?_ (by kst_all) (by ((intro z9 h29 h39; (try simp only [List.forall_mem_cons, List.not_mem_nil, false_implies, implies_true, and_true, ne_eq] at h29); (try simp only [List.contains_cons, List.contains_nil, Bool.or_false, Bool.or_eq_false_iff, beq_eq_false_iff_ne, ne_eq] at h39); (try dsimp only); first | rfl | (simp [h29, h39, kstB]; done) | (simp [h29, kstB]; done) | (simp [h39, kstB]; done) | (simp [kstB]; done)))) ⟨hi5, hin5, by dsimp only; omega, _, hd9⟩
      · intro p9 hp9
        simp only [List.mem_cons, List.not_mem_nil, or_false] at hp9
        rcases hp9 with rfl | rfl | rfl
        · exact .inr (by simp [W.listOf])
        · exact .inl (Nat.ne_of_lt hi1)
        · exact .inr (by simp [W.listOf])
  case done =>
    rintro ⟨⟨pd, pus, pl, pn⟩, oc⟩ u5 h5 tk5 ⟨hi5, hin5, hl5, vo, hvo⟩ F5 N5
    (try dsimp only at hi5 hin5 hl5 hvo F5 N5)
    rw [hl.length] at hl5
    clear F9 N9
    (repeat' (first | (k_unfold; (try dsimp only)) | ((with_reducible show wpAny _ _ (eval (Expr.ListComp _ _ _ _) _) _ _ _); k_here; k_dflt (refine LCg.ListComp_U (F₀ := by k_asm) (by with_unfolding_all rfl) (by decide) (by rfl) (by decide) (by rfl) ?_)) | ((with_reducible show wpAny _ _ (call (Value.ref _) _) _ _ _); (fail_if_success (with_reducible show wpAny _ _ (call (Value.ref 87) _) _ _ _)); (fail_if_success ((with_reducible rename GoIn => hgo9); (with_reducible show wpAny _ _ (call (Value.ref 137) _) _ _ _))); refine Stop.mk ?_) | (k_here; (with_reducible show wpAny _ _ (call (Value.type "list") [Value.bytes _ _]) _ _ _); k_dflt (refine' lb_list ?kbaiN6 ?kbahN6 ?kbaFN6 ?kbaNN6 ?kbanN6 ?_; (case kbaFN6 => k_asm); (case kbaNN6 => k_asm); (case kbahN6 => rfl); (case kbaiN6 => kba_ints); (case kbanN6 => kba_size)); intro D9z us9z c9z h9z tk9z F9z N9z l19z hI9z; (try k_lt l19z); (try k_sweep)) | walk1 | (dsimp only; first | ((with_reducible show wpAny _ _ (call (Value.ref _) _) _ _ _); (fail_if_success (with_reducible show wpAny _ _ (call (Value.ref 87) _) _ _ _)); (fail_if_success ((with_reducible rename GoIn => hgo9); (with_reducible show wpAny _ _ (call (Value.ref 137) _) _ _ _))); refine Stop.mk ?_) | walk1)))
    exact LeaveR.ret (own' := [_, _]) hret F5 (fun q hq => N5 q (by
      simp only [List.mem_cons, List.not_mem_nil, or_false] at hq
      rcases hq with rfl | rfl
      · (repeat' (first | exact List.mem_cons_self | assumption | (refine List.mem_cons_of_mem _ ?_) | (refine List.mem_append_right _ ?_)))
      · (repeat' (first | exact List.mem_cons_self | assumption | (refine List.mem_cons_of_mem _ ?_) | (refine List.mem_append_right _ ?_))))) ⟨_, _, _, _, rfl, hi5, hin5, by omega, rfl⟩
end

theorem spec_lpsz {w : World} {mean : ExcName → Option Value} {mg mb : Str → Option Value} {n c : Int} {t t2 : Tok}
    (h0 : 0 ≤ n) (h1 : n < 1099511627776) (h2 : 0 ≤ c) :
    Spec w mean mg mb 235 30 300 [] [.int n t, .int c t2] (fun r o => ∃ d us ls nn, r = .ref d ∧ IntsAre us ls ∧ KBa.In ls ∧ ls.length ≤ 8 ∧ o = [(d, W.listOf us.toArray nn)]) (False) := by
  unfold Spec
  w_top off
  intro dp un gd cn cs a ccd cl outer A₀ base h₀ L m rest s R B F X N hap T hk hd hu hret hbad
  ((k_dflt (refine' code_own ?k1N1 ?k2N1 ?k3N1 ?k4N1 ?kapN1 ?k5N1 ?kAN1 ?kFN1 ?kKN1 ?k6N1 ?k7N1 ?k8N1 ?k9N1 ?kBN1 ?_ ?c2N1 ?c3N1 ?c4N1 ?c5N1; (case kAN1 => exact rfl); (case kFN1 => exact rfl); (case kKN1 => assumption); (case k1N1 => k_asm); (case k2N1 => k_asm); (case k3N1 => k_asm); (case k4N1 => k_asm); (case kapN1 => k_asm); (case k5N1 => k_asm); (case k6N1 => k_is); (case k7N1 => k_is); (case k8N1 => ktr_room); (case k9N1 => first | exact BindsTo.of_eq rfl | exact binds_K (by k_in) rfl (by k_is) rfl rfl rfl); (case c5N1 => decide); (case kBN1 => exact locs rfl); (case c2N1 => exact rfl); (case c3N1 => exact rfl); (case c4N1 => exact rfl); k_whole)))
  intro g' L' h' FG' F' N' B' X' T' hrest
  (try dsimp only)
  (try k_fold)
  have hMk := kstMark
  (repeat' (first | (k_unfold; (try dsimp only)) | ((with_reducible show wpAny _ _ (call (Value.ref _) _) _ _ _); (fail_if_success (with_reducible show wpAny _ _ (call (Value.ref 87) _) _ _ _)); (fail_if_success ((with_reducible rename GoIn => hgo9); (with_reducible show wpAny _ _ (call (Value.ref 137) _) _ _ _))); refine Stop.mk ?_) | (k_here; (with_reducible show wpAny _ _ (call (Value.type "list") [Value.bytes _ _]) _ _ _); k_dflt (refine' lb_list ?kbaiN2 ?kbahN2 ?kbaFN2 ?kbaNN2 ?kbanN2 ?_; (case kbaFN2 => k_asm); (case kbaNN2 => k_asm); (case kbahN2 => rfl); (case kbaiN2 => kba_ints); (case kbanN2 => kba_size)); intro D9z us9z c9z h9z tk9z F9z N9z l19z hI9z; (try k_lt l19z); (try k_sweep)) | walk1 | (dsimp only; first | ((with_reducible show wpAny _ _ (call (Value.ref _) _) _ _ _); (fail_if_success (with_reducible show wpAny _ _ (call (Value.ref 87) _) _ _ _)); (fail_if_success ((with_reducible rename GoIn => hgo9); (with_reducible show wpAny _ _ (call (Value.ref 137) _) _ _ _))); refine Stop.mk ?_) | walk1)))
  unfold Stop
  rename Fr g' L' _ _ => F9
  rename News g' L' _ _ => N9
  (try dsimp only)
  refine' Spec.use0 (spec_lput (n := n) h0 h1) B' F9 X' N9 T' rfl ?ud ?uu ?_ ?_
  case ud => ktr_room
  case uu => ktr_units
  rotate_left 1
  · intro hno
    exact hno.elim
  rintro r9 o9 h9 tk9 F9 N9 A9 ⟨d, us, nn, rfl, hI, rfl⟩
  have hpl : (putS n).length ≤ 6 := putS_len h0 (by omega)
  have hp1 : 1 ≤ (putS n).length := putS_pos n
  (try simp only [List.cons_append, List.nil_append] at N9)
  (repeat' (first | (k_unfold; (try dsimp only)) | ((with_reducible show wpAny _ _ (call (Value.ref _) _) _ _ _); (fail_if_success (with_reducible show wpAny _ _ (call (Value.ref 87) _) _ _ _)); (fail_if_success ((with_reducible rename GoIn => hgo9); (with_reducible show wpAny _ _ (call (Value.ref 137) _) _ _ _))); refine Stop.mk ?_) | (k_here; (with_reducible show wpAny _ _ (call (Value.type "list") [Value.bytes _ _]) _ _ _); k_dflt (refine' lb_list ?kbaiN3 ?kbahN3 ?kbaFN3 ?kbaNN3 ?kbanN3 ?_; (case kbaFN3 => k_asm); (case kbaNN3 => k_asm); (case kbahN3 => rfl); (case kbaiN3 => kba_ints); (case kbanN3 => kba_size)); intro D9z us9z c9z h9z tk9z F9z N9z l19z hI9z; (try k_lt l19z); (try k_sweep)) | walk1 | (dsimp only; first | ((with_reducible show wpAny _ _ (call (Value.ref _) _) _ _ _); (fail_if_success (with_reducible show wpAny _ _ (call (Value.ref 87) _) _ _ _)); (fail_if_success ((with_reducible rename GoIn => hgo9); (with_reducible show wpAny _ _ (call (Value.ref 137) _) _ _ _))); refine Stop.mk ?_) | walk1)))
  · unfold Stop
    rename Fr g' L' _ _ => F9
    rename News g' L' _ _ => N9
    rename IntsAre _ (_ ++ _) => hI9
    refine LeaveR.ret (own' := [_]) hret F9 (fun q hq => N9 q (by rcases List.mem_singleton.mp hq with rfl; exact .head _)) ⟨_, _, _, _, rfl, hI9, ?_, ?_, rfl⟩
    · have hin := putS_in h0
      have hl := putS_last h0
      intro x hx
      rcases List.mem_append.mp hx with hx | hx
      · exact hin x (List.mem_of_mem_take hx)
      · have e : (-1 + ((putS n).length : Int)).toNat = (putS n).length - 1 := by omega
        rw [e] at hx
        have h9 := hin _ (List.getElem_mem (l := putS n) (n := (putS n).length - 1) (by omega))
        have e9 : (putS n).getD ((putS n).length - 1) 0 = (putS n)[(putS n).length - 1]'(by omega) := by
          rw [List.getD_eq_getElem?_getD, List.getElem?_eq_getElem (by omega)]
          rfl
        simp only [List.mem_cons, List.not_mem_nil, or_false] at hx
        rcases hx with rfl | rfl
        · rw [e9] at hl ⊢
          omega
        · omega
    · simp only [List.length_append, List.length_take, List.length_cons, List.length_nil]
      omega
  · unfold Stop
    rename Fr g' L' _ _ => F9
    rename News g' L' _ _ => N9
    exact LeaveR.ret (own' := [_]) hret F9 N9 ⟨_, _, _, _, rfl, hI, putS_in h0, by omega, rfl⟩

theorem spec_lszr {w : World} {mean : ExcName → Option Value} {mg mb : Str → Option Value} {n : Int} {t : Tok}
    (h0 : 0 ≤ n) (h1 : n < 1000000000) :
    Spec w mean mg mb 249 30 300 [] [.int n t] (fun r o => r = .bool true ∧ o = []) (False) := by
  unfold Spec
  w_top off
  intro dp un gd cn cs a ccd cl outer A₀ base h₀ L m rest s R B F X N hap T hk hd hu hret hbad
  ((k_dflt (refine' code_own ?k1N1 ?k2N1 ?k3N1 ?k4N1 ?kapN1 ?k5N1 ?kAN1 ?kFN1 ?kKN1 ?k6N1 ?k7N1 ?k8N1 ?k9N1 ?kBN1 ?_ ?c2N1 ?c3N1 ?c4N1 ?c5N1; (case kAN1 => exact rfl); (case kFN1 => exact rfl); (case kKN1 => assumption); (case k1N1 => k_asm); (case k2N1 => k_asm); (case k3N1 => k_asm); (case k4N1 => k_asm); (case kapN1 => k_asm); (case k5N1 => k_asm); (case k6N1 => k_is); (case k7N1 => k_is); (case k8N1 => ktr_room); (case k9N1 => first | exact BindsTo.of_eq rfl | exact binds_K (by k_in) rfl (by k_is) rfl rfl rfl); (case c5N1 => decide); (case kBN1 => exact locs rfl); (case c2N1 => exact rfl); (case c3N1 => exact rfl); (case c4N1 => exact rfl); k_whole)))
  intro g' L' h' FG' F' N' B' X' T' hrest
  (try dsimp only)
  (try k_fold)
  have hMk := kstMark
  (repeat' (first | (k_unfold; (try dsimp only)) | ((with_reducible show wpAny _ _ (call (Value.ref _) _) _ _ _); (fail_if_success (with_reducible show wpAny _ _ (call (Value.ref 87) _) _ _ _)); (fail_if_success ((with_reducible rename GoIn => hgo9); (with_reducible show wpAny _ _ (call (Value.ref 137) _) _ _ _))); refine Stop.mk ?_) | (k_here; (with_reducible show wpAny _ _ (call (Value.type "list") [Value.bytes _ _]) _ _ _); k_dflt (refine' lb_list ?kbaiN2 ?kbahN2 ?kbaFN2 ?kbaNN2 ?kbanN2 ?_; (case kbaFN2 => k_asm); (case kbaNN2 => k_asm); (case kbahN2 => rfl); (case kbaiN2 => kba_ints); (case kbanN2 => kba_size)); intro D9z us9z c9z h9z tk9z F9z N9z l19z hI9z; (try k_lt l19z); (try k_sweep)) | walk1 | (dsimp only; first | ((with_reducible show wpAny _ _ (call (Value.ref _) _) _ _ _); (fail_if_success (with_reducible show wpAny _ _ (call (Value.ref 87) _) _ _ _)); (fail_if_success ((with_reducible rename GoIn => hgo9); (with_reducible show wpAny _ _ (call (Value.ref 137) _) _ _ _))); refine Stop.mk ?_) | walk1)))
  unfold Stop
  rename Fr g' L' _ _ => F9
  rename News g' L' _ _ => N9
  (try dsimp only)
  refine' Spec.use0 (spec_put_size (n := n) h0 (by omega)) B' F9 X' N9 T' rfl ?ud ?uu ?_ ?_
  case ud => ktr_room
  case uu => ktr_units
  rotate_left 1
  · intro hno
    exact hno.elim
  rintro r9 o9 h9 tk9 F9 N9 A9 ⟨b, tk, rfl, hb, rfl⟩
  have hpl : (putS n).length ≤ 6 := putS_len h0 (by omega)
  (try simp only [List.cons_append, List.nil_append] at N9)
  (repeat' (first | (k_unfold; (try dsimp only)) | ((with_reducible show wpAny _ _ (call (Value.ref _) _) _ _ _); (fail_if_success (with_reducible show wpAny _ _ (call (Value.ref 87) _) _ _ _)); (fail_if_success ((with_reducible rename GoIn => hgo9); (with_reducible show wpAny _ _ (call (Value.ref 137) _) _ _ _))); refine Stop.mk ?_) | (k_here; (with_reducible show wpAny _ _ (call (Value.type "list") [Value.bytes _ _]) _ _ _); k_dflt (refine' lb_list ?kbaiN3 ?kbahN3 ?kbaFN3 ?kbaNN3 ?kbanN3 ?_; (case kbaFN3 => k_asm); (case kbaNN3 => k_asm); (case kbahN3 => rfl); (case kbaiN3 => kba_ints); (case kbanN3 => kba_size)); intro D9z us9z c9z h9z tk9z F9z N9z l19z hI9z; (try k_lt l19z); (try k_sweep)) | walk1 | (dsimp only; first | ((with_reducible show wpAny _ _ (call (Value.ref _) _) _ _ _); (fail_if_success (with_reducible show wpAny _ _ (call (Value.ref 87) _) _ _ _)); (fail_if_success ((with_reducible rename GoIn => hgo9); (with_reducible show wpAny _ _ (call (Value.ref 137) _) _ _ _))); refine Stop.mk ?_) | walk1)))
  unfold Stop
  rename Fr g' L' _ _ => F9
  rename News g' L' _ _ => N9
  rename IntsAre _ (putS n) => hI1
  refine' Spec.use0 (spec_lput (n := n) h0 (by omega)) B' F9 X' N9 T' rfl ?ud ?uu ?_ ?_
  case ud => ktr_room
  case uu => ktr_units
  rotate_left 1
  · intro hno
    exact hno.elim
  rintro r9 o9 h9 tk9 F9 N9 A9 ⟨d2, us2, nn2, rfl, hI2, rfl⟩
  (try simp only [List.cons_append, List.nil_append] at N9)
  (repeat' (first | (k_unfold; (try dsimp only)) | ((with_reducible show wpAny _ _ (call (Value.ref _) _) _ _ _); (fail_if_success (with_reducible show wpAny _ _ (call (Value.ref 87) _) _ _ _)); (fail_if_success ((with_reducible rename GoIn => hgo9); (with_reducible show wpAny _ _ (call (Value.ref 137) _) _ _ _))); refine Stop.mk ?_) | (k_here; (with_reducible show wpAny _ _ (call (Value.type "list") [Value.bytes _ _]) _ _ _); k_dflt (refine' lb_list ?kbaiN4 ?kbahN4 ?kbaFN4 ?kbaNN4 ?kbanN4 ?_; (case kbaFN4 => k_asm); (case kbaNN4 => k_asm); (case kbahN4 => rfl); (case kbaiN4 => kba_ints); (case kbanN4 => kba_size)); intro D9z us9z c9z h9z tk9z F9z N9z l19z hI9z; (try k_lt l19z); (try k_sweep)) | walk1 | (dsimp only; first | ((with_reducible show wpAny _ _ (call (Value.ref _) _) _ _ _); (fail_if_success (with_reducible show wpAny _ _ (call (Value.ref 87) _) _ _ _)); (fail_if_success ((with_reducible rename GoIn => hgo9); (with_reducible show wpAny _ _ (call (Value.ref 137) _) _ _ _))); refine Stop.mk ?_) | walk1)))
  unfold Stop
  rename Fr g' L' _ _ => F9
  rename News g' L' _ _ => N9
  refine' Spec.use0 (spec_at_size (ks := putS n) (at_ := 0) hb (by omega) (by omega) (by omega)) B' F9 X' N9 T' rfl ?ud ?uu ?_ ?_
  case ud => ktr_room
  case uu => ktr_units
  rotate_left 1
  · have e9 := szAt_putS [] h0
    rw [List.append_nil] at e9
    rw [show (Int.toNat 0) = 0 from rfl, List.drop_zero, e9]
    intro hno
    cases hno
  rintro r9 o9 h9 tk9 F9 N9 A9 ⟨n1, rst1, p1, D1, t11, t12, hs1, hp1, rfl, rfl⟩
  (try simp only [List.cons_append, List.nil_append] at N9)
  have e1 := szAt_putS [] h0
  rw [List.append_nil] at e1
  rw [show (Int.toNat 0) = 0 from rfl, List.drop_zero, e1] at hs1
  cases hs1
  have hp2 : p1 = ((putS n).length : Int) := by simpa using hp1
  clear hp1
  subst hp2
  (repeat' (first | (k_unfold; (try dsimp only)) | ((with_reducible show wpAny _ _ (call (Value.ref _) _) _ _ _); (fail_if_success (with_reducible show wpAny _ _ (call (Value.ref 87) _) _ _ _)); (fail_if_success ((with_reducible rename GoIn => hgo9); (with_reducible show wpAny _ _ (call (Value.ref 137) _) _ _ _))); refine Stop.mk ?_) | (k_here; (with_reducible show wpAny _ _ (call (Value.type "list") [Value.bytes _ _]) _ _ _); k_dflt (refine' lb_list ?kbaiN5 ?kbahN5 ?kbaFN5 ?kbaNN5 ?kbanN5 ?_; (case kbaFN5 => k_asm); (case kbaNN5 => k_asm); (case kbahN5 => rfl); (case kbaiN5 => kba_ints); (case kbanN5 => kba_size)); intro D9z us9z c9z h9z tk9z F9z N9z l19z hI9z; (try k_lt l19z); (try k_sweep)) | walk1 | (dsimp only; first | ((with_reducible show wpAny _ _ (call (Value.ref _) _) _ _ _); (fail_if_success (with_reducible show wpAny _ _ (call (Value.ref 87) _) _ _ _)); (fail_if_success ((with_reducible rename GoIn => hgo9); (with_reducible show wpAny _ _ (call (Value.ref 137) _) _ _ _))); refine Stop.mk ?_) | walk1)))
  unfold Stop
  rename Fr g' L' _ _ => F9
  rename News g' L' _ _ => N9
  rename KBw.bInts (#[255] ++ b ++ #[1]) = _ => hb3
  have hb4 : KBw.bInts (#[255] ++ b ++ #[1]) = 255 :: (putS n ++ [1]) := by rw [hb3]; simp
  refine' Spec.use0 (spec_at_size (ks := 255 :: (putS n ++ [1])) (at_ := 1) hb4 (by simp only [List.length_cons, List.length_append, List.length_nil]; omega) (by omega) (by simp only [List.length_cons, List.length_append, List.length_nil]; omega)) B' F9 X' N9 T' rfl ?ud ?uu ?_ ?_
  case ud => ktr_room
  case uu => ktr_units
  rotate_left 1
  · rw [show (Int.toNat 1) = 1 from rfl, List.drop_succ_cons, List.drop_zero, szAt_putS [1] h0]
    intro hno
    cases hno
  rintro r9 o9 h9 tk9 F9 N9 A9 ⟨n3, rst3, p3, D3, t31, t32, hs3, hp3, rfl, rfl⟩
  (try simp only [List.cons_append, List.nil_append] at N9)
  rw [show (Int.toNat 1) = 1 from rfl, List.drop_succ_cons, List.drop_zero, szAt_putS [1] h0] at hs3
  cases hs3
  have hp4 : p3 = 1 + ((putS n).length : Int) := by rw [hp3]; simp only [List.length_cons, List.length_append, List.length_nil]; omega
  clear hp3
  subst hp4
  (repeat' (first | (k_unfold; (try dsimp only)) | ((with_reducible show wpAny _ _ (call (Value.ref _) _) _ _ _); (fail_if_success (with_reducible show wpAny _ _ (call (Value.ref 87) _) _ _ _)); (fail_if_success ((with_reducible rename GoIn => hgo9); (with_reducible show wpAny _ _ (call (Value.ref 137) _) _ _ _))); refine Stop.mk ?_) | (k_here; (with_reducible show wpAny _ _ (call (Value.type "list") [Value.bytes _ _]) _ _ _); k_dflt (refine' lb_list ?kbaiN6 ?kbahN6 ?kbaFN6 ?kbaNN6 ?kbanN6 ?_; (case kbaFN6 => k_asm); (case kbaNN6 => k_asm); (case kbahN6 => rfl); (case kbaiN6 => kba_ints); (case kbanN6 => kba_size)); intro D9z us9z c9z h9z tk9z F9z N9z l19z hI9z; (try k_lt l19z); (try k_sweep)) | walk1 | (dsimp only; first | ((with_reducible show wpAny _ _ (call (Value.ref _) _) _ _ _); (fail_if_success (with_reducible show wpAny _ _ (call (Value.ref 87) _) _ _ _)); (fail_if_success ((with_reducible rename GoIn => hgo9); (with_reducible show wpAny _ _ (call (Value.ref 137) _) _ _ _))); refine Stop.mk ?_) | walk1)))
  unfold Stop
  rename Fr g' L' _ _ => F9
  exact LeaveR.ret (own' := []) hret F9 News.nil ⟨rfl, rfl⟩

def dOf {q : Program} {n : Str} {d : DefRec} {kwd : List (Str × Expr)} (_ : defOf q n = some (d, kwd)) : DefRec := d
noncomputable def lawD : DefRec := dOf (q := hd.view_1_40) (n := Str.ofString "law") (by rfl)
noncomputable def lawEnv (s₁ : Shared) (fa : Addr) (cd : Value) : Env := envOf lawD.name lawD.scope s₁.heap.objs.size fa cd
/-- the law has come back True -/
def LawEnd (s₁ : Shared) (Q : Flow → Shared → Prop) : Prop := ∀ g h tk m, KtsTurn [] s₁.heap g → Fr g s₁.heap.objs.size h m → Q (.ret (.bool true)) { s₁ with heap := h, toks := tk }
/-- the law from its statement n on, what the frame and the ledger hold being so -/
def LawFrom (w : World) (mean : ExcName → Option Value) (mg mb : Str → Option Value) (n : Nat) (ps : List (Str × Value)) (led : List (Addr × Obj)) : Prop :=
  ∀ (s₁ : Shared) (fa : Addr) (cd : Value) (Q : Flow → Shared → Prop) (E : Value → Shared → Prop) (g h : Heap) (tk : Nat) (m0 : Str → Option Value),
    (hd.heap_1_39 w.params).In s₁.heap → Top VV LO mean mg mb s₁.heap → KtsTurn [] s₁.heap g → Below callerA s₁.heap [] g → LawEnd s₁ Q →
    Fr g s₁.heap.objs.size h (kstB m0 ps) → News g s₁.heap.objs.size h led →
    wpG (model PP w) (callerA.deeper (lawEnv s₁ fa cd)) (execs (lawD.body.drop n) (lawEnv s₁ fa cd)) Q E { s₁ with heap := h, toks := tk }
theorem LawFrom.go {w : World} {mean : ExcName → Option Value} {mg mb : Str → Option Value} {n : Nat} {ps : List (Str × Value)} {led news : List (Addr × Obj)} (H : LawFrom w mean mg mb n ps led)
    {s₁ : Shared} {fa : Addr} {cd : Value} {Q : Flow → Shared → Prop} {E : Value → Shared → Prop} {g h : Heap} {tk : Nat} {m : Str → Option Value}
    (X : (hd.heap_1_39 w.params).In s₁.heap) (T : Top VV LO mean mg mb s₁.heap) (TT : KtsTurn [] s₁.heap g) (B : Below callerA s₁.heap [] g) (hQ : LawEnd s₁ Q)
    (F : Fr g s₁.heap.objs.size h m) (hk : ∀ p ∈ ps, m p.1 = some p.2) (N : News g s₁.heap.objs.size h news) (hn : ∀ p ∈ led, p ∈ news) :
    wpG (model PP w) (callerA.deeper (lawEnv s₁ fa cd)) (execs (lawD.body.drop n) (lawEnv s₁ fa cd)) Q E { s₁ with heap := h, toks := tk } :=
  H s₁ fa cd Q E g h tk m X T TT B hQ (by rw [kstB_self hk]; exact F) fun p hp => N p (hn p hp)
section
variable {α : Type} {M : Model} {A : Around} {E : Value → Shared → Prop} {s : Shared} {env : Env}
theorem wpG_isTrue_Not {x : Expr} {p : Pos} {t : Sem Value} {Q : Bool → Shared → Prop} (h : wpG M A (isTrue x env (eval x env)) (fun b s' => Q (!b) s') E s) : wpG M A (isTrue (.UnaryOp .Not x p) env t) Q E s := by
  show wpG M A (do return !(← isTrue x env (eval x env))) Q E s
  exact wpG_bind (wpG_mono h (fun _ _ x => wpG_pure x) fun _ _ x => x)
theorem wpG_isTrue_Call {f : Expr} {args : List Expr} {kws : List Keyword} {p : Pos} {Q : Bool → Shared → Prop}
    (h : wpG M A (eval (.Call f args kws p) env) (fun v s₁ => wpAny M A (truthy v) Q E s₁) E s) : wpG M A (isTrue (.Call f args kws p) env (eval (.Call f args kws p) env)) Q E s := by
  show wpG M A (do let v ← eval (.Call f args kws p) env; standAt (Expr.Call f args kws p).pos; holding [v] (truthy v)) Q E s
  exact wpG_bind (wpG_mono h (fun _ _ x => wpG_step (wpAny_standAt (wpG_holding (wpG_any x)))) fun _ _ x => x)
theorem wpG_isTrue_BoolOp {op : BoolOp} {values : List Expr} {p : Pos} {t : Sem Value} {Q : Bool → Shared → Prop} (h : wpG M A (allTrue op values env) Q E s) : wpG M A (isTrue (.BoolOp op values p) env t) Q E s := h
theorem wpG_anyCons {x : Expr} {rest : List Expr} {Q : Bool → Shared → Prop}
    (h : wpG M A (isTrue x env (eval x env)) (fun b s₁ => if b then Q true s₁ else wpG M A (allTrue .Or rest env) Q E s₁) E s) : wpG M A (allTrue .Or (x :: rest) env) Q E s := by
  rw [allTrue]
  refine wpG_bind (wpG_mono h (fun b s₁ h₁ => ?_) fun _ _ x => x)
  cases b with
  | true => exact wpG_pure h₁
  | false => exact h₁
theorem wpG_anyNil {Q : Bool → Shared → Prop} (h : Q false s) : wpG M A (allTrue .Or [] env) Q E s := by
  rw [allTrue]
  exact wpG_pure h
theorem wpG_BoolAnd2 {x y : Expr} {p : Pos} {Q : Value → Shared → Prop}
    (h : wpG M A (eval x env) (fun v s₁ => wpAny M A (truthy v) (fun t s₂ => if t then wpG M A (eval y env) Q E s₂ else Q v s₂) E s₁) E s) : wpG M A (eval (.BoolOp .And [x, y] p) env) Q E s := by
  show wpG M A (do let v ← eval x env; standAt p; let t ← holding [v] (truthy v); match BoolOp.And, t with | .And, false | .Or, true => pure v | _, _ => boolOp p .And [eval y env]) Q E s
  refine wpG_bind (wpG_mono h (fun v s₁ h₁ => ?_) fun _ _ x => x)
  refine wpG_step (wpAny_standAt (wpG_step (wpAny_holding (wpAny_mono h₁ (fun t s₂ h₂ => ?_) fun _ _ x => x))))
  cases t with
  | true => exact h₂
  | false => exact wpG_pure h₂
end

theorem law_13 {w : World} {mean : ExcName → Option Value} {mg mb : Str → Option Value} {bb : Array UInt8} {tb : Tok} {bl pl rl : List Int} {pd rd : Addr} {pus rus : List Value} {pn rn : Nat} {ct : Int} {tc : Tok}
    (hb : KBw.bInts bb = bl) (hbl : bl.length ≤ 66) (hpI : IntsAre pus pl) (hpin : KBa.In pl) (hpl : pl.length ≤ 200) (hrI : IntsAre rus rl) (hrin : KBa.In rl) (hrl : rl.length ≤ 12) (hc : 0 ≤ ct) (hc2 : ct ≤ pl.length) :
    LawFrom w mean mg mb 13 [(Str.ofString "base", .bytes bb tb), (Str.ofString "page", .ref pd), (Str.ofString "raw", .ref rd), (Str.ofString "cut", .int ct tc)] [(pd, W.listOf pus.toArray pn), (rd, W.listOf rus.toArray rn)] := by
  unfold LawFrom
  w_top off
  intro s₁ fa cd Q E g h tk m0 XB TB TT B hQ F N
  have X := XB.keeps B.stays
  have T := TB.keeps B.stays
  delta lawEnv lawD dOf
  dsimp only [List.drop]
  have hMk := kstMark
  refine wpG_cons (wpG_Return (wpG_BoolAnd2 (wpG_Call_Name ?_)))
  (repeat' (first | (k_unfold; (try dsimp only)) | ((with_reducible show wpAny _ _ (call (Value.ref _) _) _ _ _); (fail_if_success (with_reducible show wpAny _ _ (call (Value.ref 87) _) _ _ _)); (fail_if_success ((with_reducible rename GoIn => hgo9); (with_reducible show wpAny _ _ (call (Value.ref 137) _) _ _ _))); refine Stop.mk ?_) | (k_here; (with_reducible show wpAny _ _ (call (Value.type "list") [Value.bytes _ _]) _ _ _); k_dflt (refine' lb_list ?kbaiN1 ?kbahN1 ?kbaFN1 ?kbaNN1 ?kbanN1 ?_; (case kbaFN1 => k_asm); (case kbaNN1 => k_asm); (case kbahN1 => rfl); (case kbaiN1 => kba_ints); (case kbanN1 => kba_size)); intro D9z us9z c9z h9z tk9z F9z N9z l19z hI9z; (try k_lt l19z); (try k_sweep)) | walk1 | (dsimp only; first | ((with_reducible show wpAny _ _ (call (Value.ref _) _) _ _ _); (fail_if_success (with_reducible show wpAny _ _ (call (Value.ref 87) _) _ _ _)); (fail_if_success ((with_reducible rename GoIn => hgo9); (with_reducible show wpAny _ _ (call (Value.ref 137) _) _ _ _))); refine Stop.mk ?_) | walk1)))
  refine wpG_callWith_K (K := Mine.hd.heap_1_39 w.params) (by k_is) ?_
  (repeat' (first | (k_unfold; (try dsimp only)) | ((with_reducible show wpAny _ _ (call (Value.ref _) _) _ _ _); (fail_if_success (with_reducible show wpAny _ _ (call (Value.ref 87) _) _ _ _)); (fail_if_success ((with_reducible rename GoIn => hgo9); (with_reducible show wpAny _ _ (call (Value.ref 137) _) _ _ _))); refine Stop.mk ?_) | (k_here; (with_reducible show wpAny _ _ (call (Value.type "list") [Value.bytes _ _]) _ _ _); k_dflt (refine' lb_list ?kbaiN2 ?kbahN2 ?kbaFN2 ?kbaNN2 ?kbanN2 ?_; (case kbaFN2 => k_asm); (case kbaNN2 => k_asm); (case kbahN2 => rfl); (case kbaiN2 => kba_ints); (case kbanN2 => kba_size)); intro D9z us9z c9z h9z tk9z F9z N9z l19z hI9z; (try k_lt l19z); (try k_sweep)) | walk1 | (dsimp only; first | ((with_reducible show wpAny _ _ (call (Value.ref _) _) _ _ _); (fail_if_success (with_reducible show wpAny _ _ (call (Value.ref 87) _) _ _ _)); (fail_if_success ((with_reducible rename GoIn => hgo9); (with_reducible show wpAny _ _ (call (Value.ref 137) _) _ _ _))); refine Stop.mk ?_) | walk1)))
  unfold Stop
  rename Fr g _ _ _ => F9
  rename News g _ _ _ => N9
  rename IntsAre _ (List.take _ pl) => hI9
  refine KBa.make_K F9 N9 rfl (by is_list) hI9 (fun x hx => hpin x (List.mem_of_mem_take hx)) (by rw [List.length_take]; omega) ?_
  intro h6 t6 k6 F6 N6 I6
  (repeat' (first | (k_unfold; (try dsimp only)) | ((with_reducible show wpAny _ _ (call (Value.ref _) _) _ _ _); (fail_if_success (with_reducible show wpAny _ _ (call (Value.ref 87) _) _ _ _)); (fail_if_success ((with_reducible rename GoIn => hgo9); (with_reducible show wpAny _ _ (call (Value.ref 137) _) _ _ _))); refine Stop.mk ?_) | (k_here; (with_reducible show wpAny _ _ (call (Value.type "list") [Value.bytes _ _]) _ _ _); k_dflt (refine' lb_list ?kbaiN3 ?kbahN3 ?kbaFN3 ?kbaNN3 ?kbanN3 ?_; (case kbaFN3 => k_asm); (case kbaNN3 => k_asm); (case kbahN3 => rfl); (case kbaiN3 => kba_ints); (case kbanN3 => kba_size)); intro D9z us9z c9z h9z tk9z F9z N9z l19z hI9z; (try k_lt l19z); (try k_sweep)) | walk1 | (dsimp only; first | ((with_reducible show wpAny _ _ (call (Value.ref _) _) _ _ _); (fail_if_success (with_reducible show wpAny _ _ (call (Value.ref 87) _) _ _ _)); (fail_if_success ((with_reducible rename GoIn => hgo9); (with_reducible show wpAny _ _ (call (Value.ref 137) _) _ _ _))); refine Stop.mk ?_) | walk1)))
  refine' SpecTG.use0 (specTG_lright hb (KBa.ints_make I6) (by omega) (by rw [List.length_take]; omega)) B F6 X N6 T XB TB ktsDicts_nil rfl ?ud ?uu ?_
  case ud => ktr_room
  case uu => ktr_units
  rintro r7 o7 g7 h7 tk7 T7 B7 F7 N7 ⟨rfl, rfl⟩
  have X7 := XB.keeps B7.stays
  have TT7 := TB.keeps B7.stays
  (try simp only [List.cons_append, List.nil_append] at N7)
  clear X T B
  (repeat' (first | (k_unfold; (try dsimp only)) | ((with_reducible show wpAny _ _ (call (Value.ref _) _) _ _ _); (fail_if_success (with_reducible show wpAny _ _ (call (Value.ref 87) _) _ _ _)); (fail_if_success ((with_reducible rename GoIn => hgo9); (with_reducible show wpAny _ _ (call (Value.ref 137) _) _ _ _))); refine Stop.mk ?_) | (k_here; (with_reducible show wpAny _ _ (call (Value.type "list") [Value.bytes _ _]) _ _ _); k_dflt (refine' lb_list ?kbaiN4 ?kbahN4 ?kbaFN4 ?kbaNN4 ?kbanN4 ?_; (case kbaFN4 => k_asm); (case kbaNN4 => k_asm); (case kbahN4 => rfl); (case kbaiN4 => kba_ints); (case kbanN4 => kba_size)); intro D9z us9z c9z h9z tk9z F9z N9z l19z hI9z; (try k_lt l19z); (try k_sweep)) | walk1 | (dsimp only; first | ((with_reducible show wpAny _ _ (call (Value.ref _) _) _ _ _); (fail_if_success (with_reducible show wpAny _ _ (call (Value.ref 87) _) _ _ _)); (fail_if_success ((with_reducible rename GoIn => hgo9); (with_reducible show wpAny _ _ (call (Value.ref 137) _) _ _ _))); refine Stop.mk ?_) | walk1)))
  refine wpG_Call_Name ?_
  (repeat' (first | (k_unfold; (try dsimp only)) | ((with_reducible show wpAny _ _ (call (Value.ref _) _) _ _ _); (fail_if_success (with_reducible show wpAny _ _ (call (Value.ref 87) _) _ _ _)); (fail_if_success ((with_reducible rename GoIn => hgo9); (with_reducible show wpAny _ _ (call (Value.ref 137) _) _ _ _))); refine Stop.mk ?_) | (k_here; (with_reducible show wpAny _ _ (call (Value.type "list") [Value.bytes _ _]) _ _ _); k_dflt (refine' lb_list ?kbaiN5 ?kbahN5 ?kbaFN5 ?kbaNN5 ?kbanN5 ?_; (case kbaFN5 => k_asm); (case kbaNN5 => k_asm); (case kbahN5 => rfl); (case kbaiN5 => kba_ints); (case kbanN5 => kba_size)); intro D9z us9z c9z h9z tk9z F9z N9z l19z hI9z; (try k_lt l19z); (try k_sweep)) | walk1 | (dsimp only; first | ((with_reducible show wpAny _ _ (call (Value.ref _) _) _ _ _); (fail_if_success (with_reducible show wpAny _ _ (call (Value.ref 87) _) _ _ _)); (fail_if_success ((with_reducible rename GoIn => hgo9); (with_reducible show wpAny _ _ (call (Value.ref 137) _) _ _ _))); refine Stop.mk ?_) | walk1)))
  refine wpG_callWith_K (K := Mine.hd.heap_1_39 w.params) (by k_is) ?_
  (repeat' (first | (k_unfold; (try dsimp only)) | ((with_reducible show wpAny _ _ (call (Value.ref _) _) _ _ _); (fail_if_success (with_reducible show wpAny _ _ (call (Value.ref 87) _) _ _ _)); (fail_if_success ((with_reducible rename GoIn => hgo9); (with_reducible show wpAny _ _ (call (Value.ref 137) _) _ _ _))); refine Stop.mk ?_) | (k_here; (with_reducible show wpAny _ _ (call (Value.type "list") [Value.bytes _ _]) _ _ _); k_dflt (refine' lb_list ?kbaiN6 ?kbahN6 ?kbaFN6 ?kbaNN6 ?kbanN6 ?_; (case kbaFN6 => k_asm); (case kbaNN6 => k_asm); (case kbahN6 => rfl); (case kbaiN6 => kba_ints); (case kbanN6 => kba_size)); intro D9z us9z c9z h9z tk9z F9z N9z l19z hI9z; (try k_lt l19z); (try k_sweep)) | walk1 | (dsimp only; first | ((with_reducible show wpAny _ _ (call (Value.ref _) _) _ _ _); (fail_if_success (with_reducible show wpAny _ _ (call (Value.ref 87) _) _ _ _)); (fail_if_success ((with_reducible rename GoIn => hgo9); (with_reducible show wpAny _ _ (call (Value.ref 137) _) _ _ _))); refine Stop.mk ?_) | walk1)))
  unfold Stop
  rename Fr g7 _ _ _ => F9
  rename News g7 _ _ _ => N9
  rename IntsAre _ (pl ++ _) => hI9
  have hin9 : KBa.In (pl ++ List.take (Int.toNat 1) rl) := in_app hpin fun x hx => hrin x (List.mem_of_mem_take hx)
  refine KBa.make_K F9 N9 rfl (by is_list) hI9 hin9 (by rw [List.length_append, List.length_take]; omega) ?_
  intro h6 t6 k6 F6 N6 I6
  (repeat' (first | (k_unfold; (try dsimp only)) | ((with_reducible show wpAny _ _ (call (Value.ref _) _) _ _ _); (fail_if_success (with_reducible show wpAny _ _ (call (Value.ref 87) _) _ _ _)); (fail_if_success ((with_reducible rename GoIn => hgo9); (with_reducible show wpAny _ _ (call (Value.ref 137) _) _ _ _))); refine Stop.mk ?_) | (k_here; (with_reducible show wpAny _ _ (call (Value.type "list") [Value.bytes _ _]) _ _ _); k_dflt (refine' lb_list ?kbaiN7 ?kbahN7 ?kbaFN7 ?kbaNN7 ?kbanN7 ?_; (case kbaFN7 => k_asm); (case kbaNN7 => k_asm); (case kbahN7 => rfl); (case kbaiN7 => kba_ints); (case kbanN7 => kba_size)); intro D9z us9z c9z h9z tk9z F9z N9z l19z hI9z; (try k_lt l19z); (try k_sweep)) | walk1 | (dsimp only; first | ((with_reducible show wpAny _ _ (call (Value.ref _) _) _ _ _); (fail_if_success (with_reducible show wpAny _ _ (call (Value.ref 87) _) _ _ _)); (fail_if_success ((with_reducible rename GoIn => hgo9); (with_reducible show wpAny _ _ (call (Value.ref 137) _) _ _ _))); refine Stop.mk ?_) | walk1)))
  refine' SpecTG.use0 (specTG_lright hb (KBa.ints_make I6) (by omega) (by rw [List.length_append, List.length_take]; omega)) B7 F6 X7 N6 TT7 XB TB ktsDicts_nil rfl ?ud ?uu ?_
  case ud => ktr_room
  case uu => ktr_units
  rintro r8 o8 g8 h8 tk8 T8 B8 F8 N8 ⟨rfl, rfl⟩
  exact hQ _ _ _ _ ((TT.trans T7).trans T8) F8

theorem law_11 {w : World} {mean : ExcName → Option Value} {mg mb : Str → Option Value} {bb : Array UInt8} {tb : Tok} {bl pl rl : List Int} {pd rd : Addr} {pus rus : List Value} {pn rn : Nat} {wh : Int} {tw : Tok}
    (hb : KBw.bInts bb = bl) (hbl : bl.length ≤ 66) (hpI : IntsAre pus pl) (hpin : KBa.In pl) (hpl : pl.length ≤ 200) (hrI : IntsAre rus rl) (hrin : KBa.In rl) (hrl : rl.length ≤ 12) (hw0 : 0 ≤ wh) :
    LawFrom w mean mg mb 11 [(Str.ofString "base", .bytes bb tb), (Str.ofString "page", .ref pd), (Str.ofString "raw", .ref rd), (Str.ofString "whole", .int wh tw)] [(pd, W.listOf pus.toArray pn), (rd, W.listOf rus.toArray rn)] := by
  unfold LawFrom
  w_top off
  intro s₁ fa cd Q E g h tk m0 XB TB TT B hQ F N
  have X := XB.keeps B.stays
  have T := TB.keeps B.stays
  delta lawEnv lawD dOf
  dsimp only [List.drop]
  have hMk := kstMark
  refine wpG_cons (wpG_If (wpG_isTrue_Not (wpG_isTrue_Call (wpG_Call_Name ?_))))
  (repeat' (first | (k_unfold; (try dsimp only)) | ((with_reducible show wpAny _ _ (call (Value.ref _) _) _ _ _); (fail_if_success (with_reducible show wpAny _ _ (call (Value.ref 87) _) _ _ _)); (fail_if_success ((with_reducible rename GoIn => hgo9); (with_reducible show wpAny _ _ (call (Value.ref 137) _) _ _ _))); refine Stop.mk ?_) | (k_here; (with_reducible show wpAny _ _ (call (Value.type "list") [Value.bytes _ _]) _ _ _); k_dflt (refine' lb_list ?kbaiN1 ?kbahN1 ?kbaFN1 ?kbaNN1 ?kbanN1 ?_; (case kbaFN1 => k_asm); (case kbaNN1 => k_asm); (case kbahN1 => rfl); (case kbaiN1 => kba_ints); (case kbanN1 => kba_size)); intro D9z us9z c9z h9z tk9z F9z N9z l19z hI9z; (try k_lt l19z); (try k_sweep)) | walk1 | (dsimp only; first | ((with_reducible show wpAny _ _ (call (Value.ref _) _) _ _ _); (fail_if_success (with_reducible show wpAny _ _ (call (Value.ref 87) _) _ _ _)); (fail_if_success ((with_reducible rename GoIn => hgo9); (with_reducible show wpAny _ _ (call (Value.ref 137) _) _ _ _))); refine Stop.mk ?_) | walk1)))
  refine wpG_callWith_K (K := Mine.hd.heap_1_39 w.params) (by k_is) ?_
  (repeat' (first | (k_unfold; (try dsimp only)) | ((with_reducible show wpAny _ _ (call (Value.ref _) _) _ _ _); (fail_if_success (with_reducible show wpAny _ _ (call (Value.ref 87) _) _ _ _)); (fail_if_success ((with_reducible rename GoIn => hgo9); (with_reducible show wpAny _ _ (call (Value.ref 137) _) _ _ _))); refine Stop.mk ?_) | (k_here; (with_reducible show wpAny _ _ (call (Value.type "list") [Value.bytes _ _]) _ _ _); k_dflt (refine' lb_list ?kbaiN2 ?kbahN2 ?kbaFN2 ?kbaNN2 ?kbanN2 ?_; (case kbaFN2 => k_asm); (case kbaNN2 => k_asm); (case kbahN2 => rfl); (case kbaiN2 => kba_ints); (case kbanN2 => kba_size)); intro D9z us9z c9z h9z tk9z F9z N9z l19z hI9z; (try k_lt l19z); (try k_sweep)) | walk1 | (dsimp only; first | ((with_reducible show wpAny _ _ (call (Value.ref _) _) _ _ _); (fail_if_success (with_reducible show wpAny _ _ (call (Value.ref 87) _) _ _ _)); (fail_if_success ((with_reducible rename GoIn => hgo9); (with_reducible show wpAny _ _ (call (Value.ref 137) _) _ _ _))); refine Stop.mk ?_) | walk1)))
  unfold Stop
  rename Fr g _ _ _ => F9
  rename News g _ _ _ => N9
  refine KBa.make_K F9 N9 rfl (by is_list) hpI hpin (by omega) ?_
  intro h6 t6 k6 F6 N6 I6
  (repeat' (first | (k_unfold; (try dsimp only)) | ((with_reducible show wpAny _ _ (call (Value.ref _) _) _ _ _); (fail_if_success (with_reducible show wpAny _ _ (call (Value.ref 87) _) _ _ _)); (fail_if_success ((with_reducible rename GoIn => hgo9); (with_reducible show wpAny _ _ (call (Value.ref 137) _) _ _ _))); refine Stop.mk ?_) | (k_here; (with_reducible show wpAny _ _ (call (Value.type "list") [Value.bytes _ _]) _ _ _); k_dflt (refine' lb_list ?kbaiN3 ?kbahN3 ?kbaFN3 ?kbaNN3 ?kbanN3 ?_; (case kbaFN3 => k_asm); (case kbaNN3 => k_asm); (case kbahN3 => rfl); (case kbaiN3 => kba_ints); (case kbanN3 => kba_size)); intro D9z us9z c9z h9z tk9z F9z N9z l19z hI9z; (try k_lt l19z); (try k_sweep)) | walk1 | (dsimp only; first | ((with_reducible show wpAny _ _ (call (Value.ref _) _) _ _ _); (fail_if_success (with_reducible show wpAny _ _ (call (Value.ref 87) _) _ _ _)); (fail_if_success ((with_reducible rename GoIn => hgo9); (with_reducible show wpAny _ _ (call (Value.ref 137) _) _ _ _))); refine Stop.mk ?_) | walk1)))
  refine' SpecTG.use0 (specTG_lright hb (KBa.ints_make I6) (by omega) (by omega)) B F6 X N6 T XB TB ktsDicts_nil rfl ?ud ?uu ?_
  case ud => ktr_room
  case uu => ktr_units
  rintro r7 o7 g7 h7 tk7 T7 B7 F7 N7 ⟨rfl, rfl⟩
  have X7 := XB.keeps B7.stays
  have TT7 := TB.keeps B7.stays
  (try simp only [List.cons_append, List.nil_append] at N7)
  clear X T B
  (repeat' (first | (k_unfold; (try dsimp only)) | ((with_reducible show wpAny _ _ (call (Value.ref _) _) _ _ _); (fail_if_success (with_reducible show wpAny _ _ (call (Value.ref 87) _) _ _ _)); (fail_if_success ((with_reducible rename GoIn => hgo9); (with_reducible show wpAny _ _ (call (Value.ref 137) _) _ _ _))); refine Stop.mk ?_) | (k_here; (with_reducible show wpAny _ _ (call (Value.type "list") [Value.bytes _ _]) _ _ _); k_dflt (refine' lb_list ?kbaiN4 ?kbahN4 ?kbaFN4 ?kbaNN4 ?kbanN4 ?_; (case kbaFN4 => k_asm); (case kbaNN4 => k_asm); (case kbahN4 => rfl); (case kbaiN4 => kba_ints); (case kbanN4 => kba_size)); intro D9z us9z c9z h9z tk9z F9z N9z l19z hI9z; (try k_lt l19z); (try k_sweep)) | walk1 | (dsimp only; first | ((with_reducible show wpAny _ _ (call (Value.ref _) _) _ _ _); (fail_if_success (with_reducible show wpAny _ _ (call (Value.ref 87) _) _ _ _)); (fail_if_success ((with_reducible rename GoIn => hgo9); (with_reducible show wpAny _ _ (call (Value.ref 137) _) _ _ _))); refine Stop.mk ?_) | walk1)))
  refine wpG_nil (wpG_consA ?_)
  (repeat' (first | (k_unfold; (try dsimp only)) | ((with_reducible show wpAny _ _ (call (Value.ref _) _) _ _ _); (fail_if_success (with_reducible show wpAny _ _ (call (Value.ref 87) _) _ _ _)); (fail_if_success ((with_reducible rename GoIn => hgo9); (with_reducible show wpAny _ _ (call (Value.ref 137) _) _ _ _))); refine Stop.mk ?_) | (k_here; (with_reducible show wpAny _ _ (call (Value.type "list") [Value.bytes _ _]) _ _ _); k_dflt (refine' lb_list ?kbaiN5 ?kbahN5 ?kbaFN5 ?kbaNN5 ?kbanN5 ?_; (case kbaFN5 => k_asm); (case kbaNN5 => k_asm); (case kbahN5 => rfl); (case kbaiN5 => kba_ints); (case kbanN5 => kba_size)); intro D9z us9z c9z h9z tk9z F9z N9z l19z hI9z; (try k_lt l19z); (try k_sweep)) | walk1 | (dsimp only; first | ((with_reducible show wpAny _ _ (call (Value.ref _) _) _ _ _); (fail_if_success (with_reducible show wpAny _ _ (call (Value.ref 87) _) _ _ _)); (fail_if_success ((with_reducible rename GoIn => hgo9); (with_reducible show wpAny _ _ (call (Value.ref 137) _) _ _ _))); refine Stop.mk ?_) | walk1)))
  rename Fr g7 _ _ _ => F9
  rename News g7 _ _ _ => N9
  have hcut : 0 ≤ (wh.fdiv 4).fmod ((pl.length : Int) + 1) ∧ (wh.fdiv 4).fmod ((pl.length : Int) + 1) ≤ pl.length := by
    rw [fmN1]
    have z1 := Int.emod_nonneg (wh.fdiv 4) (show (pl.length : Int) + 1 ≠ 0 by omega)
    have z2 := Int.emod_lt_of_pos (wh.fdiv 4) (show 0 < (pl.length : Int) + 1 by omega)
    omega
  dsimp only
  exact LawFrom.go (law_13 hb hbl hpI hpin hpl hrI hrin hrl hcut.1 hcut.2) XB TB (TT.trans T7) B7 hQ F9 (by kst_all) N9 (by (((try simp only [List.cons_append, List.nil_append, List.append_assoc]); (repeat' (first | (refine List.forall_mem_cons.mpr (And.intro ?_ ?_)) | (intro p9 hp9; exact absurd hp9 List.not_mem_nil) | (intro p9 hp9; (repeat refine List.mem_cons_of_mem _ ?_); exact hp9) | exact List.mem_cons_self | (refine List.mem_cons_of_mem _ ?_))))))

theorem law_10 {w : World} {mean : ExcName → Option Value} {mg mb : Str → Option Value} {bb : Array UInt8} {tb : Tok} {bl dl rl : List Int} {dd rd : Addr} {dus rus : List Value} {dn rn : Nat} {wh to : Int} {tw tt : Tok}
    (hb : KBw.bInts bb = bl) (hbl : bl.length ≤ 66) (hdI : IntsAre dus dl) (hdin : KBa.In dl) (hdl : dl.length ≤ 80) (hrI : IntsAre rus rl) (hrin : KBa.In rl) (hrl : rl.length ≤ 12) (hw0 : 0 ≤ wh) (hto : to < 1000000000) :
    LawFrom w mean mg mb 10 [(Str.ofString "base", .bytes bb tb), (Str.ofString "body", .ref dd), (Str.ofString "raw", .ref rd), (Str.ofString "whole", .int wh tw), (Str.ofString "told", .int to tt)] [(dd, W.listOf dus.toArray dn), (rd, W.listOf rus.toArray rn)] := by
  unfold LawFrom
  w_top off
  intro s₁ fa cd Q E g h tk m0 XB TB TT B hQ F N
  have X := XB.keeps B.stays
  have T := TB.keeps B.stays
  delta lawEnv lawD dOf
  dsimp only [List.drop]
  have hMk := kstMark
  refine wpG_consA ?_
  (repeat' (first | (k_unfold; (try dsimp only)) | ((with_reducible show wpAny _ _ (call (Value.ref _) _) _ _ _); (fail_if_success (with_reducible show wpAny _ _ (call (Value.ref 87) _) _ _ _)); (fail_if_success ((with_reducible rename GoIn => hgo9); (with_reducible show wpAny _ _ (call (Value.ref 137) _) _ _ _))); refine Stop.mk ?_) | (k_here; (with_reducible show wpAny _ _ (call (Value.type "list") [Value.bytes _ _]) _ _ _); k_dflt (refine' lb_list ?kbaiN1 ?kbahN1 ?kbaFN1 ?kbaNN1 ?kbanN1 ?_; (case kbaFN1 => k_asm); (case kbaNN1 => k_asm); (case kbahN1 => rfl); (case kbaiN1 => kba_ints); (case kbanN1 => kba_size)); intro D9z us9z c9z h9z tk9z F9z N9z l19z hI9z; (try k_lt l19z); (try k_sweep)) | walk1 | (dsimp only; first | ((with_reducible show wpAny _ _ (call (Value.ref _) _) _ _ _); (fail_if_success (with_reducible show wpAny _ _ (call (Value.ref 87) _) _ _ _)); (fail_if_success ((with_reducible rename GoIn => hgo9); (with_reducible show wpAny _ _ (call (Value.ref 137) _) _ _ _))); refine Stop.mk ?_) | walk1)))
  unfold Stop
  rename Fr g _ _ _ => F9
  rename News g _ _ _ => N9
  (try dsimp only)
  have hw11 : 0 ≤ wh.fdiv 11 := Int.fdiv_nonneg hw0 (by decide)
  refine' Spec.use0 (spec_lpsz (n := bl.length) (c := wh.fdiv 11) (by omega) (by omega) hw11) B F9 X N9 T rfl ?ud ?uu ?_ ?_
  case ud => ktr_room
  case uu => ktr_units
  rotate_left 1
  · intro hno
    exact hno.elim
  clear F9 N9
  rintro r8 o8 h8 tk8 F8 N8 A9 ⟨d1, us1, ls1, nn1, rfl, hI1, hin1, hl1, rfl⟩
  (try simp only [List.cons_append, List.nil_append] at N8)
  (repeat' (first | (k_unfold; (try dsimp only)) | ((with_reducible show wpAny _ _ (call (Value.ref _) _) _ _ _); (fail_if_success (with_reducible show wpAny _ _ (call (Value.ref 87) _) _ _ _)); (fail_if_success ((with_reducible rename GoIn => hgo9); (with_reducible show wpAny _ _ (call (Value.ref 137) _) _ _ _))); refine Stop.mk ?_) | (k_here; (with_reducible show wpAny _ _ (call (Value.type "list") [Value.bytes _ _]) _ _ _); k_dflt (refine' lb_list ?kbaiN2 ?kbahN2 ?kbaFN2 ?kbaNN2 ?kbanN2 ?_; (case kbaFN2 => k_asm); (case kbaNN2 => k_asm); (case kbahN2 => rfl); (case kbaiN2 => kba_ints); (case kbanN2 => kba_size)); intro D9z us9z c9z h9z tk9z F9z N9z l19z hI9z; (try k_lt l19z); (try k_sweep)) | walk1 | (dsimp only; first | ((with_reducible show wpAny _ _ (call (Value.ref _) _) _ _ _); (fail_if_success (with_reducible show wpAny _ _ (call (Value.ref 87) _) _ _ _)); (fail_if_success ((with_reducible rename GoIn => hgo9); (with_reducible show wpAny _ _ (call (Value.ref 137) _) _ _ _))); refine Stop.mk ?_) | walk1)))
  unfold Stop
  rename Fr g _ _ _ => F9
  rename News g _ _ _ => N9
  (try dsimp only)
  have hw13 : 0 ≤ wh.fdiv 13 := Int.fdiv_nonneg hw0 (by decide)
  refine' Spec.use0 (spec_lpsz (by split <;> omega) (by split <;> omega) hw13) B F9 X N9 T rfl ?ud ?uu ?_ ?_
  case ud => ktr_room
  case uu => ktr_units
  rotate_left 1
  · intro hno
    exact hno.elim
  rintro r8 o8 h8 tk8 F8 N8 A9 ⟨d2, us2, ls2, nn2, rfl, hI2, hin2, hl2, rfl⟩
  (try simp only [List.cons_append, List.nil_append] at N8)
  (repeat' (first | (k_unfold; (try dsimp only)) | ((with_reducible show wpAny _ _ (call (Value.ref _) _) _ _ _); (fail_if_success (with_reducible show wpAny _ _ (call (Value.ref 87) _) _ _ _)); (fail_if_success ((with_reducible rename GoIn => hgo9); (with_reducible show wpAny _ _ (call (Value.ref 137) _) _ _ _))); refine Stop.mk ?_) | (k_here; (with_reducible show wpAny _ _ (call (Value.type "list") [Value.bytes _ _]) _ _ _); k_dflt (refine' lb_list ?kbaiN3 ?kbahN3 ?kbaFN3 ?kbaNN3 ?kbanN3 ?_; (case kbaFN3 => k_asm); (case kbaNN3 => k_asm); (case kbahN3 => rfl); (case kbaiN3 => kba_ints); (case kbanN3 => kba_size)); intro D9z us9z c9z h9z tk9z F9z N9z l19z hI9z; (try k_lt l19z); (try k_sweep)) | walk1 | (dsimp only; first | ((with_reducible show wpAny _ _ (call (Value.ref _) _) _ _ _); (fail_if_success (with_reducible show wpAny _ _ (call (Value.ref 87) _) _ _ _)); (fail_if_success ((with_reducible rename GoIn => hgo9); (with_reducible show wpAny _ _ (call (Value.ref 137) _) _ _ _))); refine Stop.mk ?_) | walk1)))
  rename Fr g _ _ _ => F7
  rename News g _ _ _ => N7
  rename IntsAre _ (ls1 ++ ls2 ++ dl) => hI9
  dsimp only
  exact LawFrom.go (law_11 hb hbl hI9 (in_app (in_app hin1 hin2) hdin) (by rw [List.length_append, List.length_append]; omega) hrI hrin hrl hw0) XB TB TT B hQ F7 (by kst_all) N7 (by (((try simp only [List.cons_append, List.nil_append, List.append_assoc]); (repeat' (first | (refine List.forall_mem_cons.mpr (And.intro ?_ ?_)) | (intro p9 hp9; exact absurd hp9 List.not_mem_nil) | (intro p9 hp9; (repeat refine List.mem_cons_of_mem _ ?_); exact hp9) | exact List.mem_cons_self | (refine List.mem_cons_of_mem _ ?_))))))

theorem law_9 {w : World} {mean : ExcName → Option Value} {mg mb : Str → Option Value} {bb : Array UInt8} {tb : Tok} {bl dl rl : List Int} {dd rd : Addr} {dus rus : List Value} {dn rn : Nat} {wh : Int} {tw : Tok} {mv : Value}
    (hb : KBw.bInts bb = bl) (hbl : bl.length ≤ 66) (hdI : IntsAre dus dl) (hdin : KBa.In dl) (hdl : dl.length ≤ 80) (hrI : IntsAre rus rl) (hrin : KBa.In rl) (hrl : rl.length ≤ 12) (hw0 : 0 ≤ wh)
    (hm : mv = .none ∨ ∃ c tc, (KBw.bInts c).length ≤ 160000 ∧ mv = .bytes c tc) :
    LawFrom w mean mg mb 9 [(Str.ofString "base", .bytes bb tb), (Str.ofString "body", .ref dd), (Str.ofString "raw", .ref rd), (Str.ofString "whole", .int wh tw), (Str.ofString "made", mv)] [(dd, W.listOf dus.toArray dn), (rd, W.listOf rus.toArray rn)] := by
  unfold LawFrom
  w_top off
  intro s₁ fa cd Q E g h tk m0 XB TB TT B hQ F N
  have X := XB.keeps B.stays
  have T := TB.keeps B.stays
  delta lawEnv lawD dOf
  dsimp only [List.drop]
  have hMk := kstMark
  rcases hm with rfl | ⟨c, tc, hcl, rfl⟩
  · refine wpG_consA ?_
    (repeat' (first | (k_unfold; (try dsimp only)) | ((with_reducible show wpAny _ _ (call (Value.ref _) _) _ _ _); (fail_if_success (with_reducible show wpAny _ _ (call (Value.ref 87) _) _ _ _)); (fail_if_success ((with_reducible rename GoIn => hgo9); (with_reducible show wpAny _ _ (call (Value.ref 137) _) _ _ _))); refine Stop.mk ?_) | (k_here; (with_reducible show wpAny _ _ (call (Value.type "list") [Value.bytes _ _]) _ _ _); k_dflt (refine' lb_list ?kbaiN1 ?kbahN1 ?kbaFN1 ?kbaNN1 ?kbanN1 ?_; (case kbaFN1 => k_asm); (case kbaNN1 => k_asm); (case kbahN1 => rfl); (case kbaiN1 => kba_ints); (case kbanN1 => kba_size)); intro D9z us9z c9z h9z tk9z F9z N9z l19z hI9z; (try k_lt l19z); (try k_sweep)) | walk1 | (dsimp only; first | ((with_reducible show wpAny _ _ (call (Value.ref _) _) _ _ _); (fail_if_success (with_reducible show wpAny _ _ (call (Value.ref 87) _) _ _ _)); (fail_if_success ((with_reducible rename GoIn => hgo9); (with_reducible show wpAny _ _ (call (Value.ref 137) _) _ _ _))); refine Stop.mk ?_) | walk1)))
    rename Fr g _ _ _ => F7
    rename News g _ _ _ => N7
    dsimp only
    exact LawFrom.go (law_10 (to := wh.fmod 90) hb hbl hdI hdin hdl hrI hrin hrl hw0 (by rw [Int.fmod_eq_emod_of_nonneg _ (by decide)]; omega)) XB TB TT B hQ F7 (by kst_all) N7 (by (((try simp only [List.cons_append, List.nil_append, List.append_assoc]); (repeat' (first | (refine List.forall_mem_cons.mpr (And.intro ?_ ?_)) | (intro p9 hp9; exact absurd hp9 List.not_mem_nil) | (intro p9 hp9; (repeat refine List.mem_cons_of_mem _ ?_); exact hp9) | exact List.mem_cons_self | (refine List.mem_cons_of_mem _ ?_))))))
  · obtain ⟨ml, hml⟩ : ∃ ml, KBw.bInts c = ml := ⟨_, rfl⟩
    rw [hml] at hcl
    refine wpG_consA ?_
    (repeat' (first | (k_unfold; (try dsimp only)) | ((with_reducible show wpAny _ _ (call (Value.ref _) _) _ _ _); (fail_if_success (with_reducible show wpAny _ _ (call (Value.ref 87) _) _ _ _)); (fail_if_success ((with_reducible rename GoIn => hgo9); (with_reducible show wpAny _ _ (call (Value.ref 137) _) _ _ _))); refine Stop.mk ?_) | (k_here; (with_reducible show wpAny _ _ (call (Value.type "list") [Value.bytes _ _]) _ _ _); k_dflt (refine' lb_list ?kbaiN2 ?kbahN2 ?kbaFN2 ?kbaNN2 ?kbanN2 ?_; (case kbaFN2 => k_asm); (case kbaNN2 => k_asm); (case kbahN2 => rfl); (case kbaiN2 => kba_ints); (case kbanN2 => kba_size)); intro D9z us9z c9z h9z tk9z F9z N9z l19z hI9z; (try k_lt l19z); (try k_sweep)) | walk1 | (dsimp only; first | ((with_reducible show wpAny _ _ (call (Value.ref _) _) _ _ _); (fail_if_success (with_reducible show wpAny _ _ (call (Value.ref 87) _) _ _ _)); (fail_if_success ((with_reducible rename GoIn => hgo9); (with_reducible show wpAny _ _ (call (Value.ref 137) _) _ _ _))); refine Stop.mk ?_) | walk1)))
    rename Fr g _ _ _ => F7
    rename News g _ _ _ => N7
    dsimp only
    exact LawFrom.go (law_10 (to := ((ml.length : Int) + if ((wh.fdiv 3).fmod 7 == 6) = true then 1 else 0) - if ((wh.fdiv 3).fmod 9 == 8) = true then 1 else 0) hb hbl hdI hdin hdl hrI hrin hrl hw0 (by split <;> split <;> omega)) XB TB TT B hQ F7 (by kst_all) N7 (by (((try simp only [List.cons_append, List.nil_append, List.append_assoc]); (repeat' (first | (refine List.forall_mem_cons.mpr (And.intro ?_ ?_)) | (intro p9 hp9; exact absurd hp9 List.not_mem_nil) | (intro p9 hp9; (repeat refine List.mem_cons_of_mem _ ?_); exact hp9) | exact List.mem_cons_self | (refine List.mem_cons_of_mem _ ?_))))))

theorem law_7 {w : World} {mean : ExcName → Option Value} {mg mb : Str → Option Value} {bb : Array UInt8} {tb : Tok} {bl cl rl : List Int} {cd rd : Addr} {cus rus : List Value} {cn rn : Nat} {wh : Int} {tw : Tok}
    (hb : KBw.bInts bb = bl) (hbl : bl.length ≤ 66) (hcI : IntsAre cus cl) (hcl : cl.length ≤ 20) (hcc : ∀ x ∈ cl, 0 ≤ x ∧ x < 1000000000) (hrI : IntsAre rus rl) (hrin : KBa.In rl) (hrl : rl.length ≤ 12) (hw0 : 0 ≤ wh) :
    LawFrom w mean mg mb 7 [(Str.ofString "base", .bytes bb tb), (Str.ofString "cells", .ref cd), (Str.ofString "raw", .ref rd), (Str.ofString "whole", .int wh tw)] [(cd, W.listOf cus.toArray cn), (rd, W.listOf rus.toArray rn)] := by
  unfold LawFrom
  w_top off
  intro s₁ fa ccd Q E g h tk m0 XB TB TT B hQ F N
  have X := XB.keeps B.stays
  have T := TB.keeps B.stays
  delta lawEnv lawD dOf
  dsimp only [List.drop]
  have hMk := kstMark
  refine wpG_consA ?_
  (repeat' (first | (k_unfold; (try dsimp only)) | ((with_reducible show wpAny _ _ (call (Value.ref _) _) _ _ _); (fail_if_success (with_reducible show wpAny _ _ (call (Value.ref 87) _) _ _ _)); (fail_if_success ((with_reducible rename GoIn => hgo9); (with_reducible show wpAny _ _ (call (Value.ref 137) _) _ _ _))); refine Stop.mk ?_) | (k_here; (with_reducible show wpAny _ _ (call (Value.type "list") [Value.bytes _ _]) _ _ _); k_dflt (refine' lb_list ?kbaiN1 ?kbahN1 ?kbaFN1 ?kbaNN1 ?kbanN1 ?_; (case kbaFN1 => k_asm); (case kbaNN1 => k_asm); (case kbahN1 => rfl); (case kbaiN1 => kba_ints); (case kbanN1 => kba_size)); intro D9z us9z c9z h9z tk9z F9z N9z l19z hI9z; (try k_lt l19z); (try k_sweep)) | walk1 | (dsimp only; first | ((with_reducible show wpAny _ _ (call (Value.ref _) _) _ _ _); (fail_if_success (with_reducible show wpAny _ _ (call (Value.ref 87) _) _ _ _)); (fail_if_success ((with_reducible rename GoIn => hgo9); (with_reducible show wpAny _ _ (call (Value.ref 137) _) _ _ _))); refine Stop.mk ?_) | walk1)))
  unfold Stop
  rename Fr g _ _ _ => F9
  rename News g _ _ _ => N9
  rename @LT.lt Addr _ cd _ ∧ _ => l9
  rename IntsAre _ (List.take _ (List.drop 1 cl)) => hI9
  (try dsimp only)
  refine' Spec.use (spec_lcmds hb hbl hI9 (by rw [List.length_take]; omega) (fun x hx => hcc x (List.mem_of_mem_drop (List.mem_of_mem_take hx)))) B F9 X N9 (.cons .here .nil) ?ua T rfl ?ud ?uu ?_ ?_
  case ud => ktr_room
  case uu => ktr_units
  case ua =>
    intro a9 ha9 b9 hb9
    rw [List.mem_singleton.mp ha9]
    simp only [List.mem_cons, List.not_mem_nil, or_false] at hb9
    rcases hb9 with rfl | rfl
    · exact Nat.ne_of_gt l9.1
    · exact Nat.ne_of_gt l9.2
  rotate_left 1
  · intro hno
    exact hno.elim
  rintro r8 o8 h8 tk8 F8 N8 A8 ⟨d1, us1, ls1, nn1, rfl, hI1, hin1, hl1, rfl⟩
  (try simp only [List.cons_append, List.nil_append] at N8)
  (repeat' (first | (k_unfold; (try dsimp only)) | ((with_reducible show wpAny _ _ (call (Value.ref _) _) _ _ _); (fail_if_success (with_reducible show wpAny _ _ (call (Value.ref 87) _) _ _ _)); (fail_if_success ((with_reducible rename GoIn => hgo9); (with_reducible show wpAny _ _ (call (Value.ref 137) _) _ _ _))); refine Stop.mk ?_) | (k_here; (with_reducible show wpAny _ _ (call (Value.type "list") [Value.bytes _ _]) _ _ _); k_dflt (refine' lb_list ?kbaiN2 ?kbahN2 ?kbaFN2 ?kbaNN2 ?kbanN2 ?_; (case kbaFN2 => k_asm); (case kbaNN2 => k_asm); (case kbahN2 => rfl); (case kbaiN2 => kba_ints); (case kbanN2 => kba_size)); intro D9z us9z c9z h9z tk9z F9z N9z l19z hI9z; (try k_lt l19z); (try k_sweep)) | walk1 | (dsimp only; first | ((with_reducible show wpAny _ _ (call (Value.ref _) _) _ _ _); (fail_if_success (with_reducible show wpAny _ _ (call (Value.ref 87) _) _ _ _)); (fail_if_success ((with_reducible rename GoIn => hgo9); (with_reducible show wpAny _ _ (call (Value.ref 137) _) _ _ _))); refine Stop.mk ?_) | walk1)))
  refine wpG_consA ?_
  (repeat' (first | (k_unfold; (try dsimp only)) | ((with_reducible show wpAny _ _ (call (Value.ref _) _) _ _ _); (fail_if_success (with_reducible show wpAny _ _ (call (Value.ref 87) _) _ _ _)); (fail_if_success ((with_reducible rename GoIn => hgo9); (with_reducible show wpAny _ _ (call (Value.ref 137) _) _ _ _))); refine Stop.mk ?_) | (k_here; (with_reducible show wpAny _ _ (call (Value.type "list") [Value.bytes _ _]) _ _ _); k_dflt (refine' lb_list ?kbaiN3 ?kbahN3 ?kbaFN3 ?kbaNN3 ?kbanN3 ?_; (case kbaFN3 => k_asm); (case kbaNN3 => k_asm); (case kbahN3 => rfl); (case kbaiN3 => kba_ints); (case kbanN3 => kba_size)); intro D9z us9z c9z h9z tk9z F9z N9z l19z hI9z; (try k_lt l19z); (try k_sweep)) | walk1 | (dsimp only; first | ((with_reducible show wpAny _ _ (call (Value.ref _) _) _ _ _); (fail_if_success (with_reducible show wpAny _ _ (call (Value.ref 87) _) _ _ _)); (fail_if_success ((with_reducible rename GoIn => hgo9); (with_reducible show wpAny _ _ (call (Value.ref 137) _) _ _ _))); refine Stop.mk ?_) | walk1)))
  unfold Stop
  rename Fr g _ _ _ => F7
  rename News g _ _ _ => N7
  (try dsimp only)
  have N6 : News g _ _ [(d1, W.listOf us1.toArray nn1), (cd, W.listOf cus.toArray cn), (rd, W.listOf rus.toArray rn)] := fun q hq => N7 q (by
    simp only [List.mem_cons, List.not_mem_nil, or_false] at hq
    rcases hq with rfl | rfl | rfl
    · (repeat' (first | exact List.mem_cons_self | assumption | (refine List.mem_cons_of_mem _ ?_) | (refine List.mem_append_right _ ?_)))
    · (repeat' (first | exact List.mem_cons_self | assumption | (refine List.mem_cons_of_mem _ ?_) | (refine List.mem_append_right _ ?_)))
    · (repeat' (first | exact List.mem_cons_self | assumption | (refine List.mem_cons_of_mem _ ?_) | (refine List.mem_append_right _ ?_))))
  refine' Spec.use (spec_lrunL (p0 := 0) hb hI1 hin1 (by omega) (by omega) (by omega) (by omega)) B F7 X N6 (.cons .here .nil) ?ua T rfl ?ud ?uu ?_ ?_
  case ud => ktr_room
  case uu => ktr_units
  case ua =>
    intro a9 ha9 b9 hb9
    rw [List.mem_singleton.mp ha9]
    exact A8 _ (.head _) b9 hb9
  rotate_left 1
  · intro hno
    exact hno.elim
  rintro r5 o5 h5 tk5 F5 N5 A5 ⟨hmv, rfl⟩
  (try simp only [List.cons_append, List.nil_append] at N5)
  have hmv2 : r5 = .none ∨ ∃ c tc, (KBw.bInts c).length ≤ 160000 ∧ r5 = .bytes c tc := by
    rcases hmv with h | ⟨c, tc, h1, h2⟩
    · exact .inl h
    · exact .inr ⟨c, tc, by omega, h2⟩
  clear F7 N7 N6
  (repeat' (first | (k_unfold; (try dsimp only)) | ((with_reducible show wpAny _ _ (call (Value.ref _) _) _ _ _); (fail_if_success (with_reducible show wpAny _ _ (call (Value.ref 87) _) _ _ _)); (fail_if_success ((with_reducible rename GoIn => hgo9); (with_reducible show wpAny _ _ (call (Value.ref 137) _) _ _ _))); refine Stop.mk ?_) | (k_here; (with_reducible show wpAny _ _ (call (Value.type "list") [Value.bytes _ _]) _ _ _); k_dflt (refine' lb_list ?kbaiN4 ?kbahN4 ?kbaFN4 ?kbaNN4 ?kbanN4 ?_; (case kbaFN4 => k_asm); (case kbaNN4 => k_asm); (case kbahN4 => rfl); (case kbaiN4 => kba_ints); (case kbanN4 => kba_size)); intro D9z us9z c9z h9z tk9z F9z N9z l19z hI9z; (try k_lt l19z); (try k_sweep)) | walk1 | (dsimp only; first | ((with_reducible show wpAny _ _ (call (Value.ref _) _) _ _ _); (fail_if_success (with_reducible show wpAny _ _ (call (Value.ref 87) _) _ _ _)); (fail_if_success ((with_reducible rename GoIn => hgo9); (with_reducible show wpAny _ _ (call (Value.ref 137) _) _ _ _))); refine Stop.mk ?_) | walk1)))
  rename Fr g _ _ _ => F7
  rename News g _ _ _ => N7
  dsimp only
  exact LawFrom.go (law_9 hb hbl hI1 hin1 hl1 hrI hrin hrl hw0 hmv2) XB TB TT B hQ F7 (by kst_all) N7 (by (((try simp only [List.cons_append, List.nil_append, List.append_assoc]); (repeat' (first | (refine List.forall_mem_cons.mpr (And.intro ?_ ?_)) | (intro p9 hp9; exact absurd hp9 List.not_mem_nil) | (intro p9 hp9; (repeat refine List.mem_cons_of_mem _ ?_); exact hp9) | exact List.mem_cons_self | (refine List.mem_cons_of_mem _ ?_))))))

theorem law_6 {w : World} {mean : ExcName → Option Value} {mg mb : Str → Option Value} {bb : Array UInt8} {tb : Tok} {bl cl rl sl : List Int} {cd rd sd : Addr} {cus rus sus : List Value} {cn rn sn : Nat} {wh : Int} {tw : Tok}
    (hb : KBw.bInts bb = bl) (hbl : bl.length ≤ 66) (hcI : IntsAre cus cl) (hcl : cl.length ≤ 20) (hcc : ∀ x ∈ cl, 0 ≤ x ∧ x < 1000000000) (hrI : IntsAre rus rl) (hrin : KBa.In rl) (hrl : rl.length ≤ 12) (hw0 : 0 ≤ wh)
    (hsI : IntsAre sus sl) (hsin : KBa.In sl) (hsl : sl.length ≤ 20) :
    LawFrom w mean mg mb 6 [(Str.ofString "base", .bytes bb tb), (Str.ofString "cells", .ref cd), (Str.ofString "raw", .ref rd), (Str.ofString "whole", .int wh tw), (Str.ofString "sizes", .ref sd)]
      [(cd, W.listOf cus.toArray cn), (rd, W.listOf rus.toArray rn), (sd, W.listOf sus.toArray sn)] := by
  unfold LawFrom
  w_top off
  intro s₁ fa ccd Q E g h tk m0 XB TB TT B hQ F N
  have X := XB.keeps B.stays
  have T := TB.keeps B.stays
  delta lawEnv lawD dOf
  dsimp only [List.drop]
  have hMk := kstMark
  refine wpG_cons (wpG_If (wpG_isTrue_BoolOp (wpG_anyCons (wpG_isTrue_Not (wpG_isTrue_Call (wpG_Call_Name ?_))))))
  (repeat' (first | (k_unfold; (try dsimp only)) | ((with_reducible show wpAny _ _ (call (Value.ref _) _) _ _ _); (fail_if_success (with_reducible show wpAny _ _ (call (Value.ref 87) _) _ _ _)); (fail_if_success ((with_reducible rename GoIn => hgo9); (with_reducible show wpAny _ _ (call (Value.ref 137) _) _ _ _))); refine Stop.mk ?_) | (k_here; (with_reducible show wpAny _ _ (call (Value.type "list") [Value.bytes _ _]) _ _ _); k_dflt (refine' lb_list ?kbaiN1 ?kbahN1 ?kbaFN1 ?kbaNN1 ?kbanN1 ?_; (case kbaFN1 => k_asm); (case kbaNN1 => k_asm); (case kbahN1 => rfl); (case kbaiN1 => kba_ints); (case kbanN1 => kba_size)); intro D9z us9z c9z h9z tk9z F9z N9z l19z hI9z; (try k_lt l19z); (try k_sweep)) | walk1 | (dsimp only; first | ((with_reducible show wpAny _ _ (call (Value.ref _) _) _ _ _); (fail_if_success (with_reducible show wpAny _ _ (call (Value.ref 87) _) _ _ _)); (fail_if_success ((with_reducible rename GoIn => hgo9); (with_reducible show wpAny _ _ (call (Value.ref 137) _) _ _ _))); refine Stop.mk ?_) | walk1)))
  refine wpG_callWith_K (K := Mine.hd.heap_1_39 w.params) (by k_is) ?_
  (repeat' (first | (k_unfold; (try dsimp only)) | ((with_reducible show wpAny _ _ (call (Value.ref _) _) _ _ _); (fail_if_success (with_reducible show wpAny _ _ (call (Value.ref 87) _) _ _ _)); (fail_if_success ((with_reducible rename GoIn => hgo9); (with_reducible show wpAny _ _ (call (Value.ref 137) _) _ _ _))); refine Stop.mk ?_) | (k_here; (with_reducible show wpAny _ _ (call (Value.type "list") [Value.bytes _ _]) _ _ _); k_dflt (refine' lb_list ?kbaiN2 ?kbahN2 ?kbaFN2 ?kbaNN2 ?kbanN2 ?_; (case kbaFN2 => k_asm); (case kbaNN2 => k_asm); (case kbahN2 => rfl); (case kbaiN2 => kba_ints); (case kbanN2 => kba_size)); intro D9z us9z c9z h9z tk9z F9z N9z l19z hI9z; (try k_lt l19z); (try k_sweep)) | walk1 | (dsimp only; first | ((with_reducible show wpAny _ _ (call (Value.ref _) _) _ _ _); (fail_if_success (with_reducible show wpAny _ _ (call (Value.ref 87) _) _ _ _)); (fail_if_success ((with_reducible rename GoIn => hgo9); (with_reducible show wpAny _ _ (call (Value.ref 137) _) _ _ _))); refine Stop.mk ?_) | walk1)))
  unfold Stop
  rename Fr g _ _ _ => F9
  rename News g _ _ _ => N9
  rename IntsAre _ (sl ++ rl) => hI9
  refine KBa.make_K F9 N9 rfl (by is_list) hI9 (in_app hsin hrin) (by rw [List.length_append]; omega) ?_
  intro h6 t6 k6 F6 N6 I6
  (repeat' (first | (k_unfold; (try dsimp only)) | ((with_reducible show wpAny _ _ (call (Value.ref _) _) _ _ _); (fail_if_success (with_reducible show wpAny _ _ (call (Value.ref 87) _) _ _ _)); (fail_if_success ((with_reducible rename GoIn => hgo9); (with_reducible show wpAny _ _ (call (Value.ref 137) _) _ _ _))); refine Stop.mk ?_) | (k_here; (with_reducible show wpAny _ _ (call (Value.type "list") [Value.bytes _ _]) _ _ _); k_dflt (refine' lb_list ?kbaiN3 ?kbahN3 ?kbaFN3 ?kbaNN3 ?kbanN3 ?_; (case kbaFN3 => k_asm); (case kbaNN3 => k_asm); (case kbahN3 => rfl); (case kbaiN3 => kba_ints); (case kbanN3 => kba_size)); intro D9z us9z c9z h9z tk9z F9z N9z l19z hI9z; (try k_lt l19z); (try k_sweep)) | walk1 | (dsimp only; first | ((with_reducible show wpAny _ _ (call (Value.ref _) _) _ _ _); (fail_if_success (with_reducible show wpAny _ _ (call (Value.ref 87) _) _ _ _)); (fail_if_success ((with_reducible rename GoIn => hgo9); (with_reducible show wpAny _ _ (call (Value.ref 137) _) _ _ _))); refine Stop.mk ?_) | walk1)))
  refine' SpecTG.use0 (specTG_lright hb (KBa.ints_make I6) (by omega) (by rw [List.length_append]; omega)) B F6 X N6 T XB TB ktsDicts_nil rfl ?ud ?uu ?_
  case ud => ktr_room
  case uu => ktr_units
  rintro r7 o7 g7 h7 tk7 T7 B7 F7 N7 ⟨rfl, rfl⟩
  have X7 := XB.keeps B7.stays
  have TT7 := TB.keeps B7.stays
  (try simp only [List.cons_append, List.nil_append] at N7)
  clear X T B
  (repeat' (first | (k_unfold; (try dsimp only)) | ((with_reducible show wpAny _ _ (call (Value.ref _) _) _ _ _); (fail_if_success (with_reducible show wpAny _ _ (call (Value.ref 87) _) _ _ _)); (fail_if_success ((with_reducible rename GoIn => hgo9); (with_reducible show wpAny _ _ (call (Value.ref 137) _) _ _ _))); refine Stop.mk ?_) | (k_here; (with_reducible show wpAny _ _ (call (Value.type "list") [Value.bytes _ _]) _ _ _); k_dflt (refine' lb_list ?kbaiN4 ?kbahN4 ?kbaFN4 ?kbaNN4 ?kbanN4 ?_; (case kbaFN4 => k_asm); (case kbaNN4 => k_asm); (case kbahN4 => rfl); (case kbaiN4 => kba_ints); (case kbanN4 => kba_size)); intro D9z us9z c9z h9z tk9z F9z N9z l19z hI9z; (try k_lt l19z); (try k_sweep)) | walk1 | (dsimp only; first | ((with_reducible show wpAny _ _ (call (Value.ref _) _) _ _ _); (fail_if_success (with_reducible show wpAny _ _ (call (Value.ref 87) _) _ _ _)); (fail_if_success ((with_reducible rename GoIn => hgo9); (with_reducible show wpAny _ _ (call (Value.ref 137) _) _ _ _))); refine Stop.mk ?_) | walk1)))
  refine wpG_anyCons (wpG_isTrue_Not (wpG_isTrue_Call (wpG_Call_Name ?_)))
  (repeat' (first | (k_unfold; (try dsimp only)) | ((with_reducible show wpAny _ _ (call (Value.ref _) _) _ _ _); (fail_if_success (with_reducible show wpAny _ _ (call (Value.ref 87) _) _ _ _)); (fail_if_success ((with_reducible rename GoIn => hgo9); (with_reducible show wpAny _ _ (call (Value.ref 137) _) _ _ _))); refine Stop.mk ?_) | (k_here; (with_reducible show wpAny _ _ (call (Value.type "list") [Value.bytes _ _]) _ _ _); k_dflt (refine' lb_list ?kbaiN5 ?kbahN5 ?kbaFN5 ?kbaNN5 ?kbanN5 ?_; (case kbaFN5 => k_asm); (case kbaNN5 => k_asm); (case kbahN5 => rfl); (case kbaiN5 => kba_ints); (case kbanN5 => kba_size)); intro D9z us9z c9z h9z tk9z F9z N9z l19z hI9z; (try k_lt l19z); (try k_sweep)) | walk1 | (dsimp only; first | ((with_reducible show wpAny _ _ (call (Value.ref _) _) _ _ _); (fail_if_success (with_reducible show wpAny _ _ (call (Value.ref 87) _) _ _ _)); (fail_if_success ((with_reducible rename GoIn => hgo9); (with_reducible show wpAny _ _ (call (Value.ref 137) _) _ _ _))); refine Stop.mk ?_) | walk1)))
  refine wpG_callWith_K (K := Mine.hd.heap_1_39 w.params) (by k_is) ?_
  (repeat' (first | (k_unfold; (try dsimp only)) | ((with_reducible show wpAny _ _ (call (Value.ref _) _) _ _ _); (fail_if_success (with_reducible show wpAny _ _ (call (Value.ref 87) _) _ _ _)); (fail_if_success ((with_reducible rename GoIn => hgo9); (with_reducible show wpAny _ _ (call (Value.ref 137) _) _ _ _))); refine Stop.mk ?_) | (k_here; (with_reducible show wpAny _ _ (call (Value.type "list") [Value.bytes _ _]) _ _ _); k_dflt (refine' lb_list ?kbaiN6 ?kbahN6 ?kbaFN6 ?kbaNN6 ?kbanN6 ?_; (case kbaFN6 => k_asm); (case kbaNN6 => k_asm); (case kbahN6 => rfl); (case kbaiN6 => kba_ints); (case kbanN6 => kba_size)); intro D9z us9z c9z h9z tk9z F9z N9z l19z hI9z; (try k_lt l19z); (try k_sweep)) | walk1 | (dsimp only; first | ((with_reducible show wpAny _ _ (call (Value.ref _) _) _ _ _); (fail_if_success (with_reducible show wpAny _ _ (call (Value.ref 87) _) _ _ _)); (fail_if_success ((with_reducible rename GoIn => hgo9); (with_reducible show wpAny _ _ (call (Value.ref 137) _) _ _ _))); refine Stop.mk ?_) | walk1)))
  unfold Stop
  rename Fr g7 _ _ _ => F5
  rename News g7 _ _ _ => N5
  refine KBa.make_K F5 N5 rfl (by is_list) hrI hrin (by omega) ?_
  intro h6 t6 k6 F6 N6 I6
  (repeat' (first | (k_unfold; (try dsimp only)) | ((with_reducible show wpAny _ _ (call (Value.ref _) _) _ _ _); (fail_if_success (with_reducible show wpAny _ _ (call (Value.ref 87) _) _ _ _)); (fail_if_success ((with_reducible rename GoIn => hgo9); (with_reducible show wpAny _ _ (call (Value.ref 137) _) _ _ _))); refine Stop.mk ?_) | (k_here; (with_reducible show wpAny _ _ (call (Value.type "list") [Value.bytes _ _]) _ _ _); k_dflt (refine' lb_list ?kbaiN7 ?kbahN7 ?kbaFN7 ?kbaNN7 ?kbanN7 ?_; (case kbaFN7 => k_asm); (case kbaNN7 => k_asm); (case kbahN7 => rfl); (case kbaiN7 => kba_ints); (case kbanN7 => kba_size)); intro D9z us9z c9z h9z tk9z F9z N9z l19z hI9z; (try k_lt l19z); (try k_sweep)) | walk1 | (dsimp only; first | ((with_reducible show wpAny _ _ (call (Value.ref _) _) _ _ _); (fail_if_success (with_reducible show wpAny _ _ (call (Value.ref 87) _) _ _ _)); (fail_if_success ((with_reducible rename GoIn => hgo9); (with_reducible show wpAny _ _ (call (Value.ref 137) _) _ _ _))); refine Stop.mk ?_) | walk1)))
  refine' SpecTG.use0 (specTG_lright hb (KBa.ints_make I6) (by omega) (by omega)) B7 F6 X7 N6 TT7 XB TB ktsDicts_nil rfl ?ud ?uu ?_
  case ud => ktr_room
  case uu => ktr_units
  rintro r8 o8 g8 h8 tk8 T8 B8 F8 N8 ⟨rfl, rfl⟩
  (try simp only [List.cons_append, List.nil_append] at N8)
  (repeat' (first | (k_unfold; (try dsimp only)) | ((with_reducible show wpAny _ _ (call (Value.ref _) _) _ _ _); (fail_if_success (with_reducible show wpAny _ _ (call (Value.ref 87) _) _ _ _)); (fail_if_success ((with_reducible rename GoIn => hgo9); (with_reducible show wpAny _ _ (call (Value.ref 137) _) _ _ _))); refine Stop.mk ?_) | (k_here; (with_reducible show wpAny _ _ (call (Value.type "list") [Value.bytes _ _]) _ _ _); k_dflt (refine' lb_list ?kbaiN8 ?kbahN8 ?kbaFN8 ?kbaNN8 ?kbanN8 ?_; (case kbaFN8 => k_asm); (case kbaNN8 => k_asm); (case kbahN8 => rfl); (case kbaiN8 => kba_ints); (case kbanN8 => kba_size)); intro D9z us9z c9z h9z tk9z F9z N9z l19z hI9z; (try k_lt l19z); (try k_sweep)) | walk1 | (dsimp only; first | ((with_reducible show wpAny _ _ (call (Value.ref _) _) _ _ _); (fail_if_success (with_reducible show wpAny _ _ (call (Value.ref 87) _) _ _ _)); (fail_if_success ((with_reducible rename GoIn => hgo9); (with_reducible show wpAny _ _ (call (Value.ref 137) _) _ _ _))); refine Stop.mk ?_) | walk1)))
  refine wpG_anyNil ?_
  dsimp only
  (repeat' (first | (k_unfold; (try dsimp only)) | ((with_reducible show wpAny _ _ (call (Value.ref _) _) _ _ _); (fail_if_success (with_reducible show wpAny _ _ (call (Value.ref 87) _) _ _ _)); (fail_if_success ((with_reducible rename GoIn => hgo9); (with_reducible show wpAny _ _ (call (Value.ref 137) _) _ _ _))); refine Stop.mk ?_) | (k_here; (with_reducible show wpAny _ _ (call (Value.type "list") [Value.bytes _ _]) _ _ _); k_dflt (refine' lb_list ?kbaiN9 ?kbahN9 ?kbaFN9 ?kbaNN9 ?kbanN9 ?_; (case kbaFN9 => k_asm); (case kbaNN9 => k_asm); (case kbahN9 => rfl); (case kbaiN9 => kba_ints); (case kbanN9 => kba_size)); intro D9z us9z c9z h9z tk9z F9z N9z l19z hI9z; (try k_lt l19z); (try k_sweep)) | walk1 | (dsimp only; first | ((with_reducible show wpAny _ _ (call (Value.ref _) _) _ _ _); (fail_if_success (with_reducible show wpAny _ _ (call (Value.ref 87) _) _ _ _)); (fail_if_success ((with_reducible rename GoIn => hgo9); (with_reducible show wpAny _ _ (call (Value.ref 137) _) _ _ _))); refine Stop.mk ?_) | walk1)))
  refine wpG_nil ?_
  dsimp only
  exact LawFrom.go (law_7 hb hbl hcI hcl hcc hrI hrin hrl hw0) XB TB ((TT.trans T7).trans T8) B8 hQ F8 (by kst_all) N8 (by (((try simp only [List.cons_append, List.nil_append, List.append_assoc]); (repeat' (first | (refine List.forall_mem_cons.mpr (And.intro ?_ ?_)) | (intro p9 hp9; exact absurd hp9 List.not_mem_nil) | (intro p9 hp9; (repeat refine List.mem_cons_of_mem _ ?_); exact hp9) | exact List.mem_cons_self | (refine List.mem_cons_of_mem _ ?_))))))

theorem law_5 {w : World} {mean : ExcName → Option Value} {mg mb : Str → Option Value} {bb : Array UInt8} {tb : Tok} {bl cl rl : List Int} {cd rd : Addr} {cus rus : List Value} {cn rn : Nat} {wh : Int} {tw : Tok} {mv : Value}
    (hb : KBw.bInts bb = bl) (hbl : bl.length ≤ 66) (hcI : IntsAre cus cl) (hcl : cl.length ≤ 20) (hcc : ∀ x ∈ cl, 0 ≤ x ∧ x < 1000000000) (hrI : IntsAre rus rl) (hrin : KBa.In rl) (hrl : rl.length ≤ 12) (hw0 : 0 ≤ wh)
    (hm : mv = .none ∨ ∃ c tc, (KBw.bInts c).length ≤ 160000 ∧ mv = .bytes c tc) :
    LawFrom w mean mg mb 5 [(Str.ofString "base", .bytes bb tb), (Str.ofString "cells", .ref cd), (Str.ofString "raw", .ref rd), (Str.ofString "whole", .int wh tw), (Str.ofString "made", mv)]
      [(cd, W.listOf cus.toArray cn), (rd, W.listOf rus.toArray rn)] := by
  unfold LawFrom
  w_top off
  intro s₁ fa ccd Q E g h tk m0 XB TB TT B hQ F N
  have X := XB.keeps B.stays
  have T := TB.keeps B.stays
  delta lawEnv lawD dOf
  dsimp only [List.drop]
  have hMk := kstMark
  have hw7 : 0 ≤ wh.fdiv 7 := Int.fdiv_nonneg hw0 (by decide)
  refine wpG_consA ?_
  (repeat' (first | (k_unfold; (try dsimp only)) | ((with_reducible show wpAny _ _ (call (Value.ref _) _) _ _ _); (fail_if_success (with_reducible show wpAny _ _ (call (Value.ref 87) _) _ _ _)); (fail_if_success ((with_reducible rename GoIn => hgo9); (with_reducible show wpAny _ _ (call (Value.ref 137) _) _ _ _))); refine Stop.mk ?_) | (k_here; (with_reducible show wpAny _ _ (call (Value.type "list") [Value.bytes _ _]) _ _ _); k_dflt (refine' lb_list ?kbaiN1 ?kbahN1 ?kbaFN1 ?kbaNN1 ?kbanN1 ?_; (case kbaFN1 => k_asm); (case kbaNN1 => k_asm); (case kbahN1 => rfl); (case kbaiN1 => kba_ints); (case kbanN1 => kba_size)); intro D9z us9z c9z h9z tk9z F9z N9z l19z hI9z; (try k_lt l19z); (try k_sweep)) | walk1 | (dsimp only; first | ((with_reducible show wpAny _ _ (call (Value.ref _) _) _ _ _); (fail_if_success (with_reducible show wpAny _ _ (call (Value.ref 87) _) _ _ _)); (fail_if_success ((with_reducible rename GoIn => hgo9); (with_reducible show wpAny _ _ (call (Value.ref 137) _) _ _ _))); refine Stop.mk ?_) | walk1)))
  unfold Stop
  rename Fr g _ _ _ => F9
  rename News g _ _ _ => N9
  (try dsimp only)
  refine' Spec.use0 (spec_lpsz (c := wh) (by split <;> omega) (by split <;> omega) hw0) B F9 X N9 T rfl ?ud ?uu ?_ ?_
  case ud => ktr_room
  case uu => ktr_units
  rotate_left 1
  · intro hno
    exact hno.elim
  clear F9 N9
  rintro r8 o8 h8 tk8 F8 N8 A8 ⟨d1, us1, ls1, nn1, rfl, hI1, hin1, hl1, rfl⟩
  (try simp only [List.cons_append, List.nil_append] at N8)
  rcases hm with rfl | ⟨c, tc, hml, rfl⟩
  · (repeat' (first | (k_unfold; (try dsimp only)) | ((with_reducible show wpAny _ _ (call (Value.ref _) _) _ _ _); (fail_if_success (with_reducible show wpAny _ _ (call (Value.ref 87) _) _ _ _)); (fail_if_success ((with_reducible rename GoIn => hgo9); (with_reducible show wpAny _ _ (call (Value.ref 137) _) _ _ _))); refine Stop.mk ?_) | (k_here; (with_reducible show wpAny _ _ (call (Value.type "list") [Value.bytes _ _]) _ _ _); k_dflt (refine' lb_list ?kbaiN2 ?kbahN2 ?kbaFN2 ?kbaNN2 ?kbanN2 ?_; (case kbaFN2 => k_asm); (case kbaNN2 => k_asm); (case kbahN2 => rfl); (case kbaiN2 => kba_ints); (case kbanN2 => kba_size)); intro D9z us9z c9z h9z tk9z F9z N9z l19z hI9z; (try k_lt l19z); (try k_sweep)) | walk1 | (dsimp only; first | ((with_reducible show wpAny _ _ (call (Value.ref _) _) _ _ _); (fail_if_success (with_reducible show wpAny _ _ (call (Value.ref 87) _) _ _ _)); (fail_if_success ((with_reducible rename GoIn => hgo9); (with_reducible show wpAny _ _ (call (Value.ref 137) _) _ _ _))); refine Stop.mk ?_) | walk1)))
    unfold Stop
    rename Fr g _ _ _ => F9
    rename News g _ _ _ => N9
    (try dsimp only)
    refine' Spec.use0 (spec_lpsz (by decide) (by decide) hw7) B F9 X N9 T rfl ?ud ?uu ?_ ?_
    case ud => ktr_room
    case uu => ktr_units
    rotate_left 1
    · intro hno
      exact hno.elim
    rintro r8 o8 h8 tk8 F8 N8 A8 ⟨d2, us2, ls2, nn2, rfl, hI2, hin2, hl2, rfl⟩
    (try simp only [List.cons_append, List.nil_append] at N8)
    (repeat' (first | (k_unfold; (try dsimp only)) | ((with_reducible show wpAny _ _ (call (Value.ref _) _) _ _ _); (fail_if_success (with_reducible show wpAny _ _ (call (Value.ref 87) _) _ _ _)); (fail_if_success ((with_reducible rename GoIn => hgo9); (with_reducible show wpAny _ _ (call (Value.ref 137) _) _ _ _))); refine Stop.mk ?_) | (k_here; (with_reducible show wpAny _ _ (call (Value.type "list") [Value.bytes _ _]) _ _ _); k_dflt (refine' lb_list ?kbaiN3 ?kbahN3 ?kbaFN3 ?kbaNN3 ?kbanN3 ?_; (case kbaFN3 => k_asm); (case kbaNN3 => k_asm); (case kbahN3 => rfl); (case kbaiN3 => kba_ints); (case kbanN3 => kba_size)); intro D9z us9z c9z h9z tk9z F9z N9z l19z hI9z; (try k_lt l19z); (try k_sweep)) | walk1 | (dsimp only; first | ((with_reducible show wpAny _ _ (call (Value.ref _) _) _ _ _); (fail_if_success (with_reducible show wpAny _ _ (call (Value.ref 87) _) _ _ _)); (fail_if_success ((with_reducible rename GoIn => hgo9); (with_reducible show wpAny _ _ (call (Value.ref 137) _) _ _ _))); refine Stop.mk ?_) | walk1)))
    rename Fr g _ _ _ => F7
    rename News g _ _ _ => N7
    rename IntsAre _ (ls1 ++ ls2) => hI9
    dsimp only
    exact LawFrom.go (law_6 hb hbl hcI hcl hcc hrI hrin hrl hw0 hI9 (in_app hin1 hin2) (by rw [List.length_append]; omega)) XB TB TT B hQ F7 (by kst_all) N7 (by (((try simp only [List.cons_append, List.nil_append, List.append_assoc]); (repeat' (first | (refine List.forall_mem_cons.mpr (And.intro ?_ ?_)) | (intro p9 hp9; exact absurd hp9 List.not_mem_nil) | (intro p9 hp9; (repeat refine List.mem_cons_of_mem _ ?_); exact hp9) | exact List.mem_cons_self | (refine List.mem_cons_of_mem _ ?_))))))
  · obtain ⟨ml, hml2⟩ : ∃ ml, KBw.bInts c = ml := ⟨_, rfl⟩
    rw [hml2] at hml
    (repeat' (first | (k_unfold; (try dsimp only)) | ((with_reducible show wpAny _ _ (call (Value.ref _) _) _ _ _); (fail_if_success (with_reducible show wpAny _ _ (call (Value.ref 87) _) _ _ _)); (fail_if_success ((with_reducible rename GoIn => hgo9); (with_reducible show wpAny _ _ (call (Value.ref 137) _) _ _ _))); refine Stop.mk ?_) | (k_here; (with_reducible show wpAny _ _ (call (Value.type "list") [Value.bytes _ _]) _ _ _); k_dflt (refine' lb_list ?kbaiN4 ?kbahN4 ?kbaFN4 ?kbaNN4 ?kbanN4 ?_; (case kbaFN4 => k_asm); (case kbaNN4 => k_asm); (case kbahN4 => rfl); (case kbaiN4 => kba_ints); (case kbanN4 => kba_size)); intro D9z us9z c9z h9z tk9z F9z N9z l19z hI9z; (try k_lt l19z); (try k_sweep)) | walk1 | (dsimp only; first | ((with_reducible show wpAny _ _ (call (Value.ref _) _) _ _ _); (fail_if_success (with_reducible show wpAny _ _ (call (Value.ref 87) _) _ _ _)); (fail_if_success ((with_reducible rename GoIn => hgo9); (with_reducible show wpAny _ _ (call (Value.ref 137) _) _ _ _))); refine Stop.mk ?_) | walk1)))
    unfold Stop
    rename Fr g _ _ _ => F9
    rename News g _ _ _ => N9
    (try dsimp only)
    refine' Spec.use0 (spec_lpsz (by omega) (by omega) hw7) B F9 X N9 T rfl ?ud ?uu ?_ ?_
    case ud => ktr_room
    case uu => ktr_units
    rotate_left 1
    · intro hno
      exact hno.elim
    rintro r8 o8 h8 tk8 F8 N8 A8 ⟨d2, us2, ls2, nn2, rfl, hI2, hin2, hl2, rfl⟩
    (try simp only [List.cons_append, List.nil_append] at N8)
    (repeat' (first | (k_unfold; (try dsimp only)) | ((with_reducible show wpAny _ _ (call (Value.ref _) _) _ _ _); (fail_if_success (with_reducible show wpAny _ _ (call (Value.ref 87) _) _ _ _)); (fail_if_success ((with_reducible rename GoIn => hgo9); (with_reducible show wpAny _ _ (call (Value.ref 137) _) _ _ _))); refine Stop.mk ?_) | (k_here; (with_reducible show wpAny _ _ (call (Value.type "list") [Value.bytes _ _]) _ _ _); k_dflt (refine' lb_list ?kbaiN5 ?kbahN5 ?kbaFN5 ?kbaNN5 ?kbanN5 ?_; (case kbaFN5 => k_asm); (case kbaNN5 => k_asm); (case kbahN5 => rfl); (case kbaiN5 => kba_ints); (case kbanN5 => kba_size)); intro D9z us9z c9z h9z tk9z F9z N9z l19z hI9z; (try k_lt l19z); (try k_sweep)) | walk1 | (dsimp only; first | ((with_reducible show wpAny _ _ (call (Value.ref _) _) _ _ _); (fail_if_success (with_reducible show wpAny _ _ (call (Value.ref 87) _) _ _ _)); (fail_if_success ((with_reducible rename GoIn => hgo9); (with_reducible show wpAny _ _ (call (Value.ref 137) _) _ _ _))); refine Stop.mk ?_) | walk1)))
    rename Fr g _ _ _ => F7
    rename News g _ _ _ => N7
    rename IntsAre _ (ls1 ++ ls2) => hI9
    dsimp only
    exact LawFrom.go (law_6 hb hbl hcI hcl hcc hrI hrin hrl hw0 hI9 (in_app hin1 hin2) (by rw [List.length_append]; omega)) XB TB TT B hQ F7 (by kst_all) N7 (by (((try simp only [List.cons_append, List.nil_append, List.append_assoc]); (repeat' (first | (refine List.forall_mem_cons.mpr (And.intro ?_ ?_)) | (intro p9 hp9; exact absurd hp9 List.not_mem_nil) | (intro p9 hp9; (repeat refine List.mem_cons_of_mem _ ?_); exact hp9) | exact List.mem_cons_self | (refine List.mem_cons_of_mem _ ?_))))))

theorem raw_in (l : List Int) : KBa.In (List.map (fun k' : Int => k'.fmod 256) l) := by
  intro x hx
  obtain ⟨k, _, rfl⟩ := List.mem_map.mp hx
  rw [fm256]
  omega
theorem law_3 {w : World} {mean : ExcName → Option Value} {mg mb : Str → Option Value} {bb : Array UInt8} {tb : Tok} {bl cl : List Int} {cd : Addr} {cus : List Value} {cn : Nat} {wh : Int} {tw : Tok}
    (hb : KBw.bInts bb = bl) (hbl : bl.length ≤ 66) (hcI : IntsAre cus cl) (hcl : cl.length ≤ 20) (hcc : ∀ x ∈ cl, 0 ≤ x ∧ x < 1000000000) (hw0 : 0 ≤ wh) :
    LawFrom w mean mg mb 3 [(Str.ofString "base", .bytes bb tb), (Str.ofString "cells", .ref cd), (Str.ofString "whole", .int wh tw)] [(cd, W.listOf cus.toArray cn)] := by
  unfold LawFrom
  w_top off
  intro s₁ fa ccd Q E g h tk m0 XB TB TT B hQ F N
  have X := XB.keeps B.stays
  have T := TB.keeps B.stays
  delta lawEnv lawD dOf
  dsimp only [List.drop]
  have hMk := kstMark
  refine wpG_consA ?_
  (repeat' (first | (k_unfold; (try dsimp only)) | ((with_reducible show wpAny _ _ (call (Value.ref _) _) _ _ _); (fail_if_success (with_reducible show wpAny _ _ (call (Value.ref 87) _) _ _ _)); (fail_if_success ((with_reducible rename GoIn => hgo9); (with_reducible show wpAny _ _ (call (Value.ref 137) _) _ _ _))); refine Stop.mk ?_) | (k_here; (with_reducible show wpAny _ _ (call (Value.type "list") [Value.bytes _ _]) _ _ _); k_dflt (refine' lb_list ?kbaiN1 ?kbahN1 ?kbaFN1 ?kbaNN1 ?kbanN1 ?_; (case kbaFN1 => k_asm); (case kbaNN1 => k_asm); (case kbahN1 => rfl); (case kbaiN1 => kba_ints); (case kbanN1 => kba_size)); intro D9z us9z c9z h9z tk9z F9z N9z l19z hI9z; (try k_lt l19z); (try k_sweep)) | walk1 | (dsimp only; first | ((with_reducible show wpAny _ _ (call (Value.ref _) _) _ _ _); (fail_if_success (with_reducible show wpAny _ _ (call (Value.ref 87) _) _ _ _)); (fail_if_success ((with_reducible rename GoIn => hgo9); (with_reducible show wpAny _ _ (call (Value.ref 137) _) _ _ _))); refine Stop.mk ?_) | walk1)))
  rename IntsAre _ (List.map _ _) => hI1
  rename _ ≠ _ ∧ @Ne Addr cd _ => hne
  obtain ⟨rl, hrl0, hrl, hrin, hrI⟩ : ∃ rl : List Int, rl = _ ∧ rl.length ≤ 12 ∧ KBa.In rl ∧ IntsAre _ rl := ⟨_, rfl, by rw [List.length_map, List.length_take]; omega, raw_in _, hI1⟩
  clear hI1
  refine wpG_consA ?_
  (repeat' (first | (k_unfold; (try dsimp only)) | ((with_reducible show wpAny _ _ (call (Value.ref _) _) _ _ _); (fail_if_success (with_reducible show wpAny _ _ (call (Value.ref 87) _) _ _ _)); (fail_if_success ((with_reducible rename GoIn => hgo9); (with_reducible show wpAny _ _ (call (Value.ref 137) _) _ _ _))); refine Stop.mk ?_) | (k_here; (with_reducible show wpAny _ _ (call (Value.type "list") [Value.bytes _ _]) _ _ _); k_dflt (refine' lb_list ?kbaiN2 ?kbahN2 ?kbaFN2 ?kbaNN2 ?kbanN2 ?_; (case kbaFN2 => k_asm); (case kbaNN2 => k_asm); (case kbahN2 => rfl); (case kbaiN2 => kba_ints); (case kbanN2 => kba_size)); intro D9z us9z c9z h9z tk9z F9z N9z l19z hI9z; (try k_lt l19z); (try k_sweep)) | walk1 | (dsimp only; first | ((with_reducible show wpAny _ _ (call (Value.ref _) _) _ _ _); (fail_if_success (with_reducible show wpAny _ _ (call (Value.ref 87) _) _ _ _)); (fail_if_success ((with_reducible rename GoIn => hgo9); (with_reducible show wpAny _ _ (call (Value.ref 137) _) _ _ _))); refine Stop.mk ?_) | walk1)))
  unfold Stop
  rename Fr g _ _ _ => F7
  rename News g _ _ _ => N7
  (try dsimp only)
  refine' Spec.use (spec_lrunL (p0 := 0) hb hrI hrin (by omega) (by omega) (by omega) (by omega)) B F7 X N7 (.cons .here .nil) ?ua T rfl ?ud ?uu ?_ ?_
  case ud => ktr_room
  case uu => ktr_units
  case ua =>
    intro a9 ha9 b9 hb9
    rw [List.mem_singleton.mp ha9]
    simp only [List.mem_cons, List.not_mem_nil, or_false] at hb9
    rcases hb9 with rfl | rfl
    · exact hne.1.symm
    · exact hne.2.symm
  rotate_left 1
  · intro hno
    exact hno.elim
  rintro r5 o5 h5 tk5 F5 N5 A5 ⟨hmv, rfl⟩
  (try simp only [List.cons_append, List.nil_append] at N5)
  have hmv2 : r5 = .none ∨ ∃ c tc, (KBw.bInts c).length ≤ 160000 ∧ r5 = .bytes c tc := by
    rcases hmv with h | ⟨c, tc, h1, h2⟩
    · exact .inl h
    · exact .inr ⟨c, tc, by omega, h2⟩
  clear F7 N7
  (repeat' (first | (k_unfold; (try dsimp only)) | ((with_reducible show wpAny _ _ (call (Value.ref _) _) _ _ _); (fail_if_success (with_reducible show wpAny _ _ (call (Value.ref 87) _) _ _ _)); (fail_if_success ((with_reducible rename GoIn => hgo9); (with_reducible show wpAny _ _ (call (Value.ref 137) _) _ _ _))); refine Stop.mk ?_) | (k_here; (with_reducible show wpAny _ _ (call (Value.type "list") [Value.bytes _ _]) _ _ _); k_dflt (refine' lb_list ?kbaiN3 ?kbahN3 ?kbaFN3 ?kbaNN3 ?kbanN3 ?_; (case kbaFN3 => k_asm); (case kbaNN3 => k_asm); (case kbahN3 => rfl); (case kbaiN3 => kba_ints); (case kbanN3 => kba_size)); intro D9z us9z c9z h9z tk9z F9z N9z l19z hI9z; (try k_lt l19z); (try k_sweep)) | walk1 | (dsimp only; first | ((with_reducible show wpAny _ _ (call (Value.ref _) _) _ _ _); (fail_if_success (with_reducible show wpAny _ _ (call (Value.ref 87) _) _ _ _)); (fail_if_success ((with_reducible rename GoIn => hgo9); (with_reducible show wpAny _ _ (call (Value.ref 137) _) _ _ _))); refine Stop.mk ?_) | walk1)))
  rename Fr g _ _ _ => F7
  rename News g _ _ _ => N7
  dsimp only
  exact LawFrom.go (law_5 hb hbl hcI hcl hcc hrI hrin hrl hw0 hmv2) XB TB TT B hQ F7 (by kst_all) N7 (by (((try simp only [List.cons_append, List.nil_append, List.append_assoc]); (repeat' (first | (refine List.forall_mem_cons.mpr (And.intro ?_ ?_)) | (intro p9 hp9; exact absurd hp9 List.not_mem_nil) | (intro p9 hp9; (repeat refine List.mem_cons_of_mem _ ?_); exact hp9) | exact List.mem_cons_self | (refine List.mem_cons_of_mem _ ?_))))))

section
open PySem.Calls PyProof.Rows.LCg PyProof.Rows.LCt in
theorem comp_none {prog : Program} {w : World} {A : Around} {s : Shared} {h₀ : Heap} {L : Addr} {m : Str → Option Value} {env : Env} {ct elt : Expr} {x : Str} {scope : Scope} {cl : List (Str × Addr)} {S : List (Addr × Obj) → Prop} {P : Nat → Value → Prop} {Fin : List Value → List (Addr × Obj) → Prop} {news : List (Addr × Obj)}
    (turn : ∀ i v I oI C oC D m₂ h tk (E' : Value → Shared → Prop), P i v → NsObj oC m₂ → m₂ x = some v → Fr h₀ L h m → News h₀ L h ((I, oI) :: (C, oC) :: (D, lst []) :: news) →
      wpAny (model prog w) A (isTrue ct (compEnvC scope cl C env) (eval ct (compEnvC scope cl C env))) (fun ok s' => ok = false ∧ ∃ h' tk', s' = { s with heap := h', toks := tk' } ∧ Fr h₀ L h' m ∧ News h₀ L h' ((I, oI) :: (C, oC) :: (D, lst []) :: news)) E' { s with heap := h, toks := tk })
    (hS : S news) (fin : Fin [] news) : ∀ k i, CompRestT prog w A h₀ L m env ct elt x scope cl s S P Fin k i [] news
  | 0, _ => fin
  | k + 1, i => by
    intro v I oI C oC D m₂ h tk E' hv hC hx F N off ne
    refine wpAny_mono (turn i v I oI C oC D m₂ h tk E' hv hC hx F N) (fun ok s' hq => ?_) fun _ _ e => e
    obtain ⟨rfl, h', tk', rfl, F', N'⟩ := hq
    rw [if_neg (by decide)]
    exact CompEnd.intro (s₁ := { s with heap := h, toks := tk }) F' N' news (fun p hp => hp) off hS (comp_none turn hS fin k (i + 1))
theorem law_2 {w : World} {mean : ExcName → Option Value} {mg mb : Str → Option Value} {bb : Array UInt8} {tb : Tok} {bl cl : List Int} {cd : Addr} {cus : List Value} {cn : Nat} {wh : Int} {tw : Tok}
    (hb : KBw.bInts bb = bl) (hbl : bl.length ≤ 66) (hcI : IntsAre cus cl) (hcl : cl.length ≤ 20) (hcc : ∀ x ∈ cl, 0 ≤ x ∧ x < 1000000000) (hw0 : 0 ≤ wh) :
    LawFrom w mean mg mb 2 [(Str.ofString "base", .bytes bb tb), (Str.ofString "cells", .ref cd), (Str.ofString "whole", .int wh tw)] [(cd, W.listOf cus.toArray cn)] := by
  unfold LawFrom
  w_top off
  intro s₁ fa ccd Q E g h tk m0 XB TB TT B hQ F N
  have X := XB.keeps B.stays
  have T := TB.keeps B.stays
  delta lawEnv lawD dOf
  dsimp only [List.drop]
  have hMk := kstMark
  refine wpG_consA ?_
  (repeat' (first | (k_unfold; (try dsimp only)) | ((with_reducible show wpAny _ _ (eval (Expr.ListComp _ _ _ _) _) _ _ _); k_here; k_dflt (refine LCt.ListComp_T (F₀ := by k_asm) (by with_unfolding_all rfl) (by decide) (by rfl) (by decide) (by rfl) ?_)) | ((with_reducible show wpAny _ _ (call (Value.ref _) _) _ _ _); (fail_if_success (with_reducible show wpAny _ _ (call (Value.ref 87) _) _ _ _)); (fail_if_success ((with_reducible rename GoIn => hgo9); (with_reducible show wpAny _ _ (call (Value.ref 137) _) _ _ _))); refine Stop.mk ?_) | (k_here; (with_reducible show wpAny _ _ (call (Value.type "list") [Value.bytes _ _]) _ _ _); k_dflt (refine' lb_list ?kbaiN1 ?kbahN1 ?kbaFN1 ?kbaNN1 ?kbanN1 ?_; (case kbaFN1 => k_asm); (case kbaNN1 => k_asm); (case kbahN1 => rfl); (case kbaiN1 => kba_ints); (case kbanN1 => kba_size)); intro D9z us9z c9z h9z tk9z F9z N9z l19z hI9z; (try k_lt l19z); (try k_sweep)) | walk1 | (dsimp only; first | ((with_reducible show wpAny _ _ (call (Value.ref _) _) _ _ _); (fail_if_success (with_reducible show wpAny _ _ (call (Value.ref 87) _) _ _ _)); (fail_if_success ((with_reducible rename GoIn => hgo9); (with_reducible show wpAny _ _ (call (Value.ref 137) _) _ _ _))); refine Stop.mk ?_) | walk1)))
  unfold Stop
  rename Fr g _ _ _ => F9
  rename News g _ _ _ => N9
  rename IntsAre _ (List.take 4 cl) => hI9
  have hl9 := hI9.length
  refine LCt.CompSrcT.ledger rfl F9 N9 (.head _) (by rw [PySem.sizeLine_eq, List.size_toArray, hl9, List.length_take]; omega) fun g8 => ?_
  refine comp_none ?_ (.inr ⟨_, .head _, rfl, _, rfl⟩) ?_ _ _
  · intro i v I oI C oC D m₂ h7 tk7 E7 hv hC hx F7 N7
    rw [List.getElem?_toArray] at hv
    obtain ⟨x5, tx5, rfl, hx5⟩ := ints_mem hI9 hv
    have hx6 := hcc x5 (List.mem_of_mem_take hx5)
    clear F9 N9
    (repeat' (first | (k_unfold; (try dsimp only)) | ((with_reducible show wpAny _ _ (eval (Expr.ListComp _ _ _ _) _) _ _ _); k_here; k_dflt (refine LCt.ListComp_T (F₀ := by k_asm) (by with_unfolding_all rfl) (by decide) (by rfl) (by decide) (by rfl) ?_)) | ((with_reducible show wpAny _ _ (call (Value.ref _) _) _ _ _); (fail_if_success (with_reducible show wpAny _ _ (call (Value.ref 87) _) _ _ _)); (fail_if_success ((with_reducible rename GoIn => hgo9); (with_reducible show wpAny _ _ (call (Value.ref 137) _) _ _ _))); refine Stop.mk ?_) | (k_here; (with_reducible show wpAny _ _ (call (Value.type "list") [Value.bytes _ _]) _ _ _); k_dflt (refine' lb_list ?kbaiN2 ?kbahN2 ?kbaFN2 ?kbaNN2 ?kbanN2 ?_; (case kbaFN2 => k_asm); (case kbaNN2 => k_asm); (case kbahN2 => rfl); (case kbaiN2 => kba_ints); (case kbanN2 => kba_size)); intro D9z us9z c9z h9z tk9z F9z N9z l19z hI9z; (try k_lt l19z); (try k_sweep)) | walk1 | (dsimp only; first | ((with_reducible show wpAny _ _ (call (Value.ref _) _) _ _ _); (fail_if_success (with_reducible show wpAny _ _ (call (Value.ref 87) _) _ _ _)); (fail_if_success ((with_reducible rename GoIn => hgo9); (with_reducible show wpAny _ _ (call (Value.ref 137) _) _ _ _))); refine Stop.mk ?_) | walk1)))
    unfold Stop
    refine' Spec.use0 (spec_lszr hx6.1 hx6.2) B F7 X N7 T rfl ?ud ?uu ?_ ?_
    case ud => ktr_room
    case uu => ktr_units
    rotate_left 1
    · intro hno
      exact hno.elim
    rintro r6 o6 h6 tk6 F6 N6 A6 ⟨rfl, rfl⟩
    (try simp only [List.nil_append] at N6)
    (repeat' (first | (k_unfold; (try dsimp only)) | ((with_reducible show wpAny _ _ (eval (Expr.ListComp _ _ _ _) _) _ _ _); k_here; k_dflt (refine LCt.ListComp_T (F₀ := by k_asm) (by with_unfolding_all rfl) (by decide) (by rfl) (by decide) (by rfl) ?_)) | ((with_reducible show wpAny _ _ (call (Value.ref _) _) _ _ _); (fail_if_success (with_reducible show wpAny _ _ (call (Value.ref 87) _) _ _ _)); (fail_if_success ((with_reducible rename GoIn => hgo9); (with_reducible show wpAny _ _ (call (Value.ref 137) _) _ _ _))); refine Stop.mk ?_) | (k_here; (with_reducible show wpAny _ _ (call (Value.type "list") [Value.bytes _ _]) _ _ _); k_dflt (refine' lb_list ?kbaiN3 ?kbahN3 ?kbaFN3 ?kbaNN3 ?kbanN3 ?_; (case kbaFN3 => k_asm); (case kbaNN3 => k_asm); (case kbahN3 => rfl); (case kbaiN3 => kba_ints); (case kbanN3 => kba_size)); intro D9z us9z c9z h9z tk9z F9z N9z l19z hI9z; (try k_lt l19z); (try k_sweep)) | walk1 | (dsimp only; first | ((with_reducible show wpAny _ _ (call (Value.ref _) _) _ _ _); (fail_if_success (with_reducible show wpAny _ _ (call (Value.ref 87) _) _ _ _)); (fail_if_success ((with_reducible rename GoIn => hgo9); (with_reducible show wpAny _ _ (call (Value.ref 137) _) _ _ _))); refine Stop.mk ?_) | walk1)))
    all_goals first | exact F6 | exact N6 | exact ⟨F6, N6⟩
  · intro D h7 tk7 F7 N7 off7
    clear F9 N9
    (repeat' (first | (k_unfold; (try dsimp only)) | ((with_reducible show wpAny _ _ (eval (Expr.ListComp _ _ _ _) _) _ _ _); k_here; k_dflt (refine LCt.ListComp_T (F₀ := by k_asm) (by with_unfolding_all rfl) (by decide) (by rfl) (by decide) (by rfl) ?_)) | ((with_reducible show wpAny _ _ (call (Value.ref _) _) _ _ _); (fail_if_success (with_reducible show wpAny _ _ (call (Value.ref 87) _) _ _ _)); (fail_if_success ((with_reducible rename GoIn => hgo9); (with_reducible show wpAny _ _ (call (Value.ref 137) _) _ _ _))); refine Stop.mk ?_) | (k_here; (with_reducible show wpAny _ _ (call (Value.type "list") [Value.bytes _ _]) _ _ _); k_dflt (refine' lb_list ?kbaiN4 ?kbahN4 ?kbaFN4 ?kbaNN4 ?kbanN4 ?_; (case kbaFN4 => k_asm); (case kbaNN4 => k_asm); (case kbahN4 => rfl); (case kbaiN4 => kba_ints); (case kbanN4 => kba_size)); intro D9z us9z c9z h9z tk9z F9z N9z l19z hI9z; (try k_lt l19z); (try k_sweep)) | walk1 | (dsimp only; first | ((with_reducible show wpAny _ _ (call (Value.ref _) _) _ _ _); (fail_if_success (with_reducible show wpAny _ _ (call (Value.ref 87) _) _ _ _)); (fail_if_success ((with_reducible rename GoIn => hgo9); (with_reducible show wpAny _ _ (call (Value.ref 137) _) _ _ _))); refine Stop.mk ?_) | walk1)))
    unfold Stop
    rename Fr g _ _ _ => F9
    rename News g _ _ _ => N9
    (try dsimp only)
    refine' Spec.use0 (spec_lszr (n := bl.length) (by omega) (by omega)) B F9 X N9 T rfl ?ud ?uu ?_ ?_
    case ud => ktr_room
    case uu => ktr_units
    rotate_left 1
    · intro hno
      exact hno.elim
    rintro r6 o6 h6 tk6 F6 N6 A6 ⟨rfl, rfl⟩
    (try simp only [List.nil_append] at N6)
    clear F9 N9
    (repeat' (first | (k_unfold; (try dsimp only)) | ((with_reducible show wpAny _ _ (eval (Expr.ListComp _ _ _ _) _) _ _ _); k_here; k_dflt (refine LCt.ListComp_T (F₀ := by k_asm) (by with_unfolding_all rfl) (by decide) (by rfl) (by decide) (by rfl) ?_)) | ((with_reducible show wpAny _ _ (call (Value.ref _) _) _ _ _); (fail_if_success (with_reducible show wpAny _ _ (call (Value.ref 87) _) _ _ _)); (fail_if_success ((with_reducible rename GoIn => hgo9); (with_reducible show wpAny _ _ (call (Value.ref 137) _) _ _ _))); refine Stop.mk ?_) | (k_here; (with_reducible show wpAny _ _ (call (Value.type "list") [Value.bytes _ _]) _ _ _); k_dflt (refine' lb_list ?kbaiN5 ?kbahN5 ?kbaFN5 ?kbaNN5 ?kbanN5 ?_; (case kbaFN5 => k_asm); (case kbaNN5 => k_asm); (case kbahN5 => rfl); (case kbaiN5 => kba_ints); (case kbanN5 => kba_size)); intro D9z us9z c9z h9z tk9z F9z N9z l19z hI9z; (try k_lt l19z); (try k_sweep)) | walk1 | (dsimp only; first | ((with_reducible show wpAny _ _ (call (Value.ref _) _) _ _ _); (fail_if_success (with_reducible show wpAny _ _ (call (Value.ref 87) _) _ _ _)); (fail_if_success ((with_reducible rename GoIn => hgo9); (with_reducible show wpAny _ _ (call (Value.ref 137) _) _ _ _))); refine Stop.mk ?_) | walk1)))
    rename Fr g _ _ _ => F9
    rename News g _ _ _ => N9
    dsimp only
    exact LawFrom.go (law_3 hb hbl hcI hcl hcc hw0) XB TB TT B hQ F9 (by kst_all) N9 (by (((try simp only [List.cons_append, List.nil_append, List.append_assoc]); (repeat' (first | (refine List.forall_mem_cons.mpr (And.intro ?_ ?_)) | (intro p9 hp9; exact absurd hp9 List.not_mem_nil) | (intro p9 hp9; (repeat refine List.mem_cons_of_mem _ ?_); exact hp9) | exact List.mem_cons_self | (refine List.mem_cons_of_mem _ ?_))))))
end

open PySem.W in
theorem codeG_full {prog : Program} {w : World} {A : Around} {s : Shared} {name : Str} {params : Arguments} {body : List Stmt} {scope : Scope} {pm cd doc dV kV : Value} {f : Addr} {o : Obj} {args : Args} {binds : List (Str × Value)} {R : Result → Shared → Prop}
    (hroom : A.depth < recursionLimit) (ho : s.heap.get? f = some o) (hdata : o.data = .func { docDef name params body scope pm cd doc with defaults := dV, kwdefaults := kV }) (hlim : s.heap.NoLimit) (hcd : s.heap.CodeRec cd name)
    (hbind : BindsTo s { docDef name params body scope pm cd doc with defaults := dV, kwdefaults := kV } args binds) (hloc : ∀ x ∈ binds, scope.names.lookup x.1 = some .local)
    (h : ∀ h₁, Fr s.heap s.heap.objs.size h₁ (fun x => binds.reverse.lookup x) →
      wpG (model prog w) (A.deeper (envOf name scope s.heap.objs.size f cd)) (execs body (envOf name scope s.heap.objs.size f cd))
        (fun fl s' => R (.ok (.ret (match fl with | .ret v => v | _ => .none))) s')
        (fun e s' => wpAny (model prog w) (A.deeper (envOf name scope s.heap.objs.size f cd)) (leaving (envOf name scope s.heap.objs.size f cd) e) (fun _ s'' => R (.error e) s'') (fun e' s'' => R (.error e') s'') s')
        { s with heap := h₁, toks := s.toks + binds.length })
    (hco : scope.isCoroutine = false := by rfl) (hgen : scope.isGenerator = false := by rfl) (hk : scope.kind = .function := by rfl) (hcell : ∀ x ∈ scope.names, x.2 ≠ .cell := by decide) :
    codeG (model prog w) A (.call (.ref f) args) R s :=
  codeG_call_def hroom ho hdata hlim hcd rfl hbind hcell hloc (fun h₁ hns hkeep => h h₁ ⟨hns, hkeep, Nat.le_refl _⟩) hco hgen hk
theorem enterG {M : Model} {A : Around} {s : Shared} {f : Value} {pos : List Value} {kw : List (Str × Value)} {c : ClaimW} {cl : Str → Option Addr} {mean : ExcName → Option Value} {args : List WData} {s₁ : Shared}
    (h : codeG M A (.call f ⟨pos, kw⟩) (GoodWG c cl mean args s₁) s) : wpG M A (PySem.call f pos kw) (fun v s' => GoodWG c cl mean args s₁ (.ok (.ret v)) s') (fun e s' => GoodWG c cl mean args s₁ (.error e) s') s :=
  wpG_call (codeG_mono h fun res s' g => by rcases g.1 with ⟨v, _, _, rfl, _⟩ | ⟨e, _, _, rfl, _⟩ <;> exact g)
theorem cells_in (l : List Int) : ∀ x ∈ List.map (fun k' : Int => k'.fmod (10 ^ Int.toNat 9)) l, 0 ≤ x ∧ x < 1000000000 := by
  intro x hx
  obtain ⟨k, _, rfl⟩ := List.mem_map.mp hx
  rw [show (10 : Int) ^ Int.toNat 9 = 1000000000 from by decide, Int.fmod_eq_emod_of_nonneg _ (by decide)]
  omega
theorem news_one {h₀ h : Heap} {L : Addr} {p : Addr × Obj} {r : List (Addr × Obj)} (N : News h₀ L h (p :: r)) : News h₀ L h [p] := fun x hx => N x (by
  rw [List.mem_singleton.mp hx]
  exact .head _)
theorem fr1 {h₀ h : Heap} {L : Addr} {x : Str} {v : Value} {M : Str → Option Value} (F : Fr h₀ L h (fun z => if z = x then some v else M z)) : ∃ m0 : Str → Option Value, Fr h₀ L h (fun z => if z = x then some v else m0 z) := ⟨M, F⟩
theorem sum_nonneg : ∀ (l : List Int), (∀ x ∈ l, 0 ≤ x) → 0 ≤ l.sum
  | [], _ => Int.le_refl _
  | x :: l, h => by
    rw [List.sum_cons]
    have h1 := h x (.head _)
    have h2 := sum_nonneg l fun y hy => h y (.tail _ hy)
    omega
-- where a name tw.. stands already, no twin is made
theorem the_law.tw17123292141336038237 : True := trivial
theorem the_law.tw7743365415089011609 : True := trivial
theorem the_law.tw7630788157874468972 : True := trivial
theorem the_law.tw15378119601985593591 : True := trivial
theorem the_law.tw6147471348471320025 : True := trivial
theorem the_law.tw18357452190959980332 : True := trivial
theorem the_law.tw16833570483346689497 : True := trivial
theorem the_law.tw8137707966091062224 : True := trivial
theorem the_law.tw10662299475183723813 : True := trivial
theorem the_law.tw14276516203628968757 : True := trivial
theorem the_law.tw12421154326163743044 : True := trivial
theorem the_law.tw8807082624752972610 : True := trivial
theorem the_law.tw3969672559754056027 : True := trivial
theorem the_law.tw2815459543387162039 : True := trivial
theorem the_law.tw8502363289014133921 : True := trivial
theorem the_law.tw8717927445942961769 : True := trivial
theorem the_law.tw7870033383120766168 : True := trivial
theorem the_law.tw15804182511025683780 : True := trivial
theorem the_law.tw14593224459956405658 : True := trivial
theorem the_law.tw11694075615805445117 : True := trivial
theorem the_law.tw5679733185164916305 : True := trivial
theorem the_law.tw10085195953587388118 : True := trivial
theorem the_law.tw6501138019437466910 : True := trivial
theorem the_law.tw7200440461323754383 : True := trivial
theorem the_law.tw3851201177664293019 : True := trivial
theorem the_law.tw17494482734698732314 : True := trivial
theorem the_law.tw5351897218386179120 : True := trivial
theorem the_law.tw2941543471161629678 : True := trivial
theorem the_law.tw13345441413268214603 : True := trivial
theorem the_law.tw4023158159974017452 : True := trivial
theorem the_law.tw17423143462273180991 : True := trivial
theorem the_law.tw13461757905653922427 : True := trivial
theorem the_law.tw9540351822197304066 : True := trivial
theorem the_law.tw6700245443904869745 : True := trivial
theorem the_law.tw1497362503833165854 : True := trivial
theorem the_law.tw7844322975474967751 : True := trivial
theorem the_law.tw2551803567163112939 : True := trivial
theorem the_law.tw2958017544490664012 : True := trivial
theorem the_law.tw1876173545394305669 : True := trivial
theorem the_law.tw1758018336447388866 : True := trivial
theorem the_law.tw3978411362639076317 : True := trivial
theorem the_law.tw13519719424011245531 : True := trivial
theorem the_law.tw14508209008589909952 : True := trivial
theorem the_law.tw13918579218030626477 : True := trivial
theorem the_law.tw5416778704095183603 : True := trivial
theorem the_law.tw471091107790654353 : True := trivial
theorem the_law.tw5087292833185448787 : True := trivial
theorem the_law.tw18230586189965180060 : True := trivial
theorem the_law.tw8612342340422094196 : True := trivial
theorem the_law.tw3266176959643546219 : True := trivial
theorem the_law.tw82921918446581218 : True := trivial
theorem the_law.tw9518725994942411554 : True := trivial
theorem the_law.tw626971646790384148 : True := trivial
theorem the_law.tw17967149090188222481 : True := trivial
theorem the_law.tw4617249712923858022 : True := trivial
theorem the_law.tw2436466214247778694 : True := trivial
theorem the_law.tw8413619747877046783 : True := trivial
theorem the_law.tw18432471830949998455 : True := trivial
theorem the_law.tw17916047101010239611 : True := trivial
theorem the_law.tw12391046505477063477 : True := trivial
theorem the_law.tw18273041722104860537 : True := trivial
theorem the_law.tw9544869008121019786 : True := trivial
theorem the_law.tw9203830145802291437 : True := trivial
theorem the_law.tw13491922407734903000 : True := trivial
theorem the_law.tw2805332806966101048 : True := trivial
theorem the_law.tw2583801996358820569 : True := trivial
theorem the_law.tw18209024029236962908 : True := trivial
theorem the_law.tw540225284365443433 : True := trivial
theorem the_law.tw17879659354356538433 : True := trivial
theorem the_law.tw7210766434124698927 : True := trivial
theorem the_law.tw4678627924932929923 : True := trivial
theorem the_law.tw15851345203804713156 : True := trivial
theorem the_law.tw1057164418953052063 : True := trivial
theorem the_law.tw8601590717196516477 : True := trivial
theorem the_law.tw5885672744845692355 : True := trivial
theorem the_law.tw11760247714993037911 : True := trivial
theorem the_law.tw9662199391536694080 : True := trivial
theorem the_law.tw12348948289128397615 : True := trivial
theorem the_law.tw14270689805388016712 : True := trivial
theorem the_law.tw17683483480831797278 : True := trivial
theorem the_law.tw7111807970030212797 : True := trivial
theorem the_law.tw3191944944298499119 : True := trivial
theorem the_law.tw12220189558968296764 : True := trivial
theorem the_law.tw5740844935027086226 : True := trivial
theorem the_law.tw15942392696418298009 : True := trivial
theorem the_law.tw13071446812119265202 : True := trivial
theorem the_law.tw16416946617400786151 : True := trivial
theorem the_law.tw3469847165625840272 : True := trivial
theorem the_law.tw2485199081539761597 : True := trivial
theorem the_law.tw10016583781247707904 : True := trivial
theorem the_law.tw17114451759434113669 : True := trivial
theorem the_law.tw874917189974528042 : True := trivial
theorem the_law.tw17229136472129463356 : True := trivial
theorem the_law.tw16871154336842055968 : True := trivial
theorem the_law.tw12336354902605132010 : True := trivial
theorem the_law.tw12827745442753133895 : True := trivial
theorem the_law.tw16461617603256166657 : True := trivial
theorem the_law.tw1887790122075234612 : True := trivial
theorem the_law.tw7904798113526840349 : True := trivial
theorem the_law.tw3836035043137533401 : True := trivial
theorem the_law.tw16433976589980439510 : True := trivial
theorem the_law.tw14262571012277367400 : True := trivial
theorem the_law.tw13138645489592574298 : True := trivial
theorem the_law.tw5270108669829435205 : True := trivial
theorem the_law.tw2932366986021997585 : True := trivial
theorem the_law.tw11744869375795423271 : True := trivial
theorem the_law.tw10647980319389551907 : True := trivial
theorem the_law.tw10395166724671481563 : True := trivial
theorem the_law.tw12132795939098979432 : True := trivial
theorem the_law.tw8133277066656838403 : True := trivial
theorem the_law.tw8571938096857657518 : True := trivial
theorem the_law.tw1617432938517750258 : True := trivial
theorem the_law.tw8714883993954106674 : True := trivial
theorem the_law.tw10170495247123396328 : True := trivial
theorem the_law.tw2359279520550430173 : True := trivial
theorem the_law.tw10096350936056097662 : True := trivial
theorem the_law.tw9859307989347215649 : True := trivial
theorem the_law.tw12891163198488634212 : True := trivial
theorem the_law.tw11575196113077229259 : True := trivial
theorem the_law.tw14418351204517182777 : True := trivial
theorem the_law.tw14755601824311176682 : True := trivial
theorem the_law.tw8473419563947124841 : True := trivial
theorem the_law.tw16329692488661272458 : True := trivial
theorem the_law.tw14503570835382411459 : True := trivial
theorem the_law.tw9979312301355611766 : True := trivial
theorem the_law.tw48525709507625858 : True := trivial
theorem the_law.tw4517300290296804734 : True := trivial
theorem the_law.tw5499025877086160063 : True := trivial
theorem the_law.tw2226282248687341299 : True := trivial
theorem the_law.tw14918618552101546430 : True := trivial
theorem the_law.tw1306741236247948570 : True := trivial
theorem the_law.tw12349082912446496122 : True := trivial
theorem the_law.tw10943617231672282143 : True := trivial
theorem the_law.tw9875532184442794979 : True := trivial
theorem the_law.tw9250985243499408423 : True := trivial
theorem the_law.tw8495659397586899126 : True := trivial
theorem the_law.tw5540749355107233461 : True := trivial
theorem the_law.tw18437703789754742094 : True := trivial
theorem the_law.tw14327034850877405489 : True := trivial
theorem the_law.tw14164325320658674290 : True := trivial
theorem the_law.tw13940859234861132900 : True := trivial
theorem the_law.tw12602636499158863242 : True := trivial
theorem the_law.tw12215160692470941283 : True := trivial
theorem the_law.tw10957323901900120582 : True := trivial
theorem the_law.tw5372763034084339988 : True := trivial
theorem the_law.tw12777037256250151831 : True := trivial
theorem the_law.tw12319476703610864075 : True := trivial
theorem the_law.tw7185408633058302836 : True := trivial
theorem the_law.tw3198015990651925941 : True := trivial
theorem the_law.tw1354312183740885144 : True := trivial
theorem the_law.tw8137294520469548044 : True := trivial
theorem the_law.tw16814453979856517477 : True := trivial
theorem the_law.tw16178966093472866963 : True := trivial
theorem the_law.tw13099642499205706691 : True := trivial
theorem the_law.tw13154856293766785013 : True := trivial
theorem the_law.tw405975510254933866 : True := trivial
theorem the_law.tw13544579729492022460 : True := trivial
theorem the_law.tw12850040375495480988 : True := trivial
theorem the_law.tw4584736097684789375 : True := trivial
theorem the_law.tw2737049499516002932 : True := trivial
theorem the_law.tw9186166106411686349 : True := trivial
theorem the_law.tw11019182667747504610 : True := trivial
theorem the_law.tw7892253632141755684 : True := trivial
theorem the_law.tw6769165481588039847 : True := trivial
theorem the_law.tw5582780411824514506 : True := trivial
theorem the_law.tw1599986414079690169 : True := trivial
theorem the_law.tw12945678121534553798 : True := trivial
theorem the_law.tw14748366165918755826 : True := trivial
theorem the_law.tw14486799962669681046 : True := trivial
theorem the_law.tw14428311245317613357 : True := trivial
theorem the_law.tw5607814959136322434 : True := trivial
theorem the_law.tw12577805726838946361 : True := trivial
set_option Elab.async true in
theorem the_law : PySem.Challenge.rw_nt0269_01.Holds := by
  w_on
  o_law
  rename_i said
  have said' := And.intro said True.intro
  clear said
  k_head
  (case hw => w_witness2)
  intro _
  w_top off
  intro w s₀ s₁ mg mb G Y fa o pm cd doc dV kV ho hd hcd hD hmg hg args vals as hpre hlay hrd hwl hlo
  have KX : (Mine.hd.heap_1_39 w.params).In s₁.heap := kIn_of Y
  clear Y
  have X := (Ground.X G).1
  have V := (Ground.X G).2
  refine Ground.open G ?_
  intro T B D TE TW
  have T : Top VV LO (ExcName.means s₀.heap) mg mb s₁.heap := T
  try (refine guard_noD D (by decide +kernel) ?_; clear D)
  obtain ⟨_, _, M⟩ := bmod_of_top T
  have TA := at_of_top T
  try (obtain ⟨_, _, he, B0⟩ := based_of_top T rfl hmg ho hd; have he' : cd = _ := he; subst he'; clear he)
  clear hmg
  wrow_args hpre hlay hrd hwl hlo
  have he := Dflts.none hD rfl
  subst he
  have K0 : Below callerA s₁.heap [] s₁.heap := below_caller _
  refine enterG ?_
  refine codeG_full (by decide) ho hd (Top.nolimit T) hcd (BindsTo.of_eq rfl) (locs rfl) fun h₁ F => ?_
  w_binds F
  have N0 := (News.nil : News _ _ _ []).at F
  clear hd TA hD hcd ho
  have hMk := kstMark
  rename News _ _ _ _ => N9
  rename IntsAre _ _ => hI0
  rename Heap.IsList _ _ _ => hL0
  rename ¬ ((63 : Nat) : Int) < _ => hlen0
  (try dsimp only)
  refine wpG_consA ?_
  (repeat' (first | (k_unfold; (try dsimp only)) | ((with_reducible show wpAny _ _ (call (Value.ref _) _) _ _ _); (fail_if_success (with_reducible show wpAny _ _ (call (Value.ref 87) _) _ _ _)); (fail_if_success ((with_reducible rename GoIn => hgo9); (with_reducible show wpAny _ _ (call (Value.ref 137) _) _ _ _))); refine Stop.mk ?_) | (k_here; (with_reducible show wpAny _ _ (call (Value.type "list") [Value.bytes _ _]) _ _ _); k_dflt (refine' lb_list ?kbaiN1 ?kbahN1 ?kbaFN1 ?kbaNN1 ?kbanN1 ?_; (case kbaFN1 => k_asm); (case kbaNN1 => k_asm); (case kbahN1 => rfl); (case kbaiN1 => kba_ints); (case kbanN1 => kba_size)); intro D9z us9z c9z h9z tk9z F9z N9z l19z hI9z; (try k_lt l19z); (try k_sweep)) | walk1 | (dsimp only; first | ((with_reducible show wpAny _ _ (call (Value.ref _) _) _ _ _); (fail_if_success (with_reducible show wpAny _ _ (call (Value.ref 87) _) _ _ _)); (fail_if_success ((with_reducible rename GoIn => hgo9); (with_reducible show wpAny _ _ (call (Value.ref 137) _) _ _ _))); refine Stop.mk ?_) | walk1)))
  rename IntsAre _ (List.map _ _) => hI1
  rename Fr _ _ _ _ => F9
  rename News _ _ _ [_, _] => N9
  have N99 := news_one N9
  obtain ⟨cl, hcl, hc1, hc2, hI2⟩ : ∃ cl : List Int, cl = _ ∧ cl.length ≤ 20 ∧ (∀ x ∈ cl, 0 ≤ x ∧ x < 1000000000) ∧ IntsAre _ cl := ⟨_, rfl, by rw [List.length_map, List.length_take]; omega, cells_in _, hI1⟩
  clear hI1 N9 hI0 hL0
  have hy1 : _ = cl.length := hI2.length
  obtain ⟨m0, F9⟩ := fr1 F9
  refine wpG_consA ?_
  (repeat' (first | (k_unfold; (try dsimp only)) | ((with_reducible show wpAny _ _ (call (Value.ref _) _) _ _ _); (fail_if_success (with_reducible show wpAny _ _ (call (Value.ref 87) _) _ _ _)); (fail_if_success ((with_reducible rename GoIn => hgo9); (with_reducible show wpAny _ _ (call (Value.ref 137) _) _ _ _))); refine Stop.mk ?_) | (k_here; (with_reducible show wpAny _ _ (call (Value.type "list") [Value.bytes _ _]) _ _ _); k_dflt (refine' lb_list ?kbaiN2 ?kbahN2 ?kbaFN2 ?kbaNN2 ?kbanN2 ?_; (case kbaFN2 => k_asm); (case kbaNN2 => k_asm); (case kbahN2 => rfl); (case kbaiN2 => kba_ints); (case kbanN2 => kba_size)); intro D9z us9z c9z h9z tk9z F9z N9z l19z hI9z; (try k_lt l19z); (try k_sweep)) | walk1 | (dsimp only; first | ((with_reducible show wpAny _ _ (call (Value.ref _) _) _ _ _); (fail_if_success (with_reducible show wpAny _ _ (call (Value.ref 87) _) _ _ _)); (fail_if_success ((with_reducible rename GoIn => hgo9); (with_reducible show wpAny _ _ (call (Value.ref 137) _) _ _ _))); refine Stop.mk ?_) | walk1)))
  unfold Stop
  rename Fr s₁.heap _ _ _ => F9
  rename News s₁.heap _ _ _ => N9
  rename @LT.lt Addr _ _ _ => l9
  rename IntsAre _ (List.take 6 cl) => hI6
  (try dsimp only)
  refine' Spec.use (spec_lbase hI6 (by rw [List.length_take]; omega) (fun x hx => hc2 x (List.mem_of_mem_take hx))) K0 F9 KX N9 (.cons .here .nil) ?ua T rfl ?ud ?uu ?_ ?_
  case ud => ktr_room
  case uu => ktr_units
  case ua =>
    intro a9 ha9 b9 hb9
    rw [List.mem_singleton.mp ha9, List.mem_singleton.mp hb9]
    exact Nat.ne_of_gt l9
  rotate_left 1
  · intro hno
    exact hno.elim
  clear F9 N9
  rintro r9 o9 h9 tk9 F9 N9 A9 ⟨bb, tb, rfl, hbl, rfl⟩
  obtain ⟨bl, hb⟩ : ∃ bl, KBw.bInts bb = bl := ⟨_, rfl⟩
  rw [hb] at hbl
  (try simp only [List.cons_append, List.nil_append] at N9)
  (repeat' (first | (k_unfold; (try dsimp only)) | ((with_reducible show wpAny _ _ (call (Value.ref _) _) _ _ _); (fail_if_success (with_reducible show wpAny _ _ (call (Value.ref 87) _) _ _ _)); (fail_if_success ((with_reducible rename GoIn => hgo9); (with_reducible show wpAny _ _ (call (Value.ref 137) _) _ _ _))); refine Stop.mk ?_) | (k_here; (with_reducible show wpAny _ _ (call (Value.type "list") [Value.bytes _ _]) _ _ _); k_dflt (refine' lb_list ?kbaiN3 ?kbahN3 ?kbaFN3 ?kbaNN3 ?kbanN3 ?_; (case kbaFN3 => k_asm); (case kbaNN3 => k_asm); (case kbahN3 => rfl); (case kbaiN3 => kba_ints); (case kbanN3 => kba_size)); intro D9z us9z c9z h9z tk9z F9z N9z l19z hI9z; (try k_lt l19z); (try k_sweep)) | walk1 | (dsimp only; first | ((with_reducible show wpAny _ _ (call (Value.ref _) _) _ _ _); (fail_if_success (with_reducible show wpAny _ _ (call (Value.ref 87) _) _ _ _)); (fail_if_success ((with_reducible rename GoIn => hgo9); (with_reducible show wpAny _ _ (call (Value.ref 137) _) _ _ _))); refine Stop.mk ?_) | walk1)))
  rename Fr s₁.heap _ _ _ => F8
  rename News s₁.heap _ _ _ => N8
  have hsum := sum_nonneg cl fun x hx => (hc2 x hx).1
  dsimp only
  refine LawFrom.go (law_2 hb hbl hI2 hc1 hc2 hsum) KX T KtsTurn.refl K0 ?_ F8 (by kst_all) N8 (by (((try simp only [List.cons_append, List.nil_append, List.append_assoc]); (repeat' (first | (refine List.forall_mem_cons.mpr (And.intro ?_ ?_)) | (intro p9 hp9; exact absurd hp9 List.not_mem_nil) | (intro p9 hp9; (repeat refine List.mem_cons_of_mem _ ?_); exact hp9) | exact List.mem_cons_self | (refine List.mem_cons_of_mem _ ?_))))))
  intro g h tk m TT FF
  refine GoodW.toG ⟨.inl ⟨.bool true, _, [], rfl, fun _ => rfl, readsW_of_reads (Reads.bool true), ?_, ?_⟩, fun b o e => FF.keep b o (TT.other b o e (fun hm => nomatch hm)), rfl, hg⟩
  · exact postW_of (by wrow_shape) (by wtm_val) (by str_meet; first | done | w_fin)
  · intro _
    exact ⟨List.nodup_nil, fun a ha => nomatch ha⟩

end Mine
set_option maxRecDepth 100000 in
set_option maxHeartbeats 8000000 in
theorem PySem.Challenge.cw_nt0269_01_holds : PySem.Challenge.rw_nt0269_01.Holds := by
  exact Mine.the_law
