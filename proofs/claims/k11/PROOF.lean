import PyProof.Rows.All
import Wide.All
import OpenK.AllK
import Wide.FinOn
import PyProof.EqAt
import PyProof.EqKinds
import PyProof.TupleCall
import HandS.ForMost
import HandS.ForExc
import HandS.Lambda
import HandS.Wide
import HandS.IsInst
import HandS.Star
import KE.DataEq
import KE.DataCmp
import KE.SortData
import KE.DataMinMax
import HandS.TupAny
import HandS.TryOnly
import HandS.Comp
import HandS.Iter
import HandS.Zip
import KE.GoesEnum
import KE.GoesMore
import HandS.WordsExc
import HandS.ExcOwn
import HandS.ListItems
import HandS.Style
import HandS.Dict
import HandS.More
import HandS.Small
import HandS.ExcInit
import HandS.ExcField
import HandS.TryMany
import HandS.Codes
import HandS.EndTab
import KE.KNest
import KE.KNestM
import PySem.Challenge.RW_leadsthere_k11_whole_main_plans_replayed
set_option Elab.async false
set_option linter.all false
set_option maxRecDepth 100000
set_option maxHeartbeats 4000007
namespace IL
open PySem PySem.Spec
open PyProof.Rows L2

/-! ### data -/
inductive D where
  | non | bl (b : Bool) | int (i : Int) | str (x : Str) | seq (t : Bool) (xs : List D) | dct (kvs : List (Key × D)) | dcT (kvs : List (List Key × D)) | scr (ns : List Int)

inductive W where
  | d (x : D) | loc (n : Nat) | v (x : V)

inductive SO where
  | lst (ws : List W) | tup (ws : List W) | dK (kvs : List (Key × W)) | dT (kvs : List (List Key × W)) | frz (x : D) | tabs (T : List (Addr × Str))
abbrev Store := List SO
def SO.mut : SO → Bool
  | .frz _ => false
  | .tabs _ => false
  | _ => true

/-- what holds of a sequence in the heap -/
def seqO (t : Bool) (vs : List V) : HO := if t = true then .tup vs else .lst vs
def SqB (F : Hp) (t : Bool) (a : Addr) (vs : List V) : Prop := F a = some (seqO t vs)

mutual
def Rp (K : PySem.W.Frag) (F : Hp) : D → V → Prop
  | .non, v => v = .non
  | .bl b, v => v = .bl b
  | .int i, v => v = .int i
  | .str x, v => v = .str x
  | .seq t xs, v => ∃ a vs, v = .ref a ∧ SqB F t a vs ∧ Rps K F xs vs
  | .dct kvs, v => ∃ a ps, v = .ref a ∧ Rd F a (.dK ps) ∧ RpK K F kvs ps
  | .dcT kvs, v => ∃ a ps, v = .ref a ∧ F a = some (.dT ps) ∧ RpT K F kvs ps
  | .scr ns, v => ∃ a, v = .ref a ∧ SqL K F a (ns.map V.int)
def Rps (K : PySem.W.Frag) (F : Hp) : List D → List V → Prop
  | [], vs => vs = []
  | x :: xs, vs => ∃ v r, vs = v :: r ∧ Rp K F x v ∧ Rps K F xs r
def RpK (K : PySem.W.Frag) (F : Hp) : List (Key × D) → List (Key × V) → Prop
  | [], vs => vs = []
  | (k, x) :: xs, vs => ∃ v r, vs = (k, v) :: r ∧ Rp K F x v ∧ RpK K F xs r
def RpT (K : PySem.W.Frag) (F : Hp) : List (List Key × D) → List (List Key × V) → Prop
  | [], vs => vs = []
  | (k, x) :: xs, vs => ∃ v r, vs = (k, v) :: r ∧ Rp K F x v ∧ RpT K F xs r
end

abbrev HLe (F G : Hp) : Prop := ∀ a o, F a = some o → G a = some o
theorem HLe.refl (F : Hp) : HLe F F := fun _ _ h => h
theorem HLe.trans {F G H : Hp} (a : HLe F G) (b : HLe G H) : HLe F H := fun x o h => b x o (a x o h)
theorem HLe.upd {H : Hp} {p : Addr} {o : HO} (h : H p = none) : HLe H (upd H p o) := fun a u e => by
  rw [upd_ne (ne_of_none e h)]; exact e
theorem sqL_mono {K : PySem.W.Frag} {F G : Hp} {a : Addr} {vs : List V} (e : HLe F G) (h : SqL K F a vs) : SqL K G a vs := by
  rcases h with (h | ⟨o, h⟩) | h
  · exact .inl (.inl (e _ _ h))
  · exact .inl (.inr ⟨o, e _ _ h⟩)
  · exact .inr h
theorem rd_mono {F G : Hp} {a : Addr} {o : HO} (e : HLe F G) (h : Rd F a o) : Rd G a o := h.elim (fun z => .inl (e _ _ z)) fun ⟨u, z⟩ => .inr ⟨u, e _ _ z⟩
theorem sqB_mono {F G : Hp} {t : Bool} {a : Addr} {vs : List V} (e : HLe F G) (h : SqB F t a vs) : SqB G t a vs := e _ _ h
section
variable {K : PySem.W.Frag} {F G : Hp}
mutual
theorem Rp.mono (e : HLe F G) : ∀ (x : D) (v : V), Rp K F x v → Rp K G x v
  | .non, _, h => by simpa [Rp] using h
  | .bl _, _, h => by simpa [Rp] using h
  | .int _, _, h => by simpa [Rp] using h
  | .str _, _, h => by simpa [Rp] using h
  | .seq t xs, v, h => by
    simp only [Rp] at h ⊢
    obtain ⟨a, vs, e1, h1, h2⟩ := h
    exact ⟨a, vs, e1, sqB_mono e h1, Rps.mono e xs vs h2⟩
  | .dct xs, v, h => by
    simp only [Rp] at h ⊢
    obtain ⟨a, vs, e1, h1, h2⟩ := h
    exact ⟨a, vs, e1, rd_mono e h1, RpK.mono e xs vs h2⟩
  | .dcT xs, v, h => by
    simp only [Rp] at h ⊢
    obtain ⟨a, vs, e1, h1, h2⟩ := h
    exact ⟨a, vs, e1, e _ _ h1, RpT.mono e xs vs h2⟩
  | .scr ns, v, h => by
    simp only [Rp] at h ⊢
    obtain ⟨a, e1, h1⟩ := h
    exact ⟨a, e1, sqL_mono e h1⟩
theorem Rps.mono (e : HLe F G) : ∀ (x : List D) (v : List V), Rps K F x v → Rps K G x v
  | [], _, h => by simpa [Rps] using h
  | x :: xs, v, h => by
    simp only [Rps] at h ⊢
    obtain ⟨v, r, e1, h1, h2⟩ := h
    exact ⟨v, r, e1, Rp.mono e x v h1, Rps.mono e xs r h2⟩
theorem RpK.mono (e : HLe F G) : ∀ (x : List (Key × D)) (v : List (Key × V)), RpK K F x v → RpK K G x v
  | [], _, h => by simpa [RpK] using h
  | (k, x) :: xs, v, h => by
    simp only [RpK] at h ⊢
    obtain ⟨v, r, e1, h1, h2⟩ := h
    exact ⟨v, r, e1, Rp.mono e x v h1, RpK.mono e xs r h2⟩
theorem RpT.mono (e : HLe F G) : ∀ (x : List (List Key × D)) (v : List (List Key × V)), RpT K F x v → RpT K G x v
  | [], _, h => by simpa [RpT] using h
  | (k, x) :: xs, v, h => by
    simp only [RpT] at h ⊢
    obtain ⟨v, r, e1, h1, h2⟩ := h
    exact ⟨v, r, e1, Rp.mono e x v h1, RpT.mono e xs r h2⟩
end
end

/-! ### the state: where the mutable objects lie, what is frozen -/
structure Wd where
  φ : Nat → Addr
  F : Hp
  st : Store
  ex : Option (Addr × Addr) := none

def RelW (K : PySem.W.Frag) (s : Wd) : W → V → Prop
  | .d x, v => Rp K s.F x v
  | .loc n, v => n < s.st.length ∧ v = .ref (s.φ n)
  | .v x, v => v = x
def RelWs (K : PySem.W.Frag) (s : Wd) : List W → List V → Prop := Paired (RelW K s)
def RelKs {κ : Type} (K : PySem.W.Frag) (s : Wd) : List (κ × W) → List (κ × V) → Prop := Paired fun p q => p.1 = q.1 ∧ RelW K s p.2 q.2

def ObjRel (K : PySem.W.Frag) (s : Wd) (H : Hp) (n : Nat) : SO → Prop
  | .lst ws => ∃ vs, H (s.φ n) = some (.lst vs) ∧ s.F (s.φ n) = none ∧ RelWs K s ws vs
  | .tup ws => ∃ vs, H (s.φ n) = some (.tup vs) ∧ s.F (s.φ n) = none ∧ RelWs K s ws vs
  | .dK ws => ∃ vs, H (s.φ n) = some (.dK vs) ∧ s.F (s.φ n) = none ∧ RelKs K s ws vs
  | .dT ws => ∃ vs, H (s.φ n) = some (.dT vs) ∧ s.F (s.φ n) = none ∧ RelKs K s ws vs
  | .frz x => Rp K s.F x (.ref (s.φ n))
  | .tabs T => LamX.Tabs T H

structure OkW (K : PySem.W.Frag) (s : Wd) (H : Hp) : Prop where
  sub : HLe s.F H
  obj : ∀ n so, s.st[n]? = some so → ObjRel K s H n so
  inj : ∀ n m so so', s.st[n]? = some so → s.st[m]? = some so' → so.mut = true → so'.mut = true → s.φ n = s.φ m → n = m
  nt : ∀ a ps, s.F a ≠ some (.tbl ps)

/-- nothing stands at a but, maybe, a table of code objects -/
def Fr (H : Hp) (a : Addr) : Prop := ∀ o, H a = some o → ∃ ps, o = .tbl ps
theorem Fr.of {H : Hp} {a : Addr} (h : H a = none) : Fr H a := fun o e => by rw [h] at e; cases e
theorem Fr.not {H : Hp} {a : Addr} {o : HO} (h : Fr H a) (e : H a = some o) (n : ∀ ps, o ≠ .tbl ps) : False := let ⟨ps, q⟩ := h o e; n ps q
theorem Fr.back {H : Hp} {p a : Addr} {o : HO} (hp : H p = none) (h : Fr (upd H p o) a) : Fr H a := by
  by_cases e : a = p
  · subst e; exact Fr.of hp
  · exact fun u q => h u (by rw [upd_ne e]; exact q)

structure Tr (s : Wd) (H : Hp) (s' : Wd) (H' : Hp) : Prop where
  len : s.st.length ≤ s'.st.length
  phi : ∀ n, n < s.st.length → s'.φ n = s.φ n
  F : HLe s.F s'.F
  frz : ∀ (n : Nat) (so : SO), s.st[n]? = some so → so.mut = false → s'.st[n]? = some so
  new : ∀ n, s.st.length ≤ n → n < s'.st.length → Fr H (s'.φ n)
  keep : ∀ a o, H a = some o → (∀ ps, o ≠ .tbl ps) → (∀ n so, s.st[n]? = some so → so.mut = true → a ≠ s.φ n) → H' a = some o
  dom : ∀ a, Fr H' a → Fr H a
  fnew : ∀ a, s'.F a ≠ none → s.F a ≠ none ∨ Fr H a ∨ ∃ n so, s.st[n]? = some so ∧ so.mut = true ∧ a = s.φ n
  ex : s'.ex = s.ex
  tab : ∀ T, (∀ (n : Nat) (T' : List (Addr × Str)), s.st[n]? = some (SO.tabs T') → T' = T) → LamX.Tabs T H → LamX.Tabs T H'
  tb0 : ∀ (n : Nat) (T' : List (Addr × Str)), s'.st[n]? = some (SO.tabs T') → s.st[n]? = some (SO.tabs T')

theorem Tr.refl (s : Wd) (H : Hp) : Tr s H s H :=
  ⟨Nat.le_refl _, fun _ _ => rfl, HLe.refl _, fun _ _ h _ => h, fun n h1 h2 => absurd h2 (Nat.not_lt.mpr h1), fun _ _ h _ _ => h, fun _ h => h, fun _ h => .inl h, rfl, fun _ _ h => h, fun _ _ h => h⟩
theorem mut_back {s s' : Wd} {H H' : Hp} (t : Tr s H s' H') {n : Nat} (hn : n < s.st.length) {so' : SO} (h : s'.st[n]? = some so') (m : so'.mut = true) : ∃ so, s.st[n]? = some so ∧ so.mut = true := by
  refine ⟨s.st[n], List.getElem?_eq_getElem hn, ?_⟩
  cases e : s.st[n].mut with
  | true => rfl
  | false =>
    have q := t.frz n _ (List.getElem?_eq_getElem hn) e
    rw [q] at h; cases h; rw [e] at m; cases m
theorem Tr.trans {s s1 s2 : Wd} {H H1 H2 : Hp} (a : Tr s H s1 H1) (b : Tr s1 H1 s2 H2) : Tr s H s2 H2 where
  len := Nat.le_trans a.len b.len
  phi := fun n h => (b.phi n (Nat.lt_of_lt_of_le h a.len)).trans (a.phi n h)
  F := a.F.trans b.F
  frz := fun n x h m => b.frz n x (a.frz n x h m) m
  new := fun n h1 h2 => by
    by_cases h : n < s1.st.length
    · rw [b.phi n h]; exact a.new n h1 h
    · exact a.dom _ (b.new n (Nat.le_of_not_lt h) h2)
  keep := fun x o h nt k => by
    refine b.keep x o (a.keep x o h nt k) nt fun n so hn hm => ?_
    by_cases hl : n < s.st.length
    · obtain ⟨so0, h0, m0⟩ := mut_back a hl hn hm
      rw [a.phi n hl]; exact k n so0 h0 m0
    · have q := a.new n (Nat.le_of_not_lt hl) (List.getElem?_eq_some_iff.mp hn).1
      intro e; rw [← e] at q; exact q.not h nt
  dom := fun x h => a.dom x (b.dom x h)
  fnew := fun x h => by
    rcases b.fnew x h with h | h | ⟨n, so, hn, hm, e⟩
    · exact a.fnew x h
    · exact .inr (.inl (a.dom _ h))
    · by_cases hl : n < s.st.length
      · obtain ⟨so0, h0, m0⟩ := mut_back a hl hn hm
        rw [a.phi n hl] at e
        exact .inr (.inr ⟨n, so0, h0, m0, e⟩)
      · have q := a.new n (Nat.le_of_not_lt hl) (List.getElem?_eq_some_iff.mp hn).1
        rw [← e] at q
        exact .inr (.inl q)
  ex := b.ex.trans a.ex
  tab := fun T k h => b.tab T (fun n T' e => k n T' (a.tb0 n T' e)) (a.tab T k h)
  tb0 := fun n T' e => a.tb0 n T' (b.tb0 n T' e)
theorem tabs_put {H : Hp} {a : Addr} {o0 o : HO} {T : List (Addr × Str)} (h : H a = some o0) (nt : ∀ ps, o0 ≠ .tbl ps) (nc : ∀ φ, o0 ≠ .ext φ) (t : LamX.Tabs T H) : LamX.Tabs T (upd H a o) := fun p hp => by
  obtain ⟨ps, h1, h2, h3⟩ := t p hp
  refine ⟨ps, ?_, h2, fun pos cv hc => ?_⟩
  · rw [upd_ne (fun e => by rw [e, h] at h1; exact nt _ (Option.some.inj h1))]; exact h1
  · obtain ⟨c, e1, e2⟩ := h3 pos cv hc
    exact ⟨c, e1, by rw [upd_ne (fun e => by rw [e, h] at e2; exact nc _ (Option.some.inj e2))]; exact e2⟩

section
variable {K : PySem.W.Frag} {s s' : Wd} {H H' : Hp}
theorem RelW.tr (t : Tr s H s' H') : ∀ {w : W} {v : V}, RelW K s w v → RelW K s' w v
  | .d _, _, h => Rp.mono t.F _ _ h
  | .loc n, _, h => ⟨Nat.lt_of_lt_of_le h.1 t.len, by rw [t.phi n h.1]; exact h.2⟩
  | .v _, _, h => h
theorem Paired.imp {α β : Type} {F G : α → β → Prop} (f : ∀ a b, F a b → G a b) : ∀ {l₁ : List α} {l₂ : List β}, Paired F l₁ l₂ → Paired G l₁ l₂
  | _, _, .nil => .nil
  | _, _, .cons r t => .cons (f _ _ r) (Paired.imp f t)
theorem RelWs.tr (t : Tr s H s' H') {ws : List W} {vs : List V} (h : RelWs K s ws vs) : RelWs K s' ws vs := Paired.imp (fun _ _ q => RelW.tr t q) h
theorem RelKs.tr {κ : Type} (t : Tr s H s' H') {ws : List (κ × W)} {vs : List (κ × V)} (h : RelKs K s ws vs) : RelKs K s' ws vs := Paired.imp (fun _ _ q => ⟨q.1, RelW.tr t q.2⟩) h
theorem RelWs.length {ws : List W} {vs : List V} (h : RelWs K s ws vs) : ws.length = vs.length := Paired.length h
end
end IL

set_option maxHeartbeats 4000007
namespace IL
open PySem PySem.Spec
open PyProof.Rows L2

/-! ### results -/
abbrev En := List (Option W)
inductive R (α : Type) where
  | ok (a : α) (st : Store) | ex (c f : Str) (w : W) (st : Store) | bad
def R.bind {α β : Type} (r : R α) (k : α → Store → R β) : R β := match r with
  | .ok a st => k a st
  | .ex c f w st => .ex c f w st
  | .bad => .bad
inductive Fl where
  | nx | rt (w : W) | bk | ct
inductive RS where
  | ok (fl : Fl) (ρ : En) (st : Store) | ex (c f : Str) (w : W) (ρ : En) (st : Store) | bad
abbrev Ex := En → Store → R W
abbrev Sx := En → Store → RS

structure EnvRel (K : PySem.W.Frag) (s : Wd) (σ : L2.St) (ρ : En) : Prop where
  len : σ.length = ρ.length
  get : ∀ (i : Nat) (w : W), ρ[i]? = some (some w) → ∃ v, σ[i]? = some (some v) ∧ RelW K s w v

section
variable {K : PySem.W.Frag} {s s' : Wd} {H H' : Hp} {σ : L2.St} {ρ : En}
theorem EnvRel.tr (t : Tr s H s' H') (e : EnvRel K s σ ρ) : EnvRel K s' σ ρ := ⟨e.len, fun i w h => let ⟨v, h1, h2⟩ := e.get i w h; ⟨v, h1, h2.tr t⟩⟩
theorem EnvRel.set (e : EnvRel K s σ ρ) (i : Nat) {w : W} {v : V} (h : RelW K s w v) : EnvRel K s (σ.set i (some v)) (ρ.set i (some w)) := by
  refine ⟨by simp [e.len], fun j u hj => ?_⟩
  by_cases hij : i = j
  · subst hij
    by_cases hl : i < ρ.length
    · rw [List.getElem?_set_self hl] at hj
      cases hj
      exact ⟨v, by rw [List.getElem?_set_self (by rw [e.len]; exact hl)], h⟩
    · rw [List.getElem?_eq_none (by simpa using hl)] at hj; cases hj
  · rw [List.getElem?_set_ne hij] at hj ⊢
    exact e.get j u hj
theorem EnvRel.wipe1 (e : EnvRel K s σ ρ) (i : Nat) : EnvRel K s (σ.set i none) (ρ.set i none) := by
  refine ⟨by simp [e.len], fun j u hj => ?_⟩
  by_cases hij : i = j
  · subst hij
    by_cases hl : i < ρ.length
    · rw [List.getElem?_set_self hl] at hj; cases hj
    · rw [List.getElem?_eq_none (by simpa using hl)] at hj; cases hj
  · rw [List.getElem?_set_ne hij] at hj ⊢
    exact e.get j u hj
end

/-! ### what is wanted of a result -/
section
variable {α β γ δ : Type}
abbrev Rel (α β : Type) := Wd → α → β → Prop
def Rel.Mono (r : Rel α β) : Prop := ∀ (s s' : Wd) (H H' : Hp) (a : α) (b : β), Tr s H s' H' → r s a b → r s' a b
def PostG (rel : Rel α β) (K : PySem.W.Frag) (mg : Str → Option Value) (Wx : WX) (σ : L2.St) (s : Wd) (H : Hp) (r : R α) (Q : β → Hp → Prop) : Prop := match r with
  | .ok w st' => ∀ v H' s', s'.st = st' → OkW K s' H' → Tr s H s' H' → rel s' w v → Q v H'
  | .ex c f w st' => ∀ C v dd H' s', mg c = some (.ref C) → s'.st = st' → OkW K s' H' → Tr s H s' H' → RelW K s' w v → Fr H dd → s'.F dd = some (.xd [(f, v)]) → Wx (.ref C) (some dd) σ H'
  | .bad => False
def tG (rel : Rel α β) (K : PySem.W.Frag) (mg : Str → Option Value) (Wx : WX) (m : En → Store → R α) : L2.St → Hp → (β → Hp → Prop) → Prop := fun σ H Q =>
  ∃ ρ s, OkW K s H ∧ EnvRel K s σ ρ ∧ PostG rel K mg Wx σ s H (m ρ s.st) Q
variable {K : PySem.W.Frag} {mg : Str → Option Value} {Wx : WX} {σ : L2.St} {s s1 : Wd} {H H1 : Hp} {rel : Rel α β} {rel2 : Rel γ δ} {ρ : En}
theorem PostG.later {r : R α} {Q : β → Hp → Prop} (t : Tr s H s1 H1) (h : PostG rel K mg Wx σ s H r Q) : PostG rel K mg Wx σ s1 H1 r Q := by
  cases r with
  | ok w st' => exact fun v H' s' e o t' q => h v H' s' e o (t.trans t') q
  | ex c f w st' => exact fun C v dd H' s' hc e o t' q hd hF => h C v dd H' s' hc e o (t.trans t') q (t.dom dd hd) hF
  | bad => exact h
theorem PostG.mono {r : R α} {Q Q' : β → Hp → Prop} (h : PostG rel K mg Wx σ s H r Q) (k : ∀ v H', Q v H' → Q' v H') : PostG rel K mg Wx σ s H r Q' := by
  cases r with
  | ok w st' => exact fun v H' s' e o t' q => k _ _ (h v H' s' e o t' q)
  | ex c f w st' => exact h
  | bad => exact h
/-- the result of a sequence: the first, then the second at a state behind it -/
theorem post_bind {r : R α} {k : α → Store → R γ} {Q : δ → Hp → Prop} (h : PostG rel2 K mg Wx σ s H (r.bind k) Q) :
    PostG rel K mg Wx σ s H r (fun v H1 => ∃ w s1, OkW K s1 H1 ∧ Tr s H s1 H1 ∧ rel s1 w v ∧ PostG rel2 K mg Wx σ s1 H1 (k w s1.st) Q) := by
  cases r with
  | ok w st' =>
    intro v H' s' e o t q
    refine ⟨w, s', o, t, q, ?_⟩
    rw [e]
    exact PostG.later t h
  | ex c f w st' => exact h
  | bad => exact h
theorem tg_bind {m : En → Store → R α} {k : α → Store → R γ} {Q : δ → Hp → Prop} (ok : OkW K s H) (en : EnvRel K s σ ρ) (h : PostG rel2 K mg Wx σ s H ((m ρ s.st).bind k) Q) :
    tG rel K mg Wx m σ H (fun v H1 => ∃ w s1, OkW K s1 H1 ∧ Tr s H s1 H1 ∧ rel s1 w v ∧ EnvRel K s1 σ ρ ∧ PostG rel2 K mg Wx σ s1 H1 (k w s1.st) Q) :=
  ⟨ρ, s, ok, en, (post_bind (rel := rel) h).mono fun _ _ ⟨w, s1, o1, t1, r1, p1⟩ => ⟨w, s1, o1, t1, r1, en.tr t1, p1⟩⟩
/-- a value that is there -/
theorem PostG.here {w : α} {v : β} {Q : β → Hp → Prop} (h : PostG rel K mg Wx σ s H (.ok w s.st) Q) (ok : OkW K s H) (r : rel s w v) : Q v H := h v H s rfl ok (Tr.refl s H) r
end

abbrev RelB : Rel Bool Bool := fun _ a b => a = b
abbrev RelOI : Rel (Option Int) (Option Int) := fun _ a b => a = b
abbrev RelH : Rel Unit Unit := fun _ _ _ => True

/-- expressions, tests, arguments -/
def FE (X : Cx) (Wx : WX) (e : Expr) (m : Ex) : Prop := PE X e (tG (RelW X.K) X.K X.mg Wx m)
def FT (X : Cx) (Wx : WX) (e : Expr) (m : En → Store → R Bool) : Prop := PT X e (tG RelB X.K X.mg Wx m)
def FA (X : Cx) (Wx : WX) (es : List Expr) (m : En → Store → R (List W)) : Prop := PA X es (tG (RelWs X.K) X.K X.mg Wx m)
def FO (X : Cx) (Wx : WX) (e : Option Expr) (m : En → Store → R (Option Int)) : Prop := PO X e (tG RelOI X.K X.mg Wx m)
theorem PE.imp {X : Cx} {e : Expr} {t t' : TE} (h : PE X e t) (k : ∀ σ H Q, t' σ H Q → t σ H Q) : PE X e t' := ⟨fun pins s σ H Q I q => h.run pins s σ H Q I (k σ H Q q)⟩
theorem PT.imp {X : Cx} {e : Expr} {t t' : TT} (h : PT X e t) (k : ∀ σ H Q, t' σ H Q → t σ H Q) : PT X e t' := ⟨fun pins s σ H Q I q => h.run pins s σ H Q I (k σ H Q q)⟩
theorem PA.imp {X : Cx} {e : List Expr} {t t' : TA} (h : PA X e t) (k : ∀ σ H Q, t' σ H Q → t σ H Q) : PA X e t' := ⟨fun pos pins s σ H Q I q => h.run pos pins s σ H Q I (k σ H Q q)⟩
theorem PO.imp {X : Cx} {e : Option Expr} {t t' : TO} (h : PO X e t) (k : ∀ σ H Q, t' σ H Q → t σ H Q) : PO X e t' := ⟨fun pins s σ H Q I q => h.run pins s σ H Q I (k σ H Q q)⟩
theorem PS.imp {X : Cx} {e : Stmt} {t t' : TS} (h : PS X e t) (k : ∀ D σ H, t' D σ H → t D σ H) : PS X e t' := ⟨fun pins s σ H D I q => h.run pins s σ H D I (k D σ H q)⟩
theorem PSs.imp {X : Cx} {e : List Stmt} {t t' : TS} (h : PSs X e t) (k : ∀ D σ H, t' D σ H → t D σ H) : PSs X e t' := ⟨fun pins s σ H D I q => h.run pins s σ H D I (k D σ H q)⟩

/-! ### the store's steps -/
def allD : List W → Option (List D)
  | [] => some []
  | .d x :: r => (allD r).map (x :: ·)
  | _ :: _ => none
def ext (s : Wd) (p : Addr) (so : SO) : Wd := { s with φ := fun n => if n = s.st.length then p else s.φ n, st := s.st ++ [so] }
def frzAt (s : Wd) (p : Addr) (o : HO) : Wd := { s with F := upd s.F p o }
def wrt (s : Wd) (n : Nat) (so : SO) : Wd := { s with st := s.st.set n so }
section
variable {K : PySem.W.Frag} {s : Wd} {H : Hp} {p : Addr}
theorem allD_rel : ∀ {ws : List W} {xs : List D} {vs : List V}, allD ws = some xs → RelWs K s ws vs → Rps K s.F xs vs
  | [], xs, vs, h, r => by
    cases h; cases r; simp [Rps]
  | .d x :: r, xs, vs, h, q => by
    cases q with
    | cons h1 h2 =>
      cases e : allD r with
      | none => rw [allD, e] at h; cases h
      | some ys =>
        rw [allD, e] at h; cases h
        simp only [Rps]
        exact ⟨_, _, rfl, h1, allD_rel e h2⟩
  | .loc _ :: _, _, _, h, _ => by cases h
  | .v _ :: _, _, _, h, _ => by cases h
theorem rps_rel : ∀ {xs : List D} {vs : List V}, Rps K s.F xs vs → RelWs K s (xs.map .d) vs
  | [], vs, h => by
    simp only [Rps] at h; subst h; exact .nil
  | x :: xs, vs, h => by
    simp only [Rps] at h
    obtain ⟨v, r, rfl, h1, h2⟩ := h
    exact .cons h1 (rps_rel h2)
theorem OkW.free (ok : OkW K s H) (hp : H p = none) : s.F p = none := by
  cases e : s.F p with
  | none => rfl
  | some o => rw [ok.sub p o e] at hp; cases hp
theorem OkW.at_ (ok : OkW K s H) {n : Nat} {so : SO} (h : s.st[n]? = some so) (m : so.mut = true) : ∃ o, H (s.φ n) = some o ∧ s.F (s.φ n) = none := by
  have q := ok.obj n so h
  cases so with
  | frz x => cases m
  | tabs T => cases m
  | lst ws => obtain ⟨vs, h1, h2, _⟩ := q; exact ⟨_, h1, h2⟩
  | tup ws => obtain ⟨vs, h1, h2, _⟩ := q; exact ⟨_, h1, h2⟩
  | dK ws => obtain ⟨vs, h1, h2, _⟩ := q; exact ⟨_, h1, h2⟩
  | dT ws => obtain ⟨vs, h1, h2, _⟩ := q; exact ⟨_, h1, h2⟩
theorem OkW.notFr (ok : OkW K s H) {n : Nat} {so : SO} (h : s.st[n]? = some so) (m : so.mut = true) (f : Fr H (s.φ n)) : False := by
  have q := ok.obj n so h
  cases so with
  | frz x => cases m
  | tabs T => cases m
  | lst ws => obtain ⟨vs, h1, _⟩ := q; exact f.not h1 fun _ e => by cases e
  | tup ws => obtain ⟨vs, h1, _⟩ := q; exact f.not h1 fun _ e => by cases e
  | dK ws => obtain ⟨vs, h1, _⟩ := q; exact f.not h1 fun _ e => by cases e
  | dT ws => obtain ⟨vs, h1, _⟩ := q; exact f.not h1 fun _ e => by cases e
/-- a new frozen object -/
theorem tr_frz (o : HO) (ok : OkW K s H) (hp : H p = none) : Tr s H (frzAt s p o) (upd H p o) := by
  refine ⟨Nat.le_refl _, fun _ _ => rfl, HLe.upd (ok.free hp), fun _ _ h _ => h, fun n h1 h2 => absurd h2 (Nat.not_lt.mpr h1), fun a u h _ _ => HLe.upd hp a u h, fun a h => ?_, fun a h => ?_, rfl, fun T _ h => h.ext (HLe.upd hp), fun _ _ h => h⟩
  · exact Fr.back hp h
  · by_cases e : a = p
    · subst e; exact .inr (.inl (Fr.of hp))
    · have h' : upd s.F p o a ≠ none := h
      rw [upd_ne e] at h'; exact .inl h'
theorem ok_frz (o : HO) (ok : OkW K s H) (hp : H p = none) (no : ∀ ps, o ≠ .tbl ps := by intro ps e; first | (cases e; done) | (unfold seqO at e; split at e <;> cases e)) : OkW K (frzAt s p o) (upd H p o) := by
  have t := tr_frz (o := o) ok hp
  refine ⟨fun a u h => ?_, fun n so h => ?_, ok.inj, fun a ps h => ?_⟩
  rotate_left 2
  · have h' : upd s.F p o a = some (.tbl ps) := h
    by_cases e : a = p
    · subst e; rw [upd_same] at h'; exact no _ (Option.some.inj h')
    · rw [upd_ne e] at h'; exact ok.nt a ps h'
  · have h' : upd s.F p o a = some u := h
    by_cases e : a = p
    · subst e; rw [upd_same] at h' ⊢; exact h'
    · rw [upd_ne e] at h' ⊢; exact ok.sub a u h'
  · have q := ok.obj n so h
    have ne : so.mut = true → s.φ n ≠ p := fun m e => by
      obtain ⟨u, hu, _⟩ := ok.at_ h m
      rw [e, hp] at hu; cases hu
    cases so with
    | frz x => exact Rp.mono t.F _ _ q
    | tabs T => exact LamX.Tabs.ext q (HLe.upd hp)
    | lst ws => obtain ⟨vs, h1, h2, h3⟩ := q; exact ⟨vs, by show upd H p o (s.φ n) = _; rw [upd_ne (ne rfl)]; exact h1, by show upd s.F p o (s.φ n) = _; rw [upd_ne (ne rfl)]; exact h2, h3.tr t⟩
    | tup ws => obtain ⟨vs, h1, h2, h3⟩ := q; exact ⟨vs, by show upd H p o (s.φ n) = _; rw [upd_ne (ne rfl)]; exact h1, by show upd s.F p o (s.φ n) = _; rw [upd_ne (ne rfl)]; exact h2, h3.tr t⟩
    | dK ws => obtain ⟨vs, h1, h2, h3⟩ := q; exact ⟨vs, by show upd H p o (s.φ n) = _; rw [upd_ne (ne rfl)]; exact h1, by show upd s.F p o (s.φ n) = _; rw [upd_ne (ne rfl)]; exact h2, h3.tr t⟩
    | dT ws => obtain ⟨vs, h1, h2, h3⟩ := q; exact ⟨vs, by show upd H p o (s.φ n) = _; rw [upd_ne (ne rfl)]; exact h1, by show upd s.F p o (s.φ n) = _; rw [upd_ne (ne rfl)]; exact h2, h3.tr t⟩
/-- the state with another object at p: what stays -/
theorem ext_phi {so : SO} {n : Nat} (h : n < s.st.length) : (ext s p so).φ n = s.φ n := if_neg (Nat.ne_of_lt h)
theorem ext_new {so : SO} : (ext s p so).φ s.st.length = p := if_pos rfl
theorem tr_ext {so : SO} {o : HO} (ok : OkW K s H) (hp : H p = none) (hm : so.mut = true := by first | rfl | (split <;> rfl)) : Tr s H (ext s p so) (upd H p o) := by
  refine ⟨by simp [ext], fun n h => ext_phi h, HLe.refl _, fun n x h _ => ?_, fun n h1 h2 => ?_, fun a u h _ _ => HLe.upd hp a u h, fun a h => ?_, fun a h => .inl h, rfl, fun T _ h => h.ext (HLe.upd hp), fun n T' h => ?_⟩
  rotate_right 1
  · have h : (s.st ++ [so])[n]? = some (.tabs T') := h
    by_cases hl : n < s.st.length
    · rw [List.getElem?_append_left hl] at h; exact h
    · rw [List.getElem?_append_right (Nat.le_of_not_lt hl)] at h
      have := List.mem_of_getElem? h
      simp at this
      rw [← this] at hm; cases hm
  · show (s.st ++ [so])[n]? = _
    rw [List.getElem?_append_left (List.getElem?_eq_some_iff.mp h).1]; exact h
  · have : n = s.st.length := by simp [ext] at h2; omega
    rw [this, ext_new]; exact Fr.of hp
  · exact Fr.back hp h
/-- one mutable object more -/
theorem ok_ext {so : SO} {o : HO} (ok : OkW K s H) (hp : H p = none) (hm : so.mut = true) (ho : ObjRel K (ext s p so) (upd H p o) s.st.length so) : OkW K (ext s p so) (upd H p o) := by
  have t : Tr s H (ext s p so) (upd H p o) := tr_ext ok hp hm
  have low : ∀ {n : Nat} {so' : SO}, (s.st ++ [so])[n]? = some so' → (n < s.st.length ∧ s.st[n]? = some so') ∨ (n = s.st.length ∧ so' = so) := fun {n so'} h => by
    by_cases hl : n < s.st.length
    · rw [List.getElem?_append_left hl] at h; exact .inl ⟨hl, h⟩
    · have hl2 := (List.getElem?_eq_some_iff.mp h).1
      have : n = s.st.length := by simp at hl2; omega
      subst this
      rw [List.getElem?_append_right (Nat.le_refl _)] at h
      simp at h
      exact .inr ⟨rfl, h.symm⟩
  have ne : ∀ {n : Nat} {so' : SO}, s.st[n]? = some so' → so'.mut = true → s.φ n ≠ p := fun {n so'} h m e => by
    obtain ⟨u, hu, _⟩ := ok.at_ h m
    rw [e, hp] at hu; cases hu
  refine ⟨fun a u h => HLe.upd hp a u (ok.sub a u h), fun n so' h => ?_, fun n m so1 so2 h1 h2 m1 m2 e => ?_, ok.nt⟩
  · rcases low h with ⟨hl, h'⟩ | ⟨rfl, rfl⟩
    · have q := ok.obj n so' h'
      have ep : (ext s p so).φ n = s.φ n := ext_phi hl
      cases so' with
      | frz x => show Rp K _ x (.ref ((ext s p so).φ n)); rw [ep]; exact q
      | tabs T => exact LamX.Tabs.ext q (HLe.upd hp)
      | lst ws => obtain ⟨vs, q1, q2, q3⟩ := q; exact ⟨vs, by rw [ep, upd_ne (ne h' rfl)]; exact q1, by rw [ep]; exact q2, q3.tr t⟩
      | tup ws => obtain ⟨vs, q1, q2, q3⟩ := q; exact ⟨vs, by rw [ep, upd_ne (ne h' rfl)]; exact q1, by rw [ep]; exact q2, q3.tr t⟩
      | dK ws => obtain ⟨vs, q1, q2, q3⟩ := q; exact ⟨vs, by rw [ep, upd_ne (ne h' rfl)]; exact q1, by rw [ep]; exact q2, q3.tr t⟩
      | dT ws => obtain ⟨vs, q1, q2, q3⟩ := q; exact ⟨vs, by rw [ep, upd_ne (ne h' rfl)]; exact q1, by rw [ep]; exact q2, q3.tr t⟩
    · exact ho
  · rcases low h1 with ⟨l1, h1'⟩ | ⟨r1, e1⟩ <;> rcases low h2 with ⟨l2, h2'⟩ | ⟨r2, e2⟩
    · rw [ext_phi l1, ext_phi l2] at e; exact ok.inj n m so1 so2 h1' h2' m1 m2 e
    · rw [ext_phi l1, r2, ext_new] at e; exact absurd e (ne h1' m1)
    · rw [ext_phi l2, r1, ext_new] at e; exact absurd e.symm (ne h2' m2)
    · exact r1.trans r2.symm
/-- a mutable object is written -/
theorem tabs_wrt {n : Nat} {so : SO} {o : HO} {T : List (Addr × Str)} (ok : OkW K s H) (h : s.st[n]? = some so) (m : so.mut = true) (hT : LamX.Tabs T H) : LamX.Tabs T (upd H (s.φ n) o) := by
  obtain ⟨u, hu, n1, n2⟩ : ∃ u, H (s.φ n) = some u ∧ (∀ ps, u ≠ .tbl ps) ∧ ∀ φ, u ≠ .ext φ := by
    have q := ok.obj n so h
    cases so with
    | frz x => cases m
    | tabs T => cases m
    | lst ws => obtain ⟨vs, h1, _⟩ := q; exact ⟨_, h1, fun _ e => (by cases e), fun _ e => (by cases e)⟩
    | tup ws => obtain ⟨vs, h1, _⟩ := q; exact ⟨_, h1, fun _ e => (by cases e), fun _ e => (by cases e)⟩
    | dK ws => obtain ⟨vs, h1, _⟩ := q; exact ⟨_, h1, fun _ e => (by cases e), fun _ e => (by cases e)⟩
    | dT ws => obtain ⟨vs, h1, _⟩ := q; exact ⟨_, h1, fun _ e => (by cases e), fun _ e => (by cases e)⟩
  exact tabs_put hu n1 n2 hT
theorem tr_wrt {n : Nat} {so so' : SO} {o : HO} (ok : OkW K s H) (h : s.st[n]? = some so) (m : so.mut = true) (no : ∀ ps, o ≠ .tbl ps := by intro ps e; first | (cases e; done) | (unfold seqO at e; split at e <;> cases e)) (m' : so'.mut = true := by rfl) : Tr s H (wrt s n so') (upd H (s.φ n) o) := by
  refine ⟨by simp [wrt], fun _ _ => rfl, HLe.refl _, fun k x hk mk => ?_, fun k h1 h2 => ?_, fun a u ha _ k => ?_, fun a ha => ?_, fun a ha => .inl ha, rfl, fun T _ hT => ?_, fun k T' hk => ?_⟩
  rotate_right 1
  · have hk : (s.st.set n so')[k]? = some (.tabs T') := hk
    by_cases e : n = k
    · subst e
      rw [List.getElem?_set_self (List.getElem?_eq_some_iff.mp h).1] at hk
      cases hk; cases m'
    · rw [List.getElem?_set_ne e] at hk; exact hk
  · show (s.st.set n so')[k]? = _
    by_cases e : n = k
    · subst e; rw [h] at hk; cases hk; rw [m] at mk; cases mk
    · rw [List.getElem?_set_ne e]; exact hk
  · simp [wrt] at h2; omega
  · rw [upd_ne (k n so h m)]; exact ha
  · by_cases e : a = s.φ n
    · subst e; exact (ha.not upd_same no).elim
    · exact fun u q => ha u (by rw [upd_ne e]; exact q)
  · exact tabs_wrt ok h m hT
theorem ok_wrt {n : Nat} {so so' : SO} {o : HO} (ok : OkW K s H) (h : s.st[n]? = some so) (m : so.mut = true) (m' : so'.mut = true) (ho : ObjRel K (wrt s n so') (upd H (s.φ n) o) n so') (no : ∀ ps, o ≠ .tbl ps := by intro ps e; first | (cases e; done) | (unfold seqO at e; split at e <;> cases e)) : OkW K (wrt s n so') (upd H (s.φ n) o) := by
  have t : Tr s H (wrt s n so') (upd H (s.φ n) o) := tr_wrt ok h m no m'
  have hl := (List.getElem?_eq_some_iff.mp h).1
  have cs : ∀ {k : Nat} {u : SO}, (s.st.set n so')[k]? = some u → (k = n ∧ u = so') ∨ (k ≠ n ∧ s.st[k]? = some u) := fun {k u} hk => by
    by_cases e : n = k
    · subst e; rw [List.getElem?_set_self hl] at hk; cases hk; exact .inl ⟨rfl, rfl⟩
    · rw [List.getElem?_set_ne e] at hk; exact .inr ⟨fun z => e z.symm, hk⟩
  have mb : ∀ {k : Nat} {u : SO}, (s.st.set n so')[k]? = some u → u.mut = true → ∃ u', s.st[k]? = some u' ∧ u'.mut = true := fun {k u} hk mu => by
    rcases cs hk with ⟨rfl, rfl⟩ | ⟨_, q⟩
    · exact ⟨so, h, m⟩
    · exact ⟨u, q, mu⟩
  refine ⟨fun a u ha => ?_, fun k u hk => ?_, fun a b u1 u2 h1 h2 m1 m2 e => ?_, ok.nt⟩
  · have hn : a ≠ s.φ n := fun z => by
      obtain ⟨_, _, q⟩ := ok.at_ h m
      rw [← z] at q
      have ha' : s.F a = some u := ha
      rw [q] at ha'; cases ha'
    rw [upd_ne hn]; exact ok.sub a u ha
  · rcases cs hk with ⟨rfl, rfl⟩ | ⟨ne, q⟩
    · exact ho
    · have r := ok.obj k u q
      have np : u.mut = true → s.φ k ≠ s.φ n := fun mu e => ne (ok.inj k n u so q h mu m e)
      cases u with
      | frz x => exact r
      | tabs T => exact tabs_wrt ok h m r
      | lst ws => obtain ⟨vs, q1, q2, q3⟩ := r; exact ⟨vs, by show upd H (s.φ n) o (s.φ k) = _; rw [upd_ne (np rfl)]; exact q1, q2, q3.tr t⟩
      | tup ws => obtain ⟨vs, q1, q2, q3⟩ := r; exact ⟨vs, by show upd H (s.φ n) o (s.φ k) = _; rw [upd_ne (np rfl)]; exact q1, q2, q3.tr t⟩
      | dK ws => obtain ⟨vs, q1, q2, q3⟩ := r; exact ⟨vs, by show upd H (s.φ n) o (s.φ k) = _; rw [upd_ne (np rfl)]; exact q1, q2, q3.tr t⟩
      | dT ws => obtain ⟨vs, q1, q2, q3⟩ := r; exact ⟨vs, by show upd H (s.φ n) o (s.φ k) = _; rw [upd_ne (np rfl)]; exact q1, q2, q3.tr t⟩
  · obtain ⟨v1, e1, n1⟩ := mb h1 m1
    obtain ⟨v2, e2, n2⟩ := mb h2 m2
    exact ok.inj a b v1 v2 e1 e2 n1 n2 e
end

/-! ### making sequences -/
/-- a new list (t: tuple): frozen where fz, and all items are data -/
def mkSeq (fz t : Bool) (ws : List W) (st : Store) : R W :=
  match (if fz = true then allD ws else none) with
  | some xs => .ok (.d (.seq t xs)) st
  | none => .ok (.loc st.length) (st ++ [if t = true then .tup ws else .lst ws])
section
variable {K : PySem.W.Frag} {mg : Str → Option Value} {Wx : WX} {σ : L2.St} {s : Wd} {H : Hp} {p : Addr} {Q : V → Hp → Prop}
theorem post_frz {t : Bool} {xs : List D} {vs : List V} (h : PostG (RelW K) K mg Wx σ s H (.ok (.d (.seq t xs)) s.st) Q) (ok : OkW K s H) (r : Rps K s.F xs vs) (hp : H p = none) :
    Q (.ref p) (upd H p (seqO t vs)) := by
  refine h (.ref p) _ (frzAt s p (seqO t vs)) rfl (ok_frz _ ok hp) (tr_frz _ ok hp) ?_
  show Rp K _ (.seq t xs) _
  simp only [Rp]
  exact ⟨p, vs, rfl, upd_same, Rps.mono (tr_frz _ ok hp).F xs vs r⟩
theorem post_alloc {t : Bool} {ws : List W} {vs : List V} (h : PostG (RelW K) K mg Wx σ s H (.ok (.loc s.st.length) (s.st ++ [if t = true then .tup ws else .lst ws])) Q) (ok : OkW K s H) (r : RelWs K s ws vs) (hp : H p = none) :
    Q (.ref p) (upd H p (seqO t vs)) := by
  refine h (.ref p) _ (ext s p (if t = true then .tup ws else .lst ws)) rfl (ok_ext ok hp (by cases t <;> rfl) ?_) (tr_ext ok hp) ⟨by simp [ext], by rw [ext_new]⟩
  have tr : Tr s H (ext s p (if t = true then .tup ws else .lst ws)) (upd H p (seqO t vs)) := tr_ext ok hp
  cases t with
  | true => exact ⟨vs, by rw [ext_new]; exact upd_same, by rw [ext_new]; exact ok.free hp, r.tr tr⟩
  | false => exact ⟨vs, by rw [ext_new]; exact upd_same, by rw [ext_new]; exact ok.free hp, r.tr tr⟩
theorem post_seq {fz t : Bool} {ws : List W} {vs : List V} (h : PostG (RelW K) K mg Wx σ s H (mkSeq fz t ws s.st) Q) (ok : OkW K s H) (r : RelWs K s ws vs) (hp : H p = none) :
    Q (.ref p) (upd H p (seqO t vs)) := by
  unfold mkSeq at h
  cases fz with
  | false => exact post_alloc h ok r hp
  | true =>
    cases e : allD ws with
    | none =>
      simp only [e, if_true] at h
      exact post_alloc h ok r hp
    | some xs =>
      simp only [e, if_true] at h
      exact post_frz h ok (allD_rel e r) hp
end
end IL

set_option maxHeartbeats 4000007
namespace IL
open PySem PySem.Spec
open PyProof.Rows L2

/-! ### a value seen through the store -/
inductive Vw where
  | non | bl (b : Bool) | int (i : Int) | str (x : Str) | sq (t : Bool) (ws : List W) | dk (kvs : List (Key × W)) | dt (kvs : List (List Key × W)) | scr (ns : List Int) | bad
def vwD : D → Vw
  | .non => .non | .bl b => .bl b | .int i => .int i | .str x => .str x
  | .seq t xs => .sq t (xs.map .d)
  | .dct kvs => .dk (kvs.map fun p => (p.1, .d p.2))
  | .dcT kvs => .dt (kvs.map fun p => (p.1, .d p.2))
  | .scr ns => .scr ns
def vwS : SO → Vw
  | .lst ws => .sq false ws | .tup ws => .sq true ws | .dK k => .dk k | .dT k => .dt k | .frz x => vwD x | .tabs _ => .bad
def vw (st : Store) : W → Vw
  | .d x => vwD x
  | .loc n => match st[n]? with
    | some so => vwS so
    | none => .bad
  | .v _ => .bad
def VwRel (K : PySem.W.Frag) (s : Wd) (H : Hp) : Vw → V → Prop
  | .non, v => v = .non | .bl b, v => v = .bl b | .int i, v => v = .int i | .str x, v => v = .str x
  | .sq t ws, v => ∃ a vs, v = .ref a ∧ H a = some (seqO t vs) ∧ RelWs K s ws vs
  | .dk kvs, v => ∃ a ps, v = .ref a ∧ Rd H a (.dK ps) ∧ RelKs K s kvs ps
  | .dt kvs, v => ∃ a ps, v = .ref a ∧ H a = some (.dT ps) ∧ RelKs K s kvs ps
  | .scr ns, v => ∃ a, v = .ref a ∧ SqL K H a (ns.map V.int)
  | .bad, _ => True
section
variable {K : PySem.W.Frag} {s : Wd} {H : Hp}
theorem rpK_rel : ∀ {xs : List (Key × D)} {vs : List (Key × V)}, RpK K s.F xs vs → RelKs K s (xs.map fun p => (p.1, W.d p.2)) vs
  | [], vs, h => by simp only [RpK] at h; subst h; exact .nil
  | (k, x) :: xs, vs, h => by
    simp only [RpK] at h
    obtain ⟨v, r, rfl, h1, h2⟩ := h
    exact .cons ⟨rfl, h1⟩ (rpK_rel h2)
theorem rpT_rel : ∀ {xs : List (List Key × D)} {vs : List (List Key × V)}, RpT K s.F xs vs → RelKs K s (xs.map fun p => (p.1, W.d p.2)) vs
  | [], vs, h => by simp only [RpT] at h; subst h; exact .nil
  | (k, x) :: xs, vs, h => by
    simp only [RpT] at h
    obtain ⟨v, r, rfl, h1, h2⟩ := h
    exact .cons ⟨rfl, h1⟩ (rpT_rel h2)
theorem vwD_ok (hs : HLe s.F H) {x : D} {v : V} (h : Rp K s.F x v) : VwRel K s H (vwD x) v := by
  cases x with
  | non => simp only [Rp] at h; exact h
  | bl b => simp only [Rp] at h; exact h
  | int b => simp only [Rp] at h; exact h
  | str b => simp only [Rp] at h; exact h
  | seq t xs =>
    simp only [Rp] at h
    obtain ⟨a, vs, e, h1, h2⟩ := h
    exact ⟨a, vs, e, hs _ _ h1, rps_rel h2⟩
  | dct xs =>
    simp only [Rp] at h
    obtain ⟨a, vs, e, h1, h2⟩ := h
    exact ⟨a, vs, e, rd_mono hs h1, rpK_rel h2⟩
  | dcT xs =>
    simp only [Rp] at h
    obtain ⟨a, vs, e, h1, h2⟩ := h
    exact ⟨a, vs, e, hs _ _ h1, rpT_rel h2⟩
  | scr ns =>
    simp only [Rp] at h
    obtain ⟨a, e, h1⟩ := h
    exact ⟨a, e, sqL_mono hs h1⟩
theorem vw_ok (ok : OkW K s H) {w : W} {v : V} (h : RelW K s w v) : VwRel K s H (vw s.st w) v := by
  cases w with
  | d x => exact vwD_ok ok.sub h
  | v x => trivial
  | loc n =>
    obtain ⟨hl, e⟩ := h
    have hg : s.st[n]? = some s.st[n] := List.getElem?_eq_getElem hl
    have q := ok.obj n _ hg
    simp only [vw, hg]
    cases es : s.st[n] with
    | lst ws => rw [es] at q; obtain ⟨vs, q1, _, q3⟩ := q; exact ⟨_, vs, e, q1, q3⟩
    | tup ws => rw [es] at q; obtain ⟨vs, q1, _, q3⟩ := q; exact ⟨_, vs, e, q1, q3⟩
    | dK ws => rw [es] at q; obtain ⟨vs, q1, _, q3⟩ := q; exact ⟨_, vs, e, .inl q1, q3⟩
    | dT ws => rw [es] at q; obtain ⟨vs, q1, _, q3⟩ := q; exact ⟨_, vs, e, q1, q3⟩
    | frz x => rw [es] at q; rw [e]; exact vwD_ok ok.sub q
    | tabs T => trivial
end
theorem seqO_t {vs : List V} : seqO true vs = .tup vs := rfl
theorem seqO_f {vs : List V} : seqO false vs = .lst vs := rfl

/-! ### a value read in depth -/
def mapO {α β : Type} (f : α → Option β) : List α → Option (List β)
  | [] => some []
  | a :: r => match f a with
    | none => none
    | some b => match mapO f r with
      | none => none
      | some bs => some (b :: bs)
def deepW : Nat → Store → W → Option D
  | _, _, .d x => some x
  | 0, _, .loc _ => none
  | _, _, .v _ => none
  | k + 1, st, .loc n => match st[n]? with
    | some (.lst ws) => (mapO (deepW k st) ws).map (.seq false)
    | some (.tup ws) => (mapO (deepW k st) ws).map (.seq true)
    | some (.frz x) => some x
    | _ => none
def wD (st : Store) (w : W) : Option D := match w with
  | .d x => some x
  | w => deepW st.length st w
theorem mapO_rel {α β γ : Type} {f : α → Option β} {P : α → γ → Prop} {Q : β → γ → Prop} (h : ∀ a b c, f a = some b → P a c → Q b c) : ∀ {as : List α} {bs : List β} {cs : List γ}, mapO f as = some bs → Paired P as cs → Paired Q bs cs
  | [], bs, cs, e, r => by cases e; cases r; exact .nil
  | a :: as, bs, cs, e, r => by
    cases r with
    | cons r1 r2 =>
      unfold mapO at e
      cases ea : f a with
      | none => rw [ea] at e; cases e
      | some b =>
        cases er : mapO f as with
        | none => rw [ea, er] at e; cases e
        | some br =>
          rw [ea, er] at e; cases e
          exact .cons (h _ _ _ ea r1) (mapO_rel h er r2)
section
variable {K : PySem.W.Frag} {s : Wd} {H : Hp}
theorem rps_of {F : Hp} : ∀ {xs : List D} {vs : List V}, Paired (Rp K F) xs vs → Rps K F xs vs
  | _, _, .nil => by simp [Rps]
  | _, _, .cons h t => by simp only [Rps]; exact ⟨_, _, rfl, h, rps_of t⟩
theorem rps_to {F : Hp} : ∀ {xs : List D} {vs : List V}, Rps K F xs vs → Paired (Rp K F) xs vs
  | [], vs, h => by simp only [Rps] at h; subst h; exact .nil
  | x :: xs, vs, h => by
    simp only [Rps] at h
    obtain ⟨v, r, rfl, h1, h2⟩ := h
    exact .cons h1 (rps_to h2)
theorem deep_ok (ok : OkW K s H) : ∀ (k : Nat) (w : W) (x : D) (v : V), deepW k s.st w = some x → RelW K s w v → Rp K H x v
  | k, .d y, x, v, e, h => by
    have : y = x := by cases k <;> (simp only [deepW] at e; exact Option.some.inj e)
    subst this
    exact Rp.mono ok.sub _ _ h
  | 0, .loc n, x, v, e, h => by simp [deepW] at e
  | 0, .v n, x, v, e, h => by simp [deepW] at e
  | k + 1, .v n, x, v, e, h => by simp [deepW] at e
  | k + 1, .loc n, x, v, e, h => by
    obtain ⟨hl, ev⟩ := h
    have hg : s.st[n]? = some s.st[n] := List.getElem?_eq_getElem hl
    have q := ok.obj n _ hg
    simp only [deepW, hg] at e
    cases es : s.st[n] with
    | lst ws =>
      rw [es] at q e
      obtain ⟨vs, q1, _, q3⟩ := q
      simp only at e
      cases em : mapO (deepW k s.st) ws with
      | none => rw [em] at e; cases e
      | some xs =>
        rw [em] at e; cases e
        simp only [Rp]
        exact ⟨_, vs, ev, q1, rps_of (mapO_rel (fun a b c h1 h2 => deep_ok ok k a b c h1 h2) em q3)⟩
    | tup ws =>
      rw [es] at q e
      obtain ⟨vs, q1, _, q3⟩ := q
      simp only at e
      cases em : mapO (deepW k s.st) ws with
      | none => rw [em] at e; cases e
      | some xs =>
        rw [em] at e; cases e
        simp only [Rp]
        exact ⟨_, vs, ev, q1, rps_of (mapO_rel (fun a b c h1 h2 => deep_ok ok k a b c h1 h2) em q3)⟩
    | dK ws => rw [es] at e; cases e
    | dT ws => rw [es] at e; cases e
    | tabs T => rw [es] at e; cases e
    | frz y =>
      rw [es] at q e
      cases e
      rw [ev]
      exact Rp.mono ok.sub _ _ q
theorem wD_ok (ok : OkW K s H) {w : W} {x : D} {v : V} (e : wD s.st w = some x) (h : RelW K s w v) : Rp K H x v := by
  cases w with
  | d y => cases e; exact Rp.mono ok.sub _ _ h
  | loc n => exact deep_ok ok _ _ _ _ e h
  | v n => exact deep_ok ok _ _ _ _ e h
end

/-! ### data as the library's data -/
mutual
def toPy : D → PyData
  | .non => .none | .bl b => .bool b | .int i => .int i | .str x => .str x
  | .seq t xs => if t = true then .tuple (toPys xs) else .list (toPys xs)
  | .dct _ => .dict [] | .dcT _ => .dict [] | .scr _ => .dict []
def toPys : List D → List PyData
  | [] => []
  | x :: xs => toPy x :: toPys xs
end
theorem toPys_map : ∀ xs : List D, toPys xs = xs.map toPy
  | [] => rfl
  | x :: xs => by simp only [toPys, List.map_cons, toPys_map xs]
section
variable {K : PySem.W.Frag} {H : Hp}
mutual
theorem rp_dp : ∀ (x : D) (v : V), Rp K H x v → (toPy x).plain = true → Dp K H v (toPy x)
  | .non, v, h, _ => by simp only [Rp] at h; subst h; exact .non
  | .bl b, v, h, _ => by simp only [Rp] at h; subst h; exact .bl b
  | .int b, v, h, _ => by simp only [Rp] at h; subst h; exact .int b
  | .str b, v, h, _ => by simp only [Rp] at h; subst h; exact .str b
  | .seq t xs, v, h, p => by
    simp only [Rp] at h
    obtain ⟨a, vs, rfl, h1, h2⟩ := h
    cases t with
    | true =>
      simp only [toPy, if_true] at p ⊢
      exact .tup (.inl (.inl h1)) (rps_dp xs vs h2 (by simpa [PyData.plain] using p))
    | false =>
      simp only [toPy, Bool.false_eq_true, if_false] at p ⊢
      exact .lst (.inl (.inl h1)) (rps_dp xs vs h2 (by simpa [PyData.plain] using p))
  | .dct _, v, h, p => by simp [toPy, PyData.plain] at p
  | .dcT _, v, h, p => by simp [toPy, PyData.plain] at p
  | .scr _, v, h, p => by simp [toPy, PyData.plain] at p
theorem rps_dp : ∀ (xs : List D) (vs : List V), Rps K H xs vs → PyData.plainAll (toPys xs) = true → DpAll K H vs (toPys xs)
  | [], vs, h, _ => by simp only [Rps] at h; subst h; exact .nil
  | x :: xs, vs, h, p => by
    simp only [Rps] at h
    obtain ⟨v, r, rfl, h1, h2⟩ := h
    simp only [toPys, PyData.plainAll, Bool.and_eq_true] at p ⊢
    exact .cons (rp_dp x v h1 p.1) (rps_dp xs r h2 p.2)
end
end
def plD (x : D) : Bool := (toPy x).plain && decide ((toPy x).depth ≤ 60)
def eqD (x y : D) : Bool := PyData.eqv (toPy x) (toPy y)
def ltD (x y : D) : Bool := PySem.W.dataLt (toPy x) (toPy y)
def alD (x y : D) : Bool := PySem.W.alike (toPy x) (toPy y) && (match x with | .non => false | _ => true) && plD x && plD y
theorem reads_of {X : Cx} {pins : List (Addr × Obj)} {σ : L2.St} {H : Hp} {s : Shared} (I : Inv X pins σ H s) {x : D} {v : V} {u : Value} (h : Rp X.K H x v) (r : RelV v u) (p : plD x = true) :
    ∃ as, Reads s.heap u (toPy x) as := by
  unfold plD at p
  simp only [Bool.and_eq_true] at p
  exact Dp.reads I _ v u (rp_dp x v h p.1) r

/-! ### operators by values -/
abbrev O := Option (W × Store)
def R.of (o : O) : R W := match o with
  | some (w, st) => .ok w st
  | none => .bad
def PostO (K : PySem.W.Frag) (s : Wd) (H : Hp) (r : O) (Q : V → Hp → Prop) : Prop := match r with
  | some (w, st') => ∀ v H' s', s'.st = st' → OkW K s' H' → Tr s H s' H' → RelW K s' w v → Q v H'
  | none => False
theorem postO_of {K : PySem.W.Frag} {mg : Str → Option Value} {Wx : WX} {σ : L2.St} {s : Wd} {H : Hp} {o : O} {Q : V → Hp → Prop} (h : PostG (RelW K) K mg Wx σ s H (R.of o) Q) : PostO K s H o Q := by
  cases o with
  | none => exact h
  | some p => exact h
theorem PostO.here {K : PySem.W.Frag} {s : Wd} {H : Hp} {w : W} {v : V} {Q : V → Hp → Prop} (h : PostO K s H (some (w, s.st)) Q) (ok : OkW K s H) (r : RelW K s w v) : Q v H := h v H s rfl ok (Tr.refl s H) r
def mkS (fz t : Bool) (ws : List W) (st : Store) : O :=
  match (if fz = true then allD ws else none) with
  | some xs => some (.d (.seq t xs), st)
  | none => some (.loc st.length, st ++ [if t = true then .tup ws else .lst ws])
theorem mkS_of {fz t : Bool} {ws : List W} {st : Store} : mkSeq fz t ws st = R.of (mkS fz t ws st) := by
  unfold mkSeq mkS
  cases (if fz = true then allD ws else none) <;> rfl
theorem postO_seq {K : PySem.W.Frag} {s : Wd} {H : Hp} {p : Addr} {Q : V → Hp → Prop} {fz t : Bool} {ws : List W} {vs : List V} (h : PostO K s H (mkS fz t ws s.st) Q) (ok : OkW K s H) (r : RelWs K s ws vs) (hp : H p = none) :
    Q (.ref p) (upd H p (seqO t vs)) := by
  have h' : PostG (RelW K) K (fun _ => none) (fun _ _ _ _ => False) [] s H (mkSeq fz t ws s.st) Q := by
    rw [mkS_of]
    cases e : mkS fz t ws s.st with
    | none => rw [e] at h; exact h
    | some q => rw [e] at h; exact h
  exact post_seq h' ok r hp

def rW (K : PySem.W.Frag) (f : W → W → Store → O) : R2 := fun x y H Q => ∃ s a b, OkW K s H ∧ RelW K s a x ∧ RelW K s b y ∧ PostO K s H (f a b s.st) Q
def rW1 (K : PySem.W.Frag) (f : W → Store → O) : V → Hp → VK → Prop := fun x H Q => ∃ s a, OkW K s H ∧ RelW K s a x ∧ PostO K s H (f a s.st) Q
def rWs (K : PySem.W.Frag) (f : List W → Store → O) : List V → Hp → VK → Prop := fun xs H Q => ∃ s ws, OkW K s H ∧ RelWs K s ws xs ∧ PostO K s H (f ws s.st) Q
def rWm (K : PySem.W.Frag) (f : W → List W → Store → O) : V → List V → Hp → VK → Prop := fun x xs H Q => ∃ s a ws, OkW K s H ∧ RelW K s a x ∧ RelWs K s ws xs ∧ PostO K s H (f a ws s.st) Q

abbrev Un (X : Cx) : Prop := X.A.units + 100 < cLine
theorem un_of {k : Nat} {X : Cx} (r : Room k X.A) : Un X := by have := r.un; show X.A.units + 100 < cLine; omega

/-! ### numbers, + -/
def oAdd (fz : Bool) (a b : W) (st : Store) : O := match vw st a, vw st b with
  | .int i, .int j => some (.d (.int (i + j)), st)
  | .str x, .str y => if x.length + y.length ≤ sizeLine then some (.d (.str (x ++ y)), st) else none
  | .sq false xs, .sq false ys => if xs.length + ys.length ≤ sizeLine then mkS fz false (xs ++ ys) st else none
  | _, _ => none
def oSub (a b : W) (st : Store) : O := match vw st a, vw st b with
  | .int i, .int j => some (.d (.int (i - j)), st)
  | _, _ => none
def mulOk (i j : Int) : Bool := decide (i.natAbs < 2 ^ 64) || decide (j.natAbs < 2 ^ 64) || decide (i.natAbs.log2 + j.natAbs.log2 + 2 ≤ 1000000)
def oMul (fz : Bool) (a b : W) (st : Store) : O := match vw st a, vw st b with
  | .int i, .int j => if mulOk i j = true then some (.d (.int (i * j)), st) else none
  | .sq false xs, .int k => if 0 ≤ k ∧ k < 2 ^ 63 ∧ xs.length * k.toNat ≤ sizeLine then mkS fz false (List.replicate k.toNat xs).flatten st else none
  | _, _ => none
def oMod (a b : W) (st : Store) : O := match vw st a, vw st b with
  | .int i, .int j => if 0 < j then some (.d (.int (i % j)), st) else none
  | _, _ => none
def oDiv (a b : W) (st : Store) : O := match vw st a, vw st b with
  | .int i, .int j => if 0 < j ∧ j < 1073741824 then some (.d (.int (i / j)), st) else none
  | _, _ => none
def oPow (a b : W) (st : Store) : O := match vw st a, vw st b with
  | .int i, .int j => if 0 ≤ j ∧ j ≤ 1000000 ∧ i.natAbs < 2 ^ 64 then some (.d (.int (i ^ j.toNat)), st) else none
  | _, _ => none
def oNeg (a : W) (st : Store) : O := match vw st a with
  | .int i => some (.d (.int (-i)), st)
  | _ => none
section
variable {X : Cx}
theorem relWs_append {K : PySem.W.Frag} {s : Wd} : ∀ {xs ys : List W} {us vs : List V}, RelWs K s xs us → RelWs K s ys vs → RelWs K s (xs ++ ys) (us ++ vs)
  | _, _, _, _, .nil, q => q
  | _, _, _, _, .cons h t, q => .cons h (relWs_append t q)
theorem relWs_rep {K : PySem.W.Frag} {s : Wd} {xs : List W} {us : List V} (h : RelWs K s xs us) : ∀ n, RelWs K s (List.replicate n xs).flatten (List.replicate n us).flatten
  | 0 => .nil
  | n + 1 => by
    rw [List.replicate_succ, List.flatten_cons, List.replicate_succ, List.flatten_cons]
    exact relWs_append h (relWs_rep h n)
theorem vw2 {K : PySem.W.Frag} {s : Wd} {H : Hp} {a b : W} {x y : V} {Q : V → Hp → Prop} {f : Vw → Vw → Store → O} (ok : OkW K s H) (ra : RelW K s a x) (rb : RelW K s b y) (h : PostO K s H (f (vw s.st a) (vw s.st b) s.st) Q) {P : Prop}
    (k : ∀ p q, VwRel K s H p x → VwRel K s H q y → PostO K s H (f p q s.st) Q → P) : P := k _ _ (vw_ok ok ra) (vw_ok ok rb) h
theorem op_addW {fz : Bool} : OpR X (binaryOp .Add) (rW X.K (oAdd fz)) := by
  intro pins s σ H x y v u Q I rx ry h
  obtain ⟨s', a, b, ok, ra, rb, h⟩ := h
  have pa := vw_ok ok ra
  have pb := vw_ok ok rb
  unfold oAdd at h
  split at h
  · rename_i i j ea eb
    rw [ea] at pa; rw [eb] at pb
    exact op_add pins s σ H x y v u Q I rx ry ⟨i, j, pa, pb, h.here ok (by show Rp _ _ _ _; simp [Rp])⟩
  · rename_i i j ea eb
    rw [ea] at pa; rw [eb] at pb
    split at h
    · rename_i hl
      exact op_add_str pins s σ H x y v u Q I rx ry ⟨i, j, pa, pb, hl, h.here ok (by show Rp _ _ _ _; simp [Rp])⟩
    · exact h.elim
  · rename_i i j ea eb
    rw [ea] at pa; rw [eb] at pb
    split at h
    · rename_i hl
      obtain ⟨p, us, e1, h1, r1⟩ := pa
      obtain ⟨q, vs, e2, h2, r2⟩ := pb
      refine op_cat pins s σ H x y v u Q I rx ry ⟨p, q, us, vs, e1, e2, h1, h2, by rw [← r1.length, ← r2.length]; exact hl, fun z hz => ?_⟩
      exact postO_seq h ok (relWs_append r1 r2) hz
    · exact h.elim
  · exact h.elim
theorem op_subW : OpR X (binaryOp .Sub) (rW X.K oSub) := by
  intro pins s σ H x y v u Q I rx ry h
  obtain ⟨s', a, b, ok, ra, rb, h⟩ := h
  have pa := vw_ok ok ra
  have pb := vw_ok ok rb
  unfold oSub at h
  split at h
  · rename_i i j ea eb
    rw [ea] at pa; rw [eb] at pb
    exact op_sub pins s σ H x y v u Q I rx ry ⟨i, j, pa, pb, h.here ok (by show Rp _ _ _ _; simp [Rp])⟩
  · exact h.elim
theorem mulOk_ok {i j : Int} (h : mulOk i j = true) : CMul i j ∨ CMulW i j := by
  unfold mulOk at h
  simp only [Bool.or_eq_true, decide_eq_true_eq] at h
  rcases h with (h | h) | h
  · exact .inl (.inl (by omega))
  · exact .inl (.inr (by omega))
  · refine .inr (wide_mul (a := i.natAbs.log2 + 1) (b := j.natAbs.log2 + 1) Nat.lt_log2_self Nat.lt_log2_self (by omega) (by omega) (by omega))
theorem op_mulW2 {fz : Bool} : OpR X (binaryOp .Mult) (rW X.K (oMul fz)) := by
  intro pins s σ H x y v u Q I rx ry h
  obtain ⟨s', a, b, ok, ra, rb, h⟩ := h
  have pa := vw_ok ok ra
  have pb := vw_ok ok rb
  unfold oMul at h
  split at h
  · rename_i i j ea eb
    rw [ea] at pa; rw [eb] at pb
    split at h
    · rename_i hm
      rcases mulOk_ok hm with c | c
      · exact op_mul pins s σ H x y v u Q I rx ry ⟨i, j, pa, pb, c, h.here ok (by show Rp _ _ _ _; simp [Rp])⟩
      · exact op_mulW pins s σ H x y v u Q I rx ry ⟨i, j, pa, pb, c, h.here ok (by show Rp _ _ _ _; simp [Rp])⟩
    · exact h.elim
  · rename_i xs k ea eb
    rw [ea] at pa; rw [eb] at pb
    split at h
    · rename_i hl
      obtain ⟨p, us, e1, h1, r1⟩ := pa
      refine op_rep pins s σ H x y v u Q I rx ry ⟨p, k, us, e1, pb, h1, by omega, hl.2.1, by rw [← r1.length]; exact hl.2.2, fun z hz => ?_⟩
      exact postO_seq h ok (relWs_rep r1 _) hz
    · exact h.elim
  · exact h.elim
theorem op_modW : OpR X (binaryOp .Mod) (rW X.K oMod) := by
  intro pins s σ H x y v u Q I rx ry h
  obtain ⟨s', a, b, ok, ra, rb, h⟩ := h
  have pa := vw_ok ok ra
  have pb := vw_ok ok rb
  unfold oMod at h
  split at h
  · rename_i i j ea eb
    rw [ea] at pa; rw [eb] at pb
    split at h
    · rename_i hm
      exact op_mod pins s σ H x y v u Q I rx ry ⟨i, j, pa, pb, hm, h.here ok (by show Rp _ _ _ _; simp [Rp])⟩
    · exact h.elim
  · exact h.elim
theorem op_divW : OpR X (binaryOp .FloorDiv) (rW X.K oDiv) := by
  intro pins s σ H x y v u Q I rx ry h
  obtain ⟨s', a, b, ok, ra, rb, h⟩ := h
  have pa := vw_ok ok ra
  have pb := vw_ok ok rb
  unfold oDiv at h
  split at h
  · rename_i i j ea eb
    rw [ea] at pa; rw [eb] at pb
    split at h
    · rename_i hm
      exact op_fdiv pins s σ H x y v u Q I rx ry ⟨i, j, pa, pb, hm, h.here ok (by show Rp _ _ _ _; simp [Rp])⟩
    · exact h.elim
  · exact h.elim
theorem op_powW : OpR X (binaryOp .Pow) (rW X.K oPow) := by
  intro pins s σ H x y v u Q I rx ry h
  obtain ⟨s', a, b, ok, ra, rb, h⟩ := h
  have pa := vw_ok ok ra
  have pb := vw_ok ok rb
  unfold oPow at h
  split at h
  · rename_i i j ea eb
    rw [ea] at pa; rw [eb] at pb
    split at h
    · rename_i hm
      exact op_pow pins s σ H x y v u Q I rx ry ⟨i, j, pa, pb, hm, h.here ok (by show Rp _ _ _ _; simp [Rp])⟩
    · exact h.elim
  · exact h.elim
theorem un_negW : UnR X (unaryOp .USub) (rW1 X.K oNeg) := by
  intro pins s σ H x v Q I rx h
  obtain ⟨s', a, ok, ra, h⟩ := h
  have pa := vw_ok ok ra
  unfold oNeg at h
  split at h
  · rename_i i ea
    rw [ea] at pa
    exact un_neg pins s σ H x v Q I rx ⟨i, pa, h.here ok (by show Rp _ _ _ _; simp [Rp])⟩
  · exact h.elim
end
end IL

set_option maxHeartbeats 4000007
namespace IL
open PySem PySem.Spec
open PyProof.Rows L2

section
variable {K : PySem.W.Frag} {s : Wd} {H : Hp}
theorem rp_bl {F : Hp} (b : Bool) : Rp K F (.bl b) (.bl b) := by simp [Rp]
theorem rp_int {F : Hp} (b : Int) : Rp K F (.int b) (.int b) := by simp [Rp]
theorem rp_str {F : Hp} (b : Str) : Rp K F (.str b) (.str b) := by simp [Rp]
theorem rp_non {F : Hp} : Rp K F .non .non := by simp [Rp]
theorem rl_bl (b : Bool) : RelW K s (.d (.bl b)) (.bl b) := rp_bl (K := K) (F := s.F) b
theorem rl_int (b : Int) : RelW K s (.d (.int b)) (.int b) := rp_int (K := K) (F := s.F) b
theorem rl_str (b : Str) : RelW K s (.d (.str b)) (.str b) := rp_str (K := K) (F := s.F) b
theorem rl_non : RelW K s (.d .non) .non := rp_non (K := K) (F := s.F)
end
/-! ### comparisons of data -/
def oCmp (al : D → D → Bool) (f : D → D → Bool) (a b : W) (st : Store) : O := match wD st a, wD st b with
  | some x, some y => if al x y = true then some (.d (.bl (f x y)), st) else none
  | _, _ => none
def plD2 (x y : D) : Bool := plD x && plD y
abbrev oEq : W → W → Store → O := oCmp plD2 eqD
abbrev oNe : W → W → Store → O := oCmp plD2 fun x y => !eqD x y
abbrev oLt : W → W → Store → O := oCmp alD ltD
abbrev oGt : W → W → Store → O := oCmp alD fun x y => ltD y x
abbrev oLe : W → W → Store → O := oCmp alD fun x y => !ltD y x
abbrev oGe : W → W → Store → O := oCmp alD fun x y => !ltD x y
section
variable {X : Cx}
theorem oCmp_case {s' : Wd} {H : Hp} {a b : W} {x y : V} {al f : D → D → Bool} {Q : VK} (ok : OkW X.K s' H) (ra : RelW X.K s' a x) (rb : RelW X.K s' b y) (h : PostO X.K s' H (oCmp al f a b s'.st) Q) :
    ∃ p q, Rp X.K H p x ∧ Rp X.K H q y ∧ al p q = true ∧ Q (.bl (f p q)) H := by
  unfold oCmp at h
  split at h
  · rename_i p q ea eb
    split at h
    · rename_i hal
      exact ⟨p, q, wD_ok ok ea ra, wD_ok ok eb rb, hal, h.here ok (rl_bl _)⟩
    · exact h.elim
  · exact h.elim
theorem plD2_of {x y : D} (h : plD2 x y = true) : plD x = true ∧ plD y = true := by
  unfold plD2 at h
  exact Bool.and_eq_true_iff.mp h
theorem plD_of {x : D} (h : plD x = true) : (toPy x).plain = true ∧ (toPy x).depth ≤ 60 := by
  unfold plD at h
  obtain ⟨h1, h2⟩ := Bool.and_eq_true_iff.mp h
  exact ⟨h1, of_decide_eq_true h2⟩
theorem room2 {A : Around} {x y : D} (hu : A.units + 100 < cLine) (h : plD x = true) : A.units + min (toPy x).depth (toPy y).depth < cLine := by
  have := (plD_of h).2
  have h2 : min (toPy x).depth (toPy y).depth ≤ (toPy x).depth := Nat.min_le_left _ _
  omega
theorem op_eqW (hu : Un X) : OpR X (compareOp .Eq) (rW X.K oEq) := by
  intro pins s σ H x y v u Q I rx ry h
  obtain ⟨s', a, b, ok, ra, rb, h⟩ := h
  obtain ⟨p, q, hp, hq, hal, q1⟩ := oCmp_case ok ra rb h
  obtain ⟨h1, h2⟩ := plD2_of hal
  obtain ⟨as, r1⟩ := reads_of I hp rx h1
  obtain ⟨bs, r2⟩ := reads_of I hq ry h2
  exact PySem.SeqAt.eq_plain r1 r2 (plD_of h1).1 (plD_of h2).1 (room2 hu h1) ⟨.bl _, H, I, rfl, q1⟩
theorem op_neW (hu : Un X) : OpR X (compareOp .NotEq) (rW X.K oNe) := by
  intro pins s σ H x y v u Q I rx ry h
  obtain ⟨s', a, b, ok, ra, rb, h⟩ := h
  obtain ⟨p, q, hp, hq, hal, q1⟩ := oCmp_case ok ra rb h
  obtain ⟨h1, h2⟩ := plD2_of hal
  obtain ⟨as, r1⟩ := reads_of I hp rx h1
  obtain ⟨bs, r2⟩ := reads_of I hq ry h2
  exact PySem.SeqAt.ne_plain r1 r2 (plD_of h1).1 (plD_of h2).1 (room2 hu h1) ⟨.bl _, H, I, rfl, q1⟩
theorem alD_of {x y : D} (h : alD x y = true) : PySem.W.alike (toPy x) (toPy y) = true ∧ toPy x ≠ .none ∧ plD x = true ∧ plD y = true := by
  unfold alD at h
  simp only [Bool.and_eq_true] at h
  obtain ⟨⟨⟨h1, h2⟩, h3⟩, h4⟩ := h
  refine ⟨h1, fun e => ?_, h3, h4⟩
  cases x with
  | non => simp at h2
  | seq t xs => cases t <;> (simp [toPy] at e)
  | _ => simp [toPy] at e
theorem op_ltW (hu : Un X) : OpR X (compareOp .Lt) (rW X.K oLt) := by
  intro pins s σ H x y v u Q I rx ry h
  obtain ⟨s', a, b, ok, ra, rb, h⟩ := h
  obtain ⟨p, q, hp, hq, hal, q1⟩ := oCmp_case ok ra rb h
  obtain ⟨h0, hn, h1, h2⟩ := alD_of hal
  obtain ⟨as, r1⟩ := reads_of I hp rx h1
  obtain ⟨bs, r2⟩ := reads_of I hq ry h2
  exact PySem.W.lt_data r1 r2 h0 hn (room2 hu h1) ⟨.bl _, H, I, rfl, q1⟩
theorem op_gtW (hu : Un X) : OpR X (compareOp .Gt) (rW X.K oGt) := by
  intro pins s σ H x y v u Q I rx ry h
  obtain ⟨s', a, b, ok, ra, rb, h⟩ := h
  obtain ⟨p, q, hp, hq, hal, q1⟩ := oCmp_case ok ra rb h
  obtain ⟨h0, hn, h1, h2⟩ := alD_of hal
  obtain ⟨as, r1⟩ := reads_of I hp rx h1
  obtain ⟨bs, r2⟩ := reads_of I hq ry h2
  exact PySem.W.gt_data r1 r2 h0 hn (room2 hu h1) ⟨.bl _, H, I, rfl, q1⟩
theorem op_leW (hu : Un X) : OpR X (compareOp .LtE) (rW X.K oLe) := by
  intro pins s σ H x y v u Q I rx ry h
  obtain ⟨s', a, b, ok, ra, rb, h⟩ := h
  obtain ⟨p, q, hp, hq, hal, q1⟩ := oCmp_case ok ra rb h
  obtain ⟨h0, hn, h1, h2⟩ := alD_of hal
  obtain ⟨as, r1⟩ := reads_of I hp rx h1
  obtain ⟨bs, r2⟩ := reads_of I hq ry h2
  exact PySem.W.le_data r1 r2 h0 hn (room2 hu h1) ⟨.bl _, H, I, rfl, q1⟩
theorem op_geW (hu : Un X) : OpR X (compareOp .GtE) (rW X.K oGe) := by
  intro pins s σ H x y v u Q I rx ry h
  obtain ⟨s', a, b, ok, ra, rb, h⟩ := h
  obtain ⟨p, q, hp, hq, hal, q1⟩ := oCmp_case ok ra rb h
  obtain ⟨h0, hn, h1, h2⟩ := alD_of hal
  obtain ⟨as, r1⟩ := reads_of I hp rx h1
  obtain ⟨bs, r2⟩ := reads_of I hq ry h2
  exact PySem.W.ge_data r1 r2 h0 hn (room2 hu h1) ⟨.bl _, H, I, rfl, q1⟩
end
/-- is None, is not None -/
def isNonV : Vw → Option Bool
  | .non => some true
  | .bad => none
  | _ => some false
def oIsN (neg : Bool) (a b : W) (st : Store) : O := match vw st b, isNonV (vw st a) with
  | .non, some k => some (.d (.bl (if neg = true then !k else k)), st)
  | _, _ => none
section
variable {X : Cx} {s : Wd} {H : Hp}
theorem isNon_ok {p : Vw} {v : V} {k : Bool} (h : VwRel X.K s H p v) (e : isNonV p = some k) : decide (v = .non) = k := by
  cases p with
  | non => cases e; exact decide_eq_true h
  | bad => cases e
  | bl b => cases e; rw [show v = _ from h]; rfl
  | int b => cases e; rw [show v = _ from h]; rfl
  | str b => cases e; rw [show v = _ from h]; rfl
  | sq t ws => cases e; obtain ⟨a, vs, ev, _⟩ := h; rw [ev]; rfl
  | dk ws => cases e; obtain ⟨a, vs, ev, _⟩ := h; rw [ev]; rfl
  | dt ws => cases e; obtain ⟨a, vs, ev, _⟩ := h; rw [ev]; rfl
  | scr ws => cases e; obtain ⟨a, ev, _⟩ := h; rw [ev]; rfl
theorem op_isNW : OpR X (compareOp .Is) (rW X.K (oIsN false)) := by
  intro pins s σ H x y v u Q I rx ry h
  obtain ⟨s', a, b, ok, ra, rb, h⟩ := h
  have pa := vw_ok ok ra
  have pb := vw_ok ok rb
  unfold oIsN at h
  split at h
  · rename_i k eb ea
    rw [eb] at pb
    have e := isNon_ok pa ea
    refine op_isN pins s σ H x y v u Q I rx ry ⟨pb, ?_⟩
    rw [e]
    exact h.here ok (rl_bl _)
  · exact h.elim
theorem op_notNW : OpR X (compareOp .IsNot) (rW X.K (oIsN true)) := by
  intro pins s σ H x y v u Q I rx ry h
  obtain ⟨s', a, b, ok, ra, rb, h⟩ := h
  have pa := vw_ok ok ra
  have pb := vw_ok ok rb
  unfold oIsN at h
  split at h
  · rename_i k eb ea
    rw [eb] at pb
    have e := isNon_ok pa ea
    refine op_notN pins s σ H x y v u Q I rx ry ⟨pb, ?_⟩
    rw [e]
    exact h.here ok (rl_bl _)
  · exact h.elim
end

/-! ### in, not in -/
def keyOf : Vw → Option Key
  | .int i => some (.inl i)
  | .str x => some (.inr x)
  | _ => none
def keysD : List D → Option (List Key) := mapO fun x => keyOf (vwD x)
/-- a tuple of keys -/
def tkeyOf (st : Store) (a : W) : Option (List Key) := match a with
  | .d (.seq true xs) => keysD xs
  | _ => none
def getK {κ : Type} [DecidableEq κ] (kvs : List (κ × W)) (k : κ) : Option W := (kvs.find? fun kv => decide (kv.1 = k)).map (·.2)
def strIn (x y : Str) : Bool := if x.cps.size = 1 then decide (x.cps.getD 0 0 ∈ y.cps.toList) else !(Builtin.Str.occurrences y x 0 y.length 1).isEmpty
def oIn (neg : Bool) (a b : W) (st : Store) : O :=
  let fin := fun k : Bool => some (W.d (.bl (if neg = true then !k else k)), st)
  match vw st b with
  | .dk kvs => match keyOf (vw st a) with
    | some k => fin (getK kvs k).isSome
    | none => none
  | .dt kvs => match tkeyOf st a with
    | some k => fin (getK kvs k).isSome
    | none => none
  | .str y => match vw st a with
    | .str x => fin (strIn x y)
    | _ => none
  | _ => match wD st a, wD st b with
    | some x, some (.seq t xs) => if plD x = true ∧ plD (.seq t xs) = true then fin (xs.any fun z => eqD z x) else none
    | _, _ => none
section
variable {X : Cx}
theorem relK_val {κ : Type} [DecidableEq κ] {K : PySem.W.Frag} {s : Wd} : ∀ {kvs : List (κ × W)} {ps : List (κ × V)}, RelKs K s kvs ps → ∀ k : κ, (valV ps k).isSome = (getK kvs k).isSome ∧ ∀ w, getK kvs k = some w → ∃ v, valV ps k = some v ∧ RelW K s w v
  | _, _, .nil, k => ⟨rfl, fun w h => by simp [getK] at h⟩
  | (k1, w1) :: kvs, (k2, v1) :: ps, .cons h t, k => by
    obtain ⟨e, r⟩ := h
    have e' : k1 = k2 := e
    subst e'
    by_cases hk : k1 = k
    · subst hk
      refine ⟨by simp [valV, getK, List.find?_cons], fun w hw => ⟨v1, by simp [valV, List.find?_cons], ?_⟩⟩
      have : w1 = w := by simpa [getK, List.find?_cons] using hw
      rw [← this]; exact r
    · obtain ⟨i1, i2⟩ := relK_val t k
      have e1 : valV ((k1, v1) :: ps) k = valV ps k := by simp [valV, List.find?_cons, hk]
      have e2 : getK ((k1, w1) :: kvs) k = getK kvs k := by simp [getK, List.find?_cons, hk]
      rw [e1, e2]
      exact ⟨i1, i2⟩
theorem keyOf_ok {K : PySem.W.Frag} {s : Wd} {H : Hp} {p : Vw} {v : V} {k : Key} (h : VwRel K s H p v) (e : keyOf p = some k) : v = kV k := by
  cases p with
  | int i => cases e; exact h
  | str i => cases e; exact h
  | _ => cases e
theorem keysD_ok {K : PySem.W.Frag} {F : Hp} : ∀ {xs : List D} {ks : List Key} {vs : List V}, keysD xs = some ks → Rps K F xs vs → vs = ks.map kV
  | [], ks, vs, e, h => by
    simp only [Rps] at h; subst h
    have : ([] : List Key) = ks := by simpa [keysD, mapO] using e
    subst this; rfl
  | x :: xs, ks, vs, e, h => by
    simp only [Rps] at h
    obtain ⟨v, r, rfl, h1, h2⟩ := h
    unfold keysD mapO at e
    cases e1 : keyOf (vwD x) with
    | none => rw [e1] at e; cases e
    | some k =>
      rw [e1] at e
      cases e2 : mapO (fun x => keyOf (vwD x)) xs with
      | none => rw [e2] at e; cases e
      | some kr =>
        rw [e2] at e; cases e
        have ih := keysD_ok (xs := xs) (ks := kr) e2 h2
        have hv : v = kV k := by
          cases x with
          | int i => cases e1; simp only [Rp] at h1; exact h1
          | str i => cases e1; simp only [Rp] at h1; exact h1
          | _ => cases e1
        rw [ih, hv]; rfl
theorem tkeyOf_ok {K : PySem.W.Frag} {s : Wd} {H : Hp} (ok : OkW K s H) {a : W} {v : V} {ks : List Key} (h : RelW K s a v) (e : tkeyOf s.st a = some ks) : ∃ b, v = .ref b ∧ H b = some (.tup (ks.map kV)) := by
  unfold tkeyOf at e
  split at e
  · rename_i xs
    have h' : Rp K s.F (.seq true xs) v := h
    simp only [Rp] at h'
    obtain ⟨b, vs, ev, h1, h2⟩ := h'
    rw [keysD_ok e h2] at h1
    exact ⟨b, ev, ok.sub _ _ h1⟩
  · cases e
theorem in_neg {neg k : Bool} {Q : VK} {H : Hp} (h : Q (.bl (if neg = true then !k else k)) H) : (neg = false → Q (.bl k) H) ∧ (neg = true → Q (.bl (!k)) H) := by
  cases neg <;> simp_all
theorem str_one {x : Str} (h : x.cps.size = 1) : x = ⟨#[x.cps.getD 0 0]⟩ := by
  cases x with
  | mk c =>
    have : c = #[c.getD 0 0] := by
      apply Array.ext
      · simpa using h
      · intro i h1 h2
        have h' : c.size = 1 := h
        have : i = 0 := by omega
        subst this
        simp [Array.getD, h']
    exact congrArg Str.mk this
/-- the four ways of in -/
theorem oIn_case {neg : Bool} {s' : Wd} {H : Hp} {a b : W} {x y : V} {Q : VK} (ok : OkW X.K s' H) (ra : RelW X.K s' a x) (rb : RelW X.K s' b y) (h : PostO X.K s' H (oIn neg a b s'.st) Q) :
    (∃ p o, y = .ref p ∧ DGet H p x o ∧ Q (.bl (if neg = true then !o.isSome else o.isSome)) H) ∨
    (∃ i j, x = .str i ∧ y = .str j ∧ Q (.bl (if neg = true then !strIn i j else strIn i j)) H) ∨
    (∃ d t ds, Rp X.K H d x ∧ Rp X.K H (.seq t ds) y ∧ plD d = true ∧ plD (.seq t ds) = true ∧ Q (.bl (if neg = true then !(ds.any fun z => eqD z d) else (ds.any fun z => eqD z d))) H) := by
  have pa := vw_ok ok ra
  have pb := vw_ok ok rb
  unfold oIn at h
  simp only at h
  split at h
  · rename_i kvs eb
    rw [eb] at pb
    split at h
    · rename_i k ea
      obtain ⟨p, ps, e1, h1, r1⟩ := pb
      refine .inl ⟨p, valV ps k, e1, ?_, ?_⟩
      · rw [keyOf_ok pa ea]; exact .inl ⟨_, _, h1, rfl, rfl⟩
      · rw [(relK_val r1 k).1]; exact h.here ok (rl_bl _)
    · exact h.elim
  · rename_i kvs eb
    rw [eb] at pb
    split at h
    · rename_i k ea
      obtain ⟨p, ps, e1, h1, r1⟩ := pb
      obtain ⟨c, ec, hc⟩ := tkeyOf_ok ok ra ea
      refine .inl ⟨p, valV ps k, e1, ?_, ?_⟩
      · rw [ec]; exact DGet.t h1 hc
      · rw [(relK_val r1 k).1]; exact h.here ok (rl_bl _)
    · exact h.elim
  · rename_i j eb
    rw [eb] at pb
    split at h
    · rename_i i ea
      rw [ea] at pa
      exact .inr (.inl ⟨i, j, pa, pb, h.here ok (rl_bl _)⟩)
    · exact h.elim
  · split at h
    · rename_i d t ds ea eb
      split at h
      · rename_i hp
        exact .inr (.inr ⟨d, t, ds, wD_ok ok ea ra, wD_ok ok eb rb, hp.1, hp.2, h.here ok (rl_bl _)⟩)
      · exact h.elim
    · exact h.elim
theorem any_toPys {d : D} : ∀ ds : List D, ((toPys ds).any fun z => PyData.eqv z (toPy d)) = ds.any fun z => eqD z d
  | [] => rfl
  | x :: xs => by simp only [toPys, List.any_cons, any_toPys xs]; rfl
theorem room_in {A : Around} {x : D} {t : Bool} {xs : List D} (hu : A.units + 100 < cLine) (h : plD x = true) : A.units + 1 + min (PyData.depthAll (toPys xs)) (toPy x).depth < cLine := by
  have := (plD_of h).2
  have h2 : min (PyData.depthAll (toPys xs)) (toPy x).depth ≤ (toPy x).depth := Nat.min_le_right _ _
  omega
theorem plD_seq {t : Bool} {xs : List D} (h : plD (.seq t xs) = true) : PyData.plainAll (toPys xs) = true := by
  have h := (plD_of h).1
  cases t with
  | true => simpa [toPy, PyData.plain] using h
  | false => simpa [toPy, PyData.plain] using h
theorem op_inW (hu : Un X) : OpR X (compareOp .In) (rW X.K (oIn false)) := by
  intro pins s σ H x y v u Q I rx ry h
  obtain ⟨s', a, b, ok, ra, rb, h⟩ := h
  rcases oIn_case ok ra rb h with ⟨p, o, e, g, q⟩ | ⟨i, j, e1, e2, q⟩ | ⟨d, t, ds, h1, h2, p1, p2, q⟩
  · subst e
    obtain rfl : u = Value.ref p := ry
    exact d_in (by have := hu; show X.A.units + 1 < cLine; omega) I g rx fun s1 I1 => ⟨.bl o.isSome, H, I1, rfl, q⟩
  · unfold strIn at q
    by_cases h1 : i.cps.size = 1
    · simp only [if_pos h1, Bool.false_eq_true, if_false] at q
      have e3 := str_one h1
      exact op_in_sign pins s σ H x y v u Q I rx ry ⟨i.cps.getD 0 0, j, by rw [e1]; exact congrArg V.str e3, e2, q⟩
    · simp only [if_neg h1, Bool.false_eq_true, if_false] at q
      exact op_in_str pins s σ H x y v u Q I rx ry ⟨i, j, e1, e2, q⟩
  · obtain ⟨as, r1⟩ := reads_of I h1 rx p1
    obtain ⟨bs, r2⟩ := reads_of I h2 ry p2
    have hr := room_in (t := t) (xs := ds) hu p1
    have q' : Q (.bl ((toPys ds).any fun z => PyData.eqv z (toPy d))) H := by rw [any_toPys]; exact q
    cases t with
    | true => exact PySem.SeqAt.in_tuple_data r2 r1 (plD_seq p2) (plD_of p1).1 hr ⟨.bl _, H, I, rfl, q'⟩
    | false => exact PySem.SeqAt.in_list_data r2 r1 (plD_seq p2) (plD_of p1).1 hr ⟨.bl _, H, I, rfl, q'⟩
theorem op_notInW (hu : Un X) : OpR X (compareOp .NotIn) (rW X.K (oIn true)) := by
  intro pins s σ H x y v u Q I rx ry h
  obtain ⟨s', a, b, ok, ra, rb, h⟩ := h
  rcases oIn_case ok ra rb h with ⟨p, o, e, g, q⟩ | ⟨i, j, e1, e2, q⟩ | ⟨d, t, ds, h1, h2, p1, p2, q⟩
  · subst e
    obtain rfl : u = Value.ref p := ry
    exact d_notIn (by have := hu; show X.A.units + 1 < cLine; omega) I g rx fun s1 I1 => ⟨.bl (!o.isSome), H, I1, rfl, q⟩
  · unfold strIn at q
    by_cases h1 : i.cps.size = 1
    · simp only [if_pos h1, if_true] at q
      have e3 := str_one h1
      exact op_notIn_sign pins s σ H x y v u Q I rx ry ⟨i.cps.getD 0 0, j, by rw [e1]; exact congrArg V.str e3, e2, q⟩
    · simp only [if_neg h1, if_true] at q
      exact op_notin_str pins s σ H x y v u Q I rx ry ⟨i, j, e1, e2, q⟩
  · obtain ⟨as, r1⟩ := reads_of I h1 rx p1
    obtain ⟨bs, r2⟩ := reads_of I h2 ry p2
    have hr := room_in (t := t) (xs := ds) hu p1
    have q' : Q (.bl (!((toPys ds).any fun z => PyData.eqv z (toPy d)))) H := by rw [any_toPys]; exact q
    cases t with
    | true => exact PySem.SeqAt.notIn_tuple_data r2 r1 (plD_seq p2) (plD_of p1).1 hr ⟨.bl _, H, I, rfl, q'⟩
    | false => exact PySem.SeqAt.notIn_list_data r2 r1 (plD_seq p2) (plD_of p1).1 hr ⟨.bl _, H, I, rfl, q'⟩
end
end IL

set_option maxHeartbeats 4000007
namespace IL
open PySem PySem.Spec
open PyProof.Rows L2

section
variable {K : PySem.W.Frag} {s : Wd} {H : Hp}
theorem relWs1 {ws : List W} {v : V} (h : RelWs K s ws [v]) : ∃ w, ws = [w] ∧ RelW K s w v := by
  cases h with
  | cons h t => cases t; exact ⟨_, rfl, h⟩
theorem relWs1' {w : W} {vs : List V} (h : RelWs K s [w] vs) : ∃ v, vs = [v] ∧ RelW K s w v := by
  cases h with
  | cons h t => cases t; exact ⟨_, rfl, h⟩
theorem relWs2' {w u : W} {vs : List V} (h : RelWs K s [w, u] vs) : ∃ v x, vs = [v, x] ∧ RelW K s w v ∧ RelW K s u x := by
  cases h with
  | cons h t =>
    cases t with
    | cons h2 t => cases t; exact ⟨_, _, rfl, h, h2⟩
theorem relWs0' {vs : List V} (h : RelWs K s [] vs) : vs = [] := by cases h; rfl
end

/-! ### len, list, tuple, all, any, sum, abs, int -/
def oLen : List W → Store → O
  | [a], st => match vw st a with
    | .sq _ ws => some (.d (.int ws.length), st)
    | .str x => if x.length ≤ sizeLine then some (.d (.int x.length), st) else none
    | .dk kvs => some (.d (.int kvs.length), st)
    | _ => none
  | _, _ => none
def oList (fz : Bool) : List W → Store → O
  | [a], st => match vw st a with
    | .sq _ ws => mkS fz false ws st
    | .scr ns => mkS fz false (ns.map fun i => .d (.int i)) st
    | _ => none
  | _, _ => none
def oTuple (fz : Bool) : List W → Store → O
  | [a], st => match vw st a with
    | .sq false ws => mkS fz true ws st
    | .sq true _ => some (a, st)
    | _ => none
  | _, _ => none
def blOf : D → Option Bool
  | .bl b => some b
  | _ => none
def intOf : D → Option Int
  | .int b => some b
  | _ => none
def strOf : D → Option Str
  | .str b => some b
  | _ => none
def oAll : List W → Store → O
  | [a], st => match vw st a with
    | .sq false ws => match (allD ws).bind (mapO blOf) with
      | some bs => some (.d (.bl (bs.all id)), st)
      | none => none
    | _ => none
  | _, _ => none
def oAny : List W → Store → O
  | [a], st => match vw st a with
    | .sq false ws => match (allD ws).bind (mapO blOf) with
      | some bs => some (.d (.bl (bs.any id)), st)
      | none => none
    | _ => none
  | _, _ => none
def oSum : List W → Store → O
  | [a], st => match vw st a with
    | .sq false ws => match (allD ws).bind (mapO intOf) with
      | some bs => some (.d (.int bs.sum), st)
      | none => none
    | _ => none
  | _, _ => none
def oAbs : List W → Store → O
  | [a], st => match vw st a with
    | .int i => some (.d (.int (if i < 0 then -i else i)), st)
    | _ => none
  | _, _ => none
def oInt : List W → Store → O
  | [a], st => match vw st a with
    | .int i => some (.d (.int i), st)
    | _ => none
  | _, _ => none
def oMax2 : List W → Store → O
  | [a, b], st => match vw st a, vw st b with
    | .int i, .int j => some (.d (.int (if j > i then j else i)), st)
    | _, _ => none
  | _, _ => none
def oMin2 : List W → Store → O
  | [a, b], st => match vw st a, vw st b with
    | .int i, .int j => some (.d (.int (if j < i then j else i)), st)
    | _, _ => none
  | _, _ => none
section
variable {X : Cx}
theorem call_lenW : CallR X (.builtin "len") (rWs X.K oLen) := by
  intro pins s σ H xs us Q I r h
  obtain ⟨s', ws, ok, rw, h⟩ := h
  unfold oLen at h
  split at h
  · rename_i a
    obtain ⟨v, rfl, ra⟩ := relWs1' rw
    have pa := vw_ok ok ra
    split at h
    · rename_i t zs ea
      rw [ea] at pa
      obtain ⟨p, vs, e, h1, r1⟩ := pa
      refine call_len pins s σ H _ us Q I r ⟨v, zs.length, rfl, ?_, h.here ok (rl_int _)⟩
      rw [e]
      cases t with
      | true => exact .inr ⟨vs, .inl (.inl h1), r1.length⟩
      | false => exact .inl ⟨vs, .inl (.inl h1), r1.length⟩
    · rename_i z ea
      rw [ea] at pa
      split at h
      · rename_i hl
        refine call_len pins s σ H _ us Q I r ⟨v, z.length, rfl, ?_, h.here ok (rl_int _)⟩
        rw [show v = .str z from pa]
        exact ⟨hl, rfl⟩
      · exact h.elim
    · rename_i kvs ea
      rw [ea] at pa
      obtain ⟨p, ps, e, h1, r1⟩ := pa
      subst e
      obtain ⟨u, rfl, ru⟩ := vals1 r
      cases ru
      refine d_len I h1 fun t s' I' => ⟨.int ps.length, H, I', ⟨t, rfl⟩, ?_⟩
      rw [← show kvs.length = ps.length from Paired.length r1]
      exact h.here ok (rl_int _)
    · exact h.elim
  · exact h.elim
theorem scr_rel {K : PySem.W.Frag} {s : Wd} : ∀ ns : List Int, RelWs K s (ns.map fun i => W.d (.int i)) (ns.map V.int)
  | [] => .nil
  | n :: ns => .cons (rl_int n) (scr_rel ns)
theorem call_listW {fz : Bool} : CallR X (.type "list") (rWs X.K (oList fz)) := by
  intro pins s σ H xs us Q I r h
  obtain ⟨s', ws, ok, rw, h⟩ := h
  unfold oList at h
  split at h
  · rename_i a
    obtain ⟨v, rfl, ra⟩ := relWs1' rw
    have pa := vw_ok ok ra
    split at h
    · rename_i t zs ea
      rw [ea] at pa
      obtain ⟨p, vs, e, h1, r1⟩ := pa
      refine call_list_of pins s σ H _ us Q I r ⟨p, vs, by rw [e], ?_, fun l hl => postO_seq h ok r1 hl⟩
      cases t with
      | true => exact .inr (.inl (.inl h1))
      | false => exact .inl (.inl (.inl h1))
    · rename_i ns ea
      rw [ea] at pa
      obtain ⟨p, e, h1⟩ := pa
      exact call_list_of pins s σ H _ us Q I r ⟨p, ns.map V.int, by rw [e], .inl h1, fun l hl => postO_seq h ok (scr_rel ns) hl⟩
    · exact h.elim
  · exact h.elim
theorem call_tupleW {fz : Bool} : CallR X (.type "tuple") (rWs X.K (oTuple fz)) := by
  intro pins s σ H xs us Q I r h
  obtain ⟨s', ws, ok, rw, h⟩ := h
  unfold oTuple at h
  split at h
  · rename_i a
    obtain ⟨v, rfl, ra⟩ := relWs1' rw
    have pa := vw_ok ok ra
    split at h
    · rename_i zs ea
      rw [ea] at pa
      obtain ⟨p, vs, e, h1, r1⟩ := pa
      exact call_tuple_of pins s σ H _ us Q I r ⟨p, vs, by rw [e], .inl ⟨.inl (.inl h1), fun l hl => postO_seq h ok r1 hl⟩⟩
    · rename_i zs ea
      rw [ea] at pa
      obtain ⟨p, vs, e, h1, r1⟩ := pa
      exact call_tuple_of pins s σ H _ us Q I r ⟨p, vs, by rw [e], .inr ⟨.inl (.inl h1), by rw [← e]; exact h.here ok ra⟩⟩
    · exact h.elim
  · exact h.elim
theorem bls_ok {K : PySem.W.Frag} {s : Wd} {ws : List W} {vs : List V} {bs : List Bool} (r : RelWs K s ws vs) (e : (allD ws).bind (mapO blOf) = some bs) : vs = bs.map V.bl := by
  cases e1 : allD ws with
  | none => rw [e1] at e; cases e
  | some xs =>
    rw [e1] at e
    have q := mapO_rel (f := blOf) (P := Rp K s.F) (Q := fun b v => v = V.bl b) (fun a b c ea h => by
      cases a with
      | bl x => cases ea; simp only [Rp] at h; exact h
      | _ => cases ea) e (rps_to (allD_rel e1 r))
    clear e e1 r
    induction q with
    | nil => rfl
    | cons h t ih => rw [h, ih]; rfl
theorem ints_ok {K : PySem.W.Frag} {s : Wd} {ws : List W} {vs : List V} {bs : List Int} (r : RelWs K s ws vs) (e : (allD ws).bind (mapO intOf) = some bs) : vs = bs.map V.int := by
  cases e1 : allD ws with
  | none => rw [e1] at e; cases e
  | some xs =>
    rw [e1] at e
    have q := mapO_rel (f := intOf) (P := Rp K s.F) (Q := fun b v => v = V.int b) (fun a b c ea h => by
      cases a with
      | int x => cases ea; simp only [Rp] at h; exact h
      | _ => cases ea) e (rps_to (allD_rel e1 r))
    clear e e1 r
    induction q with
    | nil => rfl
    | cons h t ih => rw [h, ih]; rfl
theorem strs_ok {K : PySem.W.Frag} {s : Wd} {ws : List W} {vs : List V} {bs : List Str} (r : RelWs K s ws vs) (e : (allD ws).bind (mapO strOf) = some bs) : vs = bs.map V.str := by
  cases e1 : allD ws with
  | none => rw [e1] at e; cases e
  | some xs =>
    rw [e1] at e
    have q := mapO_rel (f := strOf) (P := Rp K s.F) (Q := fun b v => v = V.str b) (fun a b c ea h => by
      cases a with
      | str x => cases ea; simp only [Rp] at h; exact h
      | _ => cases ea) e (rps_to (allD_rel e1 r))
    clear e e1 r
    induction q with
    | nil => rfl
    | cons h t ih => rw [h, ih]; rfl
theorem call_allW (hc : X.calm = true) : CallR X (.builtin "all") (rWs X.K oAll) := by
  intro pins s σ H xs us Q I r h
  obtain ⟨s', ws, ok, rw, h⟩ := h
  unfold oAll at h
  split at h
  · rename_i a
    obtain ⟨v, rfl, ra⟩ := relWs1' rw
    have pa := vw_ok ok ra
    split at h
    · rename_i zs ea
      rw [ea] at pa
      obtain ⟨p, vs, e, h1, r1⟩ := pa
      split at h
      · rename_i bs eb
        have ev := bls_ok r1 eb
        subst ev
        exact cr_all hc pins s σ H _ us Q I r ⟨p, bs, by rw [e], .inl (.inl h1), h.here ok (rl_bl _)⟩
      · exact h.elim
    · exact h.elim
  · exact h.elim
theorem call_anyW (hc : X.calm = true) : CallR X (.builtin "any") (rWs X.K oAny) := by
  intro pins s σ H xs us Q I r h
  obtain ⟨s', ws, ok, rw, h⟩ := h
  unfold oAny at h
  split at h
  · rename_i a
    obtain ⟨v, rfl, ra⟩ := relWs1' rw
    have pa := vw_ok ok ra
    split at h
    · rename_i zs ea
      rw [ea] at pa
      obtain ⟨p, vs, e, h1, r1⟩ := pa
      split at h
      · rename_i bs eb
        have ev := bls_ok r1 eb
        subst ev
        exact cr_any hc pins s σ H _ us Q I r ⟨p, bs, by rw [e], .inl (.inl h1), h.here ok (rl_bl _)⟩
      · exact h.elim
    · exact h.elim
  · exact h.elim
theorem call_sumW (hc : X.calm = true) : CallR X (.builtin "sum") (rWs X.K oSum) := by
  intro pins s σ H xs us Q I r h
  obtain ⟨s', ws, ok, rw, h⟩ := h
  unfold oSum at h
  split at h
  · rename_i a
    obtain ⟨v, rfl, ra⟩ := relWs1' rw
    have pa := vw_ok ok ra
    split at h
    · rename_i zs ea
      rw [ea] at pa
      obtain ⟨p, vs, e, h1, r1⟩ := pa
      split at h
      · rename_i bs eb
        have ev := ints_ok r1 eb
        subst ev
        exact cr_sum hc pins s σ H _ us Q I r ⟨p, bs, by rw [e], .inl (.inl h1), h.here ok (rl_int _)⟩
      · exact h.elim
    · exact h.elim
  · exact h.elim
theorem call_absW : CallR X (.builtin "abs") (rWs X.K oAbs) := by
  intro pins s σ H xs us Q I r h
  obtain ⟨s', ws, ok, rw, h⟩ := h
  unfold oAbs at h
  split at h
  · rename_i a
    obtain ⟨v, rfl, ra⟩ := relWs1' rw
    have pa := vw_ok ok ra
    split at h
    · rename_i i ea
      rw [ea] at pa
      exact call_abs pins s σ H _ us Q I r ⟨i, by rw [show v = .int i from pa], h.here ok (rl_int _)⟩
    · exact h.elim
  · exact h.elim
theorem call_intW : CallR X (.type "int") (rWs X.K oInt) := by
  intro pins s σ H xs us Q I r h
  obtain ⟨s', ws, ok, rw, h⟩ := h
  unfold oInt at h
  split at h
  · rename_i a
    obtain ⟨v, rfl, ra⟩ := relWs1' rw
    have pa := vw_ok ok ra
    split at h
    · rename_i i ea
      rw [ea] at pa
      exact call_int1 pins s σ H _ us Q I r (.inl ⟨i, by rw [show v = .int i from pa], h.here ok (rl_int _)⟩)
    · exact h.elim
  · exact h.elim
theorem call_max2W (hc : X.calm = true) : CallR X (.builtin "max") (rWs X.K oMax2) := by
  intro pins s σ H xs us Q I r h
  obtain ⟨s', ws, ok, rw, h⟩ := h
  unfold oMax2 at h
  split at h
  · rename_i a b
    obtain ⟨v, w, rfl, ra, rb⟩ := relWs2' rw
    have pa := vw_ok ok ra
    have pb := vw_ok ok rb
    split at h
    · rename_i i j ea eb
      rw [ea] at pa; rw [eb] at pb
      exact call_max2 hc pins s σ H _ us Q I r ⟨i, j, by rw [show v = .int i from pa, show w = .int j from pb], h.here ok (rl_int _)⟩
    · exact h.elim
  · exact h.elim
theorem call_min2W (hc : X.calm = true) : CallR X (.builtin "min") (rWs X.K oMin2) := by
  intro pins s σ H xs us Q I r h
  obtain ⟨s', ws, ok, rw, h⟩ := h
  unfold oMin2 at h
  split at h
  · rename_i a b
    obtain ⟨v, w, rfl, ra, rb⟩ := relWs2' rw
    have pa := vw_ok ok ra
    have pb := vw_ok ok rb
    split at h
    · rename_i i j ea eb
      rw [ea] at pa; rw [eb] at pb
      exact call_min2 hc pins s σ H _ us Q I r ⟨i, j, by rw [show v = .int i from pa, show w = .int j from pb], h.here ok (rl_int _)⟩
    · exact h.elim
  · exact h.elim
end

/-! ### isinstance -/
inductive Ty where
  | n | b | i | s | l | t | d
  deriving DecidableEq
def Ty.nm : Ty → String
  | .n => "NoneType" | .b => "bool" | .i => "int" | .s => "str" | .l => "list" | .t => "tuple" | .d => "dict"
def vty : Vw → Option Ty
  | .non => some .n | .bl _ => some .b | .int _ => some .i | .str _ => some .s
  | .sq t _ => some (if t = true then .t else .l)
  | .dk _ => some .d | .dt _ => some .d | .scr _ => none | .bad => none
/-- is a value of the type a one of b -/
def tyIs : Ty → Ty → Bool
  | .b, .i => true
  | a, b => decide (a = b)
theorem tyIs_ok {K : PySem.W.Frag} (a b : Ty) : PySem.W.kitOne K (.type a.nm) (.type b.nm) = some (tyIs a b) := by
  refine kit_ty ?_
  cases a <;> cases b <;> decide +kernel
theorem tyAny_ok {K : PySem.W.Frag} (a : Ty) : ∀ bs : List Ty, PySem.W.kitAny K (.type a.nm) (bs.map fun b => .type b.nm) = some (bs.any (tyIs a))
  | [] => rfl
  | b :: bs => by
    cases e : tyIs a b with
    | true => exact kitAny_cons (b := true) (by rw [tyIs_ok, e]) (fun z => by cases z) fun _ => by simp [e]
    | false => exact kitAny_cons (b := false) (by rw [tyIs_ok, e]) (fun _ => by rw [tyAny_ok a bs]; simp [e]) fun z => by cases z
def vtyIs (p : Vw) (bs : List Ty) : Option Bool := match p with
  | .sq t _ => if bs.any (tyIs .t) = bs.any (tyIs .l) then some (bs.any (tyIs .l)) else some (bs.any (tyIs (if t = true then .t else .l)))
  | p => (vty p).map fun a => bs.any (tyIs a)
theorem vtyIs_eq (p : Vw) (bs : List Ty) : vtyIs p bs = (vty p).map fun a => bs.any (tyIs a) := by
  cases p with
  | sq t ws =>
    show (if bs.any (tyIs .t) = bs.any (tyIs .l) then some (bs.any (tyIs .l)) else some (bs.any (tyIs (if t = true then .t else .l)))) = some (bs.any (tyIs (if t = true then .t else .l)))
    by_cases e : bs.any (tyIs .t) = bs.any (tyIs .l)
    · rw [if_pos e]
      cases t with
      | true => rw [if_pos rfl, e]
      | false => rw [if_neg Bool.false_ne_true]
    · rw [if_neg e]
  | _ => rfl
section
variable {X : Cx}
theorem tyX_of {K : PySem.W.Frag} {s : Wd} {H : Hp} {p : Vw} {v : V} {a : Ty} (h : VwRel K s H p v) (e : vty p = some a) : TyX K H v (.type a.nm) := by
  cases p with
  | non => cases e; rw [show v = _ from h]; exact .base .non
  | bl b => cases e; rw [show v = _ from h]; exact .base (.bl b)
  | int b => cases e; rw [show v = _ from h]; exact .base (.int b)
  | str b => cases e; rw [show v = _ from h]; exact .base (.str b)
  | sq t ws =>
    obtain ⟨q, vs, ev, h1, _⟩ := h
    rw [ev]
    cases t with
    | true => cases e; exact .base (.tup h1)
    | false => cases e; exact .base (.lst h1)
  | dk ws => cases e; obtain ⟨q, vs, ev, h1, _⟩ := h; rw [ev]; exact h1.elim (fun z => .base (.dK z)) fun ⟨_, z⟩ => .fDict z
  | dt ws => cases e; obtain ⟨q, vs, ev, h1, _⟩ := h; rw [ev]; exact .base (.dT h1)
  | scr ns => cases e
  | bad => cases e
end

/-! ### a[i] -/
def idx {α : Type} (xs : List α) (i : Int) : Option α := atI xs i
def oIx (a b : W) (st : Store) : O := match vw st a with
  | .sq _ ws => match vw st b with
    | .int i => (atI ws i).map fun w => (w, st)
    | _ => none
  | .str x => match vw st b with
    | .int i => if x.length ≤ sizeLine then (atI x.cps.toList i).map fun c => (.d (.str ⟨#[c]⟩), st) else none
    | _ => none
  | .dk kvs => match keyOf (vw st b) with
    | some k => (getK kvs k).map fun w => (w, st)
    | none => none
  | .dt kvs => match tkeyOf st b with
    | some k => (getK kvs k).map fun w => (w, st)
    | none => none
  | _ => none
section
variable {X : Cx}
theorem relWs_get {K : PySem.W.Frag} {s : Wd} : ∀ {ws : List W} {vs : List V}, RelWs K s ws vs → ∀ {i : Nat} {w : W}, ws[i]? = some w → ∃ v, vs[i]? = some v ∧ RelW K s w v
  | _, _, .nil, i, w, h => by simp at h
  | _, _, .cons h t, 0, w, e => by simp at e; subst e; exact ⟨_, rfl, h⟩
  | _, _, .cons h t, i + 1, w, e => by
    obtain ⟨v, h1, h2⟩ := relWs_get t (i := i) (w := w) (by simpa using e)
    exact ⟨v, by simpa using h1, h2⟩
theorem relWs_atI {K : PySem.W.Frag} {s : Wd} {ws : List W} {vs : List V} (r : RelWs K s ws vs) {i : Int} {w : W} (e : atI ws i = some w) : ∃ v, atI vs i = some v ∧ RelW K s w v := by
  unfold atI at e ⊢
  rw [← r.length]
  cases h : ixN ws.length i with
  | none => rw [h] at e; cases e
  | some j =>
    rw [h] at e
    exact relWs_get r e
def rDG : R2 := fun x y H Q => ∃ a v, x = .ref a ∧ DGet H a y (some v) ∧ Q v H
theorem ix_dict (hu : Un X) : IxR X rDG := by
  intro value slice pins s σ H x y v u Q I rx ry h hs
  obtain ⟨a, z, rfl, g, q⟩ := h
  obtain rfl : v = Value.ref a := rx
  exact tail_any (dict_typeIs I g) PySem.F.slot_dict_getitem.lookup (d_getItem (by have := hu; show X.A.units + 1 < cLine; omega) I g ry fun w' s3 I3 rw' => ⟨z, H, I3, rw', q⟩) hs
theorem ix_W (hu : Un X) : IxR X (rW X.K oIx) := by
  intro value slice pins s σ H x y v u Q I rx ry h hs
  obtain ⟨s', a, b, ok, ra, rb, h⟩ := h
  have pa := vw_ok ok ra
  have pb := vw_ok ok rb
  unfold oIx at h
  split at h
  · rename_i t ws ea
    rw [ea] at pa
    split at h
    · rename_i i eb
      rw [eb] at pb
      obtain ⟨p, vs, e, h1, r1⟩ := pa
      cases ei : atI ws i with
      | none => rw [ei] at h; exact h.elim
      | some w =>
        rw [ei] at h
        obtain ⟨z, ez, rz⟩ := relWs_atI r1 ei
        have q := PostO.here (w := w) (v := z) h ok rz
        cases t with
        | true => exact ix_tup value slice pins s σ H x y v u Q I rx ry ⟨p, vs, i, z, e, pb, .inl (.inl h1), ez, q⟩ hs
        | false => exact ix_list value slice pins s σ H x y v u Q I rx ry ⟨p, vs, i, z, e, pb, .inl (.inl h1), ez, q⟩ hs
    · exact h.elim
  · rename_i z ea
    rw [ea] at pa
    split at h
    · rename_i i eb
      rw [eb] at pb
      split at h
      · rename_i hl
        cases ei : atI z.cps.toList i with
        | none => rw [ei] at h; exact h.elim
        | some c =>
          rw [ei] at h
          exact ix_str value slice pins s σ H x y v u Q I rx ry ⟨z, i, c, pa, pb, hl, ei, PostO.here (w := .d (.str ⟨#[c]⟩)) h ok (rl_str _)⟩ hs
      · exact h.elim
    · exact h.elim
  · rename_i kvs ea
    rw [ea] at pa
    split at h
    · rename_i k eb
      obtain ⟨p, ps, e1, h1, r1⟩ := pa
      cases eg : getK kvs k with
      | none => rw [eg] at h; exact h.elim
      | some w =>
        rw [eg] at h
        obtain ⟨z, ez, rz⟩ := (relK_val r1 k).2 w eg
        refine ix_dict hu value slice pins s σ H x y v u Q I rx ry ⟨p, z, e1, ?_, PostO.here (w := w) h ok rz⟩ hs
        rw [keyOf_ok pb eb, ← ez]; exact .inl ⟨_, _, h1, rfl, rfl⟩
    · exact h.elim
  · rename_i kvs ea
    rw [ea] at pa
    split at h
    · rename_i k eb
      obtain ⟨p, ps, e1, h1, r1⟩ := pa
      obtain ⟨c, ec, hc⟩ := tkeyOf_ok ok rb eb
      cases eg : getK kvs k with
      | none => rw [eg] at h; exact h.elim
      | some w =>
        rw [eg] at h
        obtain ⟨z, ez, rz⟩ := (relK_val r1 k).2 w eg
        refine ix_dict hu value slice pins s σ H x y v u Q I rx ry ⟨p, z, e1, ?_, PostO.here (w := w) h ok rz⟩ hs
        rw [ec, ← ez]; exact DGet.t h1 hc
    · exact h.elim
  · exact h.elim
end

/-! ### a[i:j] -/
def cutW {α : Type} (xs : List α) (lo hi : Option Int) : List α := (xs.drop (HT.sIx xs.length 0 lo)).take (HT.sIx xs.length xs.length hi - HT.sIx xs.length 0 lo)
def oSl (fz : Bool) (a : W) (lo hi : Option Int) (st : Store) : O := match a with
  | .d (.seq t xs) => if fz = true then some (.d (.seq t (cutW xs lo hi)), st) else if t = true then none else mkS false false ((cutW xs lo hi).map .d) st
  | a => match vw st a with
    | .sq false ws => mkS fz false (cutW ws lo hi) st
    | .str x => if x.length ≤ sizeLine then some (.d (.str (cutS x lo hi)), st) else none
    | _ => none
def rWSl (K : PySem.W.Frag) (f : W → Option Int → Option Int → Store → O) : V → Option Int → Option Int → Hp → VK → Prop := fun x lo hi H Q => ∃ s a, OkW K s H ∧ RelW K s a x ∧ PostO K s H (f a lo hi s.st) Q
section
variable {X : Cx}
theorem relWs_drop {K : PySem.W.Frag} {s : Wd} : ∀ (n : Nat) {ws : List W} {vs : List V}, RelWs K s ws vs → RelWs K s (ws.drop n) (vs.drop n)
  | 0, _, _, h => h
  | n + 1, _, _, .nil => .nil
  | n + 1, _, _, .cons h t => relWs_drop n t
theorem relWs_take {K : PySem.W.Frag} {s : Wd} : ∀ (n : Nat) {ws : List W} {vs : List V}, RelWs K s ws vs → RelWs K s (ws.take n) (vs.take n)
  | 0, _, _, h => .nil
  | n + 1, _, _, .nil => .nil
  | n + 1, _, _, .cons h t => .cons h (relWs_take n t)
theorem relWs_cut {K : PySem.W.Frag} {s : Wd} {ws : List W} {vs : List V} (h : RelWs K s ws vs) (lo hi : Option Int) : RelWs K s (cutW ws lo hi) (cutV vs lo hi) := by
  unfold cutW cutV
  rw [← h.length]
  exact relWs_take _ (relWs_drop _ h)
end
end IL

set_option maxHeartbeats 4000007
namespace IL
open PySem PySem.Spec
open PyProof.Rows L2

section
variable {X : Cx}
theorem cut_map {α β : Type} (f : α → β) (xs : List α) (lo hi : Option Int) : (cutW xs lo hi).map f = cutW (xs.map f) lo hi := by
  unfold cutW
  rw [List.map_take, List.map_drop, List.length_map]
theorem rps_cut {K : PySem.W.Frag} {s : Wd} {xs : List D} {vs : List V} (h : Rps K s.F xs vs) (lo hi : Option Int) : Rps K s.F (cutW xs lo hi) (cutV vs lo hi) := by
  have r := relWs_cut (rps_rel h) lo hi
  rw [← cut_map] at r
  have : allD ((cutW xs lo hi).map W.d) = some (cutW xs lo hi) := by
    generalize cutW xs lo hi = ys
    induction ys with
    | nil => rfl
    | cons y ys ih => simp only [List.map_cons, allD, ih, Option.map_some]
  exact allD_rel this r
theorem allD_map (ys : List D) : allD (ys.map W.d) = some ys := by
  induction ys with
  | nil => rfl
  | cons y ys ih => simp only [List.map_cons, allD, ih, Option.map_some]
theorem cut_whole {xs : List D} {lo hi : Option Int} (h : HT.sIx xs.length 0 lo = 0 ∧ HT.sIx xs.length xs.length hi = xs.length) : cutW xs lo hi = xs := by
  unfold cutW
  rw [h.1, h.2]
  simp
theorem sl_W {fz : Bool} : SlR X (rWSl X.K (oSl fz)) := by
  intro pins s σ H x v vl vu lo hi sl Q I rx hs pl pu h
  obtain ⟨s', a, ok, ra, h⟩ := h
  unfold oSl at h
  split at h
  · rename_i t xs
    have ra' : Rp X.K s'.F (.seq t xs) x := ra
    simp only [Rp] at ra'
    obtain ⟨p, vs, ev, h1, h2⟩ := ra'
    have h1' := ok.sub _ _ h1
    have hlen : vs.length = xs.length := by
      have := Paired.length (rps_to h2); omega
    by_cases hf : fz = true
    · rw [if_pos hf] at h
      have q : ∀ z, H z = none → Q (.ref z) (upd H z (seqO t (cutV vs lo hi))) := fun z hz => by
        refine h (.ref z) _ (frzAt s' z (seqO t (cutV vs lo hi))) rfl (ok_frz _ ok hz) (tr_frz _ ok hz) ?_
        show Rp X.K _ (.seq t _) _
        simp only [Rp]
        exact ⟨z, cutV vs lo hi, rfl, upd_same, Rps.mono (tr_frz _ ok hz).F _ _ (rps_cut h2 lo hi)⟩
      cases t with
      | false => exact sl_list pins s σ H x v vl vu lo hi sl Q I rx hs pl pu ⟨p, vs, ev, .inl (.inl h1'), q⟩
      | true =>
        refine sl_tupA pins s σ H x v vl vu lo hi sl Q I rx hs pl pu ⟨p, vs, ev, .inl (.inl h1'), fun hw => ?_, fun _ => q⟩
        rw [hlen] at hw
        refine h (.ref p) H s' rfl ok (Tr.refl _ _) ?_
        rw [cut_whole hw]
        rw [← ev]
        exact ra
    · rw [if_neg hf] at h
      cases t with
      | true => exact h.elim
      | false =>
        rw [if_neg Bool.false_ne_true] at h
        refine sl_list pins s σ H x v vl vu lo hi sl Q I rx hs pl pu ⟨p, vs, ev, .inl (.inl h1'), fun z hz => ?_⟩
        exact postO_seq h ok (rps_rel (rps_cut h2 lo hi)) hz
  · have pa := vw_ok ok ra
    split at h
    · rename_i ws ea
      rw [ea] at pa
      obtain ⟨p, vs, e, h1, r1⟩ := pa
      exact sl_list pins s σ H x v vl vu lo hi sl Q I rx hs pl pu ⟨p, vs, e, .inl (.inl h1), fun z hz => postO_seq h ok (relWs_cut r1 lo hi) hz⟩
    · rename_i z ea
      rw [ea] at pa
      split at h
      · rename_i hl
        exact sl_str pins s σ H x v vl vu lo hi sl Q I rx hs pl pu ⟨z, pa, hl, h.here ok (rl_str _)⟩
      · exact h.elim
    · exact h.elim
end

/-! ### methods that change a list -/
def oAppend (a : W) (ws : List W) (st : Store) : O := match a, ws with
  | .loc n, [w] => match st[n]? with
    | some (.lst xs) => if xs.length < sizeLine then some (.d .non, st.set n (.lst (xs ++ [w]))) else none
    | _ => none
  | _, _ => none
def oExtend (a : W) (ws : List W) (st : Store) : O := match a, ws with
  | .loc n, [w] => match st[n]? with
    | some (.lst xs) => match vw st w with
      | .sq false ys => if xs.length + ys.length ≤ sizeLine then some (.d .non, st.set n (.lst (xs ++ ys))) else none
      | _ => none
    | _ => none
  | _, _ => none
def oPopAt (a : W) (ws : List W) (st : Store) : O := match a, ws with
  | .loc n, [w] => match st[n]? with
    | some (.lst xs) => match vw st w with
      | .int i => if -(2 ^ 63) ≤ i ∧ i < 2 ^ 63 then (match seqIndex? i xs.length with
        | some k => (xs[k]?).map fun y => (y, st.set n (.lst (xs.eraseIdx k)))
        | none => none) else none
      | _ => none
    | _ => none
  | _, _ => none
def oPop (a : W) (ws : List W) (st : Store) : O := match a, ws with
  | .loc n, [] => match st[n]? with
    | some (.lst xs) => (xs[xs.length - 1]?).map fun y => (y, st.set n (.lst xs.dropLast))
    | _ => none
  | _, _ => none
section
variable {X : Cx}
theorem loc_lst {K : PySem.W.Frag} {s : Wd} {H : Hp} (ok : OkW K s H) {n : Nat} {v : V} {xs : List W} (r : RelW K s (.loc n) v) (e : s.st[n]? = some (.lst xs)) :
    ∃ vs, v = .ref (s.φ n) ∧ H (s.φ n) = some (.lst vs) ∧ s.F (s.φ n) = none ∧ RelWs K s xs vs := by
  obtain ⟨vs, h1, h2, h3⟩ := ok.obj n _ e
  exact ⟨vs, r.2, h1, h2, h3⟩
theorem wrt_lst {K : PySem.W.Frag} {s : Wd} {H : Hp} (ok : OkW K s H) {n : Nat} {xs ys : List W} {vs : List V} (e : s.st[n]? = some (.lst xs)) (hf : s.F (s.φ n) = none) (r : RelWs K s ys vs) :
    OkW K (wrt s n (.lst ys)) (upd H (s.φ n) (.lst vs)) ∧ Tr s H (wrt s n (.lst ys)) (upd H (s.φ n) (.lst vs)) := by
  have t : Tr s H (wrt s n (.lst ys)) (upd H (s.φ n) (.lst vs)) := tr_wrt ok e rfl
  exact ⟨ok_wrt ok e rfl rfl ⟨vs, upd_same, hf, r.tr t⟩, t⟩
theorem mt_appendW : MtR X "list.append" (rWm X.K oAppend) := by
  intro pins s σ H x xs v us Q I rx rs h
  obtain ⟨s', a, ws, ok, ra, rw, h⟩ := h
  unfold oAppend at h
  split at h
  · rename_i n w
    obtain ⟨z, rfl, rz⟩ := relWs1' rw
    split at h
    · rename_i ys es
      split at h
      · rename_i hl
        obtain ⟨vs, ev, h1, h2, r1⟩ := loc_lst ok ra es
        obtain ⟨o2, t2⟩ := wrt_lst ok es h2 (relWs_append r1 (.cons rz .nil))
        exact mt_append pins s σ H x _ v us Q I rx rs ⟨_, vs, z, ev, rfl, h1, by rw [← r1.length]; exact hl, h _ _ _ rfl o2 t2 rl_non⟩
      · exact h.elim
    · exact h.elim
  · exact h.elim
theorem mt_extendW : MtR X "list.extend" (rWm X.K oExtend) := by
  intro pins s σ H x xs v us Q I rx rs h
  obtain ⟨s', a, ws, ok, ra, rw, h⟩ := h
  unfold oExtend at h
  split at h
  · rename_i n w
    obtain ⟨z, rfl, rz⟩ := relWs1' rw
    split at h
    · rename_i ys es
      have pz := vw_ok ok rz
      split at h
      · rename_i zs ez
        rw [ez] at pz
        obtain ⟨q, qs, eq, hq, rq⟩ := pz
        split at h
        · rename_i hl
          obtain ⟨vs, ev, h1, h2, r1⟩ := loc_lst ok ra es
          obtain ⟨o2, t2⟩ := wrt_lst ok es h2 (relWs_append r1 rq)
          exact mt_extend pins s σ H x _ v us Q I rx rs ⟨_, q, vs, qs, ev, by rw [eq], h1, hq, by rw [← r1.length, ← rq.length]; exact hl, h _ _ _ rfl o2 t2 rl_non⟩
        · exact h.elim
      · exact h.elim
    · exact h.elim
  · exact h.elim
theorem relWs_erase {K : PySem.W.Frag} {s : Wd} : ∀ (n : Nat) {ws : List W} {vs : List V}, RelWs K s ws vs → RelWs K s (ws.eraseIdx n) (vs.eraseIdx n)
  | _, _, _, .nil => .nil
  | 0, _, _, .cons h t => t
  | n + 1, _, _, .cons h t => .cons h (relWs_erase n t)
theorem relWs_dropLast {K : PySem.W.Frag} {s : Wd} {ws : List W} {vs : List V} (h : RelWs K s ws vs) : RelWs K s ws.dropLast vs.dropLast := by
  rw [List.dropLast_eq_take, List.dropLast_eq_take, ← h.length]
  exact relWs_take _ h
theorem mt_popAtW : MtR X "list.pop" (rWm X.K oPopAt) := by
  intro pins s σ H x xs v us Q I rx rs h
  obtain ⟨s', a, ws, ok, ra, rw, h⟩ := h
  unfold oPopAt at h
  split at h
  · rename_i n w
    obtain ⟨z, rfl, rz⟩ := relWs1' rw
    split at h
    · rename_i ys es
      have pz := vw_ok ok rz
      split at h
      · rename_i i ez
        rw [ez] at pz
        split at h
        · rename_i hb
          split at h
          · rename_i k hk
            cases ey : ys[k]? with
            | none => rw [ey] at h; exact h.elim
            | some y =>
              rw [ey] at h
              obtain ⟨vs, ev, h1, h2, r1⟩ := loc_lst ok ra es
              obtain ⟨u1, hu1, ru1⟩ := relWs_get r1 ey
              obtain ⟨o2, t2⟩ := wrt_lst ok es h2 (relWs_erase k r1)
              exact mt_popAt pins s σ H x _ v us Q I rx rs ⟨_, vs, i, k, u1, ev, by rw [show z = .int i from pz], h1, hb.1, hb.2, by rw [← r1.length]; exact hk, hu1, h _ _ _ rfl o2 t2 (RelW.tr t2 ru1)⟩
          · exact h.elim
        · exact h.elim
      · exact h.elim
    · exact h.elim
  · exact h.elim
theorem mt_popW : MtR X "list.pop" (rWm X.K oPop) := by
  intro pins s σ H x xs v us Q I rx rs h
  obtain ⟨s', a, ws, ok, ra, rw, h⟩ := h
  unfold oPop at h
  split at h
  · rename_i n
    have e0 := relWs0' rw
    subst e0
    split at h
    · rename_i ys es
      cases ey : ys[ys.length - 1]? with
      | none => rw [ey] at h; exact h.elim
      | some y =>
        rw [ey] at h
        obtain ⟨vs, ev, h1, h2, r1⟩ := loc_lst ok ra es
        obtain ⟨u1, hu1, ru1⟩ := relWs_get r1 ey
        obtain ⟨o2, t2⟩ := wrt_lst ok es h2 (relWs_dropLast r1)
        exact mt_pop pins s σ H x _ v us Q I rx rs ⟨_, vs, u1, ev, rfl, h1, by rw [← r1.length]; exact hu1, h _ _ _ rfl o2 t2 (RelW.tr t2 ru1)⟩
    · exact h.elim
  · exact h.elim
end

/-! ### sorted, min, max of alike data -/
def leD (x y : D) : Bool := !ltD y x
def alAll (xs : List D) : Bool := xs.all fun x => xs.all fun y => alD x y
def srtOk (xs : List D) : Bool := alAll xs && ((xs.all fun x => match x with | .seq true (_ :: _) => true | _ => false) || (xs.all fun x => match x with | .seq true _ => false | _ => true))
def oSorted (fz : Bool) : List W → Store → O
  | [a], st => match vw st a with
    | .sq false ws => match allD ws with
      | some xs => if xs.length ≤ sizeLine ∧ srtOk xs = true then mkS fz false ((xs.mergeSort leD).map .d) st else none
      | none => none
    | _ => none
  | _, _ => none
def minDD (x : D) (xs : List D) : D := xs.foldl (fun a y => if ltD y a = true then y else a) x
def maxDD (x : D) (xs : List D) : D := xs.foldl (fun a y => if ltD a y = true then y else a) x
def oMin : List W → Store → O
  | [a], st => match vw st a with
    | .sq false ws => match allD ws with
      | some (x :: xs) => if alAll (x :: xs) = true then some (.d (minDD x xs), st) else none
      | _ => none
    | _ => none
  | _, _ => none
def oMax : List W → Store → O
  | [a], st => match vw st a with
    | .sq false ws => match allD ws with
      | some (x :: xs) => if alAll (x :: xs) = true then some (.d (maxDD x xs), st) else none
      | _ => none
    | _ => none
  | _, _ => none
section
variable {X : Cx}
mutual
theorem toPy_inj : ∀ x y : D, (toPy x).plain = true → (toPy y).plain = true → toPy x = toPy y → x = y
  | .non, y, _, h, e => by cases y with | non => rfl | seq t xs => cases t <;> simp [toPy] at e | _ => simp [toPy] at e
  | .bl b, y, _, h, e => by cases y with | bl c => simp [toPy] at e; rw [e] | seq t xs => cases t <;> simp [toPy] at e | _ => simp [toPy] at e
  | .int b, y, _, h, e => by cases y with | int c => simp [toPy] at e; rw [e] | seq t xs => cases t <;> simp [toPy] at e | _ => simp [toPy] at e
  | .str b, y, _, h, e => by cases y with | str c => simp [toPy] at e; rw [e] | seq t xs => cases t <;> simp [toPy] at e | _ => simp [toPy] at e
  | .seq t xs, y, h0, h, e => by
    cases y with
    | seq u ys =>
      cases t <;> cases u <;> simp [toPy] at e
      · simp [toPy, PyData.plain] at h0 h
        rw [toPys_inj xs ys h0 h e]
      · simp [toPy, PyData.plain] at h0 h
        rw [toPys_inj xs ys h0 h e]
    | _ => cases t <;> simp [toPy] at e
  | .dct _, y, h0, h, e => by simp [toPy, PyData.plain] at h0
  | .dcT _, y, h0, h, e => by simp [toPy, PyData.plain] at h0
  | .scr _, y, h0, h, e => by simp [toPy, PyData.plain] at h0
theorem toPys_inj : ∀ xs ys : List D, PyData.plainAll (toPys xs) = true → PyData.plainAll (toPys ys) = true → toPys xs = toPys ys → xs = ys
  | [], [], _, _, _ => rfl
  | [], y :: ys, _, _, e => by simp [toPys] at e
  | x :: xs, [], _, _, e => by simp [toPys] at e
  | x :: xs, y :: ys, h1, h2, e => by
    simp only [toPys, PyData.plainAll, Bool.and_eq_true] at h1 h2
    simp only [toPys, List.cons.injEq] at e
    rw [toPy_inj x y h1.1 h2.1 e.1, toPys_inj xs ys h1.2 h2.2 e.2]
end
theorem alAll_of {xs : List D} (h : alAll xs = true) : ∀ x ∈ xs, ∀ y ∈ xs, alD x y = true := by
  unfold alAll at h
  intro x hx y hy
  have := List.all_eq_true.mp h x hx
  exact List.all_eq_true.mp this y hy
theorem alikes {xs : List D} (h : alAll xs = true) : PySem.W.AllAlike (xs.map toPy) := by
  intro d hd d' hd'
  obtain ⟨x, hx, rfl⟩ := List.mem_map.mp hd
  obtain ⟨y, hy, rfl⟩ := List.mem_map.mp hd'
  exact (alD_of (alAll_of h x hx y hy)).1
theorem sortables {xs : List D} (h : srtOk xs = true) : PySem.W.Sortable (xs.map toPy) := by
  unfold srtOk at h
  obtain ⟨h0, h⟩ := Bool.and_eq_true_iff.mp h
  rcases Bool.or_eq_true_iff.mp h with h | h
  · refine .inl fun d hd => ?_
    obtain ⟨x, hx, rfl⟩ := List.mem_map.mp hd
    have := List.all_eq_true.mp h x hx
    split at this
    · rename_i y ys
      exact ⟨toPy y, toPys ys, by simp [toPy, toPys]⟩
    · cases this
  · refine .inr fun d hd => ?_
    obtain ⟨x, hx, rfl⟩ := List.mem_map.mp hd
    have := List.all_eq_true.mp h x hx
    refine ⟨(alD_of (alAll_of h0 x hx x hx)).2.1, fun ys e => ?_⟩
    cases x with
    | seq t xs => cases t with
      | true => simp at this
      | false => simp [toPy] at e
    | _ => simp [toPy] at e
theorem sort_pairs (ps : List (V × D)) : (ps.mergeSort (PySem.W.dataLe false fun p => toPy p.2)).map (·.2) = (ps.map (·.2)).mergeSort leD := by
  refine List.map_mergeSort fun a ha b hb => ?_
  rw [PySem.W.dataLe_eq]
  rfl
theorem sorted_rel {K : PySem.W.Frag} {s : Wd} : ∀ {ps : List (V × D)}, (∀ p ∈ ps, Rp K s.F p.2 p.1) → RelWs K s ((ps.map (·.2)).map .d) (ps.map (·.1))
  | [], _ => .nil
  | p :: ps, h => .cons (h p (List.mem_cons_self ..)) (sorted_rel fun q hq => h q (List.mem_cons_of_mem _ hq))
theorem zip_pairs {K : PySem.W.Frag} {F : Hp} : ∀ {xs : List D} {vs : List V}, Rps K F xs vs → ∃ ps : List (V × D), ps.map (·.2) = xs ∧ ps.map (·.1) = vs ∧ ∀ p ∈ ps, Rp K F p.2 p.1
  | [], vs, h => by simp only [Rps] at h; subst h; exact ⟨[], rfl, rfl, fun _ h => nomatch h⟩
  | x :: xs, vs, h => by
    simp only [Rps] at h
    obtain ⟨v, r, rfl, h1, h2⟩ := h
    obtain ⟨ps, e1, e2, e3⟩ := zip_pairs h2
    exact ⟨(v, x) :: ps, by simp [e1], by simp [e2], fun p hp => by
      rcases List.mem_cons.mp hp with rfl | hp
      · exact h1
      · exact e3 p hp⟩
theorem each_of {ps : List (V × D)} {its : List Value} (r : Vals (ps.map (·.1)) its) : PySem.W.EachIs (fun u (p : V × D) => RelV p.1 u) its ps := by
  induction ps generalizing its with
  | nil => cases r; exact .nil
  | cons p ps ih =>
    cases r with
    | cons h t => exact .cons h (ih t)
theorem vals_each {ps : List (V × D)} {its : List Value} (r : PySem.W.EachIs (fun u (p : V × D) => RelV p.1 u) its ps) : Vals (ps.map (·.1)) its := by
  induction r with
  | nil => exact .nil
  | cons h t ih => exact .cons h ih
theorem each_imp {α β : Type} {R S : α → β → Prop} : ∀ {as : List α} {bs : List β}, PySem.W.EachIs R as bs → (∀ a b, b ∈ bs → R a b → S a b) → PySem.W.EachIs S as bs
  | _, _, .nil, _ => .nil
  | _, _, .cons h t, k => .cons (k _ _ (List.mem_cons_self ..) h) (each_imp t fun a b hb => k a b (List.mem_cons_of_mem _ hb))
theorem call_sortedW (hu : Un X) {fz : Bool} : CallR X (.builtin "sorted") (rWs X.K (oSorted fz)) := by
  intro pins s σ H xs us Q I r h
  obtain ⟨s', ws, ok, rw, h⟩ := h
  unfold oSorted at h
  split at h
  · rename_i a
    obtain ⟨v, rfl, ra⟩ := relWs1' rw
    have pa := vw_ok ok ra
    split at h
    · rename_i zs ea
      rw [ea] at pa
      obtain ⟨p, vs, e, h1, r1⟩ := pa
      split at h
      · rename_i ys ey
        split at h
        · rename_i hh
          obtain ⟨hl, hso⟩ := hh
          have hal : alAll ys = true := (Bool.and_eq_true_iff.mp hso).1
          obtain ⟨ps, e1, e2, e3⟩ := zip_pairs (allD_rel ey r1)
          subst e
          obtain ⟨u, rfl, ru⟩ := vals1 r
          obtain rfl : u = Value.ref p := ru
          obtain ⟨its, rv, hpl, _⟩ := I.list (a := p) (xs := vs) (.inl (.inl h1))
          rw [← e2] at rv
          have eps : ps.map (fun q => toPy q.2) = ys.map toPy := by rw [← e1, List.map_map]; rfl
          have plx : ∀ q ∈ ps, plD q.2 = true := fun q hq => by
            have hm : q.2 ∈ ys := by rw [← e1]; exact List.mem_map_of_mem hq
            exact (alD_of (alAll_of hal _ hm _ hm)).2.2.1
          have hlen : ps.length = ys.length := by rw [← e1, List.length_map]
          refine PySem.W.sorted_data (R := fun u (q : V × D) => RelV q.1 u) (enc := fun q => toPy q.2) (bs := ps) hpl.isList (each_of rv) ?_ ?_ ?_ ?_ ?_ fun out ho hout => ?_
          · exact each_imp (each_of rv) fun u q hq rq => reads_of I (Rp.mono ok.sub _ _ (e3 q hq)) rq (plx q hq)
          · rw [eps]; exact alikes hal
          · rw [eps]; exact sortables hso
          · rw [hlen]; exact hl
          · intro q hq
            have := (plD_of (plx q hq)).2
            have hu' : X.A.units + 100 < cLine := hu
            omega
          · obtain ⟨ep, he'⟩ := PyProof.Rows.sortedAll_at s.heap its out.toArray
            have q1 := sort_pairs ps
            rw [e1] at q1
            have perm := List.mergeSort_perm ps (PySem.W.dataLe false fun p => toPy p.2)
            have rel : RelWs X.K s' ((ys.mergeSort leD).map .d) ((ps.mergeSort (PySem.W.dataLe false fun p => toPy p.2)).map (·.1)) := by
              rw [← q1]
              exact sorted_rel fun p hp => e3 p (perm.mem_iff.mp hp)
            have hz : H (s.heap.objs.size + 1) = none := I.hok.fresh (Nat.le_succ _)
            have fin := postO_seq h ok rel hz
            have hlen2 : ((ps.mergeSort (PySem.W.dataLe false fun p => toPy p.2)).map (·.1)).length ≤ sizeLine := by
              rw [List.length_map, perm.length_eq, hlen]; exact hl
            exact ⟨.ref (s.heap.objs.size + 1), _, I.laid (a := s.heap.objs.size + 1) (o := seqO false (List.map (fun x => x.fst) (ps.mergeSort (PySem.W.dataLe false fun p => toPy p.snd)))) (t' := s.toks) (fun _ _ => PyProof.Rows.sortedAll_old) (Nat.le_succ _) (show ObjOk _ _ _ _ _ (.lst _) from ⟨hlen2, out, ep, vals_each hout, he'⟩), rfl, fin⟩
        · exact h.elim
      · exact h.elim
    · exact h.elim
  · exact h.elim
end
end IL

set_option maxHeartbeats 4000007
namespace IL
open PySem PySem.Spec
open PyProof.Rows L2

theorem tG.mono {α β : Type} {rel : Rel α β} {K : PySem.W.Frag} {mg : Str → Option Value} {Wx : WX} {m : En → Store → R α} {σ : L2.St} {H : Hp} {Q Q' : β → Hp → Prop} (h : tG rel K mg Wx m σ H Q) (k : ∀ v H', Q v H' → Q' v H') : tG rel K mg Wx m σ H Q' :=
  let ⟨ρ, s, ok, en, p⟩ := h; ⟨ρ, s, ok, en, p.mono k⟩
section
variable {K : PySem.W.Frag} {s : Wd} {H : Hp} {p : Addr} {o : HO}
theorem ok_more (ok : OkW K s H) (hp : H p = none) : OkW K s (upd H p o) := by
  refine ⟨ok.sub.trans (HLe.upd hp), fun n so h => ?_, ok.inj, ok.nt⟩
  have q := ok.obj n so h
  cases so with
  | frz x => exact q
  | tabs T => exact LamX.Tabs.ext q (HLe.upd hp)
  | lst ws => obtain ⟨vs, h1, h2, h3⟩ := q; exact ⟨vs, HLe.upd hp _ _ h1, h2, h3⟩
  | tup ws => obtain ⟨vs, h1, h2, h3⟩ := q; exact ⟨vs, HLe.upd hp _ _ h1, h2, h3⟩
  | dK ws => obtain ⟨vs, h1, h2, h3⟩ := q; exact ⟨vs, HLe.upd hp _ _ h1, h2, h3⟩
  | dT ws => obtain ⟨vs, h1, h2, h3⟩ := q; exact ⟨vs, HLe.upd hp _ _ h1, h2, h3⟩
theorem tr_more (hp : H p = none) : Tr s H s (upd H p o) := by
  refine ⟨Nat.le_refl _, fun _ _ => rfl, HLe.refl _, fun _ _ h _ => h, fun n h1 h2 => absurd h2 (Nat.not_lt.mpr h1), fun a u h _ _ => HLe.upd hp a u h, fun a h => Fr.back hp h, fun a h => .inl h, rfl, fun T _ h => h.ext (HLe.upd hp), fun _ _ h => h⟩
end

/-! ### names, constants -/
def eV (i : Nat) : Ex := fun ρ st => match ρ[i]? with
  | some (some w) => .ok w st
  | _ => .bad
def eC (x : D) : Ex := fun _ st => .ok (.d x) st
section
variable {X : Cx} {Wx : WX} {pos : Pos}
theorem fe_v (i : Nat) {x : Str} (hN : X.N[i]? = some x := by rfl) (hv : Vis X.env.scope x := by first | exact Or.inl rfl | exact Or.inr (Or.inl rfl) | exact Or.inr (Or.inr rfl)) (hd : (x == ("__debug__" : Str)) = false := by decide)
    (hcd : (x == ("__classdict__" : Str)) = false := by decide) : FE X Wx (.Name x pos) (eV i) := PE.imp (pe_var hN hv hd hcd) fun σ H Q ⟨ρ, s, ok, en, h⟩ => by
  unfold eV at h
  split at h
  · rename_i w e
    obtain ⟨v, e1, r⟩ := en.get i w e
    exact ⟨v, e1, h.here ok r⟩
  · exact h.elim
theorem fe_int {i j} : FE X Wx (.Constant (.int i) j pos) (eC (.int i)) := PE.imp pe_int fun σ H Q ⟨ρ, s, ok, en, h⟩ => h.here ok (rl_int _)
theorem fe_bl {i j} : FE X Wx (.Constant (.bool i) j pos) (eC (.bl i)) := PE.imp pe_bl fun σ H Q ⟨ρ, s, ok, en, h⟩ => h.here ok (rl_bl _)
theorem fe_str {i j} : FE X Wx (.Constant (.str i) j pos) (eC (.str i)) := PE.imp pe_str fun σ H Q ⟨ρ, s, ok, en, h⟩ => h.here ok (rl_str _)
theorem fe_non {j} : FE X Wx (.Constant .none j pos) (eC .non) := PE.imp pe_non fun σ H Q ⟨ρ, s, ok, en, h⟩ => h.here ok rl_non
/-- a module's constant, a text -/
theorem fe_gstr {x z : Str} (hm : ∃ t, X.mg x = some (.str z t)) (hg : Gl X x := by rfl) (hd : (x == ("__debug__" : Str)) = false := by decide) : FE X Wx (.Name x pos) (eC (.str z)) := by
  obtain ⟨t, hm⟩ := hm
  exact PE.imp (pe_glob (v := .str z) hg hm ⟨t, rfl⟩ hd) fun σ H Q ⟨ρ, s, ok, en, h⟩ => h.here ok (rl_str _)
end

/-! ### operators -/
def mOp (f : W → W → Store → O) (ma mb : Ex) : Ex := fun ρ st => (ma ρ st).bind fun a st1 => (mb ρ st1).bind fun b st2 => R.of (f a b st2)
def mUn (f : W → Store → O) (ma : Ex) : Ex := fun ρ st => (ma ρ st).bind fun a st1 => R.of (f a st1)
def mT (m : Ex) : En → Store → R Bool := fun ρ st => (m ρ st).bind fun w st1 => match w with
  | .d (.bl k) => .ok k st1
  | _ => .bad
section
variable {X : Cx} {Wx : WX} {pos : Pos} {a b c : Expr} {ma mb mc : Ex}
theorem tOp_of {f : W → W → Store → O} {σ : L2.St} {H : Hp} {Q : VK} (h : tG (RelW X.K) X.K X.mg Wx (mOp f ma mb) σ H Q) : tOp (rW X.K f) (tG (RelW X.K) X.K X.mg Wx ma) (tG (RelW X.K) X.K X.mg Wx mb) σ H Q := by
  obtain ⟨ρ, s, ok, en, h⟩ := h
  refine (tg_bind (rel := RelW X.K) ok en h).mono fun x H1 ⟨w, s1, o1, t1, r1, e1, p1⟩ => ?_
  exact (tg_bind (rel := RelW X.K) o1 e1 p1).mono fun y H2 ⟨w2, s2, o2, t2, r2, e2, p2⟩ => ⟨s2, w, w2, o2, r1.tr t2, r2, postO_of p2⟩
theorem fe_op {op : Operator} {f : W → W → Store → O} (ho : OpR X (binaryOp op) (rW X.K f)) (ha : FE X Wx a ma) (hb : FE X Wx b mb) : FE X Wx (.BinOp a op b pos) (mOp f ma mb) :=
  PE.imp (pe_op ho ha hb) fun σ H Q h => tOp_of h
theorem fe_un {op : UnaryOp} {f : W → Store → O} (ho : UnR X (unaryOp op) (rW1 X.K f)) (ha : FE X Wx a ma) : FE X Wx (.UnaryOp op a pos) (mUn f ma) :=
  PE.imp (pe_un ho ha) fun σ H Q ⟨ρ, s, ok, en, h⟩ => (tg_bind (rel := RelW X.K) ok en h).mono fun x H1 ⟨w, s1, o1, t1, r1, e1, p1⟩ => ⟨s1, w, o1, r1, postO_of p1⟩
theorem fe_cmp {op : CmpOp} {f : W → W → Store → O} (ho : OpR X (compareOp op) (rW X.K f)) (ha : FE X Wx a ma) (hb : FE X Wx b mb) (hm : behindInMarks op b = false := by first | exact nomark _ | rfl) : FE X Wx (.Compare a [op] [b] pos) (mOp f ma mb) :=
  PE.imp (pe_cmpR ho ha hb hm) fun σ H Q h => tOp_of h
/-- the truth of a value that is a bool -/
theorem tB_of {m : Ex} {σ : L2.St} {H : Hp} {Q : Bool → Hp → Prop} (h : tG RelB X.K X.mg Wx (mT m) σ H Q) : tG (RelW X.K) X.K X.mg Wx m σ H (fun x H1 => ∃ k, x = .bl k ∧ Q k H1) := by
  obtain ⟨ρ, s, ok, en, h⟩ := h
  refine (tg_bind (rel := RelW X.K) ok en h).mono fun x H1 ⟨w, s1, o1, t1, r1, e1, p1⟩ => ?_
  split at p1
  · rename_i k
    have : Rp X.K s1.F (.bl k) x := r1
    simp only [Rp] at this
    exact ⟨k, this, p1.here o1 rfl⟩
  · exact p1.elim
theorem ft_cmp {op : CmpOp} {f : W → W → Store → O} (ho : OpR X (compareOp op) (rW X.K f)) (ha : FE X Wx a ma) (hb : FE X Wx b mb) (hm : behindInMarks op b = false := by first | exact nomark _ | rfl) : FT X Wx (.Compare a [op] [b] pos) (mT (mOp f ma mb)) :=
  PT.imp (pt_cmpR ho ha hb hm) fun σ H Q h => tOp_of (Wx := Wx) (tB_of h)
theorem ft_v {e : Expr} {m : Ex} (h : FE X Wx e m) (he : ∀ whole, isTrue e X.env whole = (do let v ← whole; standAt e.pos; holding [v] (truthy v)) := by intro _; rfl) : FT X Wx e (mT m) :=
  PT.imp (pt_val h he) fun σ H Q h => tB_of h
/-- a < b < c -/
def mChain (f g : W → W → Store → O) (ma mb mc : Ex) : Ex := fun ρ st => (ma ρ st).bind fun a st1 => (mb ρ st1).bind fun b st2 => (R.of (f a b st2)).bind fun w st3 => match w with
  | .d (.bl k) => if k = true then (mc ρ st3).bind fun c st4 => R.of (g b c st4) else .ok (.d (.bl false)) st3
  | _ => .bad
theorem postO_bind {K : PySem.W.Frag} {mg : Str → Option Value} {s : Wd} {H : Hp} {σ : L2.St} {o : O} {k : W → Store → R W} {Q : V → Hp → Prop} (h : PostG (RelW K) K mg Wx σ s H ((R.of o).bind k) Q) :
    PostO K s H o (fun v H1 => ∃ w s1, OkW K s1 H1 ∧ Tr s H s1 H1 ∧ RelW K s1 w v ∧ PostG (RelW K) K mg Wx σ s1 H1 (k w s1.st) Q) := postO_of (mg := mg) (Wx := Wx) (σ := σ) (post_bind (rel := RelW K) h)
theorem tChain_of {f g : W → W → Store → O} {σ : L2.St} {H : Hp} {Q : VK} (h : tG (RelW X.K) X.K X.mg Wx (mChain f g ma mb mc) σ H Q) :
    tChain (rW X.K f) (rW X.K g) (tG (RelW X.K) X.K X.mg Wx ma) (tG (RelW X.K) X.K X.mg Wx mb) (tG (RelW X.K) X.K X.mg Wx mc) σ H Q := by
  obtain ⟨ρ, s, ok, en, h⟩ := h
  refine (tg_bind (rel := RelW X.K) ok en h).mono fun x H1 ⟨w, s1, o1, t1, r1, e1, p1⟩ => ?_
  refine (tg_bind (rel := RelW X.K) o1 e1 p1).mono fun y H2 ⟨w2, s2, o2, t2, r2, e2, p2⟩ => ?_
  refine ⟨s2, w, w2, o2, r1.tr t2, r2, ?_⟩
  have q := postO_bind p2
  cases ef : f w w2 s2.st with
  | none => rw [ef] at q; exact q
  | some z =>
    rw [ef] at q
    intro v H' s' es ok' tr' rv
    obtain ⟨w3, s3, o3, t3, r3, p3⟩ := q v H' s' es ok' tr' rv
    split at p3
    · rename_i k
      have : Rp X.K s3.F (.bl k) v := r3
      simp only [Rp] at this
      refine ⟨k, this, ?_⟩
      cases k with
      | true =>
        rw [if_pos rfl] at p3 ⊢
        exact (tg_bind (rel := RelW X.K) o3 (e2.tr t3) p3).mono fun z H4 ⟨w4, s4, o4, t4, r4, e4, p4⟩ => ⟨s4, w2, w4, o4, (r2.tr t3).tr t4, r4, postO_of p4⟩
      | false =>
        rw [if_neg Bool.false_ne_true] at p3 ⊢
        exact p3.here o3 (rl_bl _)
    · exact p3.elim
end
end IL

set_option maxHeartbeats 4000007
namespace IL
open PySem PySem.Spec
open PyProof.Rows L2

section
variable {X : Cx} {Wx : WX} {pos : Pos} {a b c : Expr} {ma mb mc : Ex}
theorem fe_chain {op op' : CmpOp} {f g : W → W → Store → O} (ho : OpR X (compareOp op) (rW X.K f)) (ho' : OpR X (compareOp op') (rW X.K g)) (ha : FE X Wx a ma) (hb : FE X Wx b mb) (hc : FE X Wx c mc)
    (hm : lastMarks [op, op'] [b, c] = false := by with_unfolding_all rfl) : FE X Wx (.Compare a [op, op'] [b, c] pos) (mChain f g ma mb mc) :=
  PE.imp (pe_chain ho ho' ha hb hc hm) fun σ H Q h => tChain_of h
theorem ft_chain {op op' : CmpOp} {f g : W → W → Store → O} (ho : OpR X (compareOp op) (rW X.K f)) (ho' : OpR X (compareOp op') (rW X.K g)) (ha : FE X Wx a ma) (hb : FE X Wx b mb) (hc : FE X Wx c mc)
    (hm : lastMarks [op, op'] [b, c] = false := by with_unfolding_all rfl) : FT X Wx (.Compare a [op, op'] [b, c] pos) (mT (mChain f g ma mb mc)) :=
  PT.imp (pt_chain ho ho' ha hb hc hm) fun σ H Q h => tChain_of (Wx := Wx) (tB_of h)
end

/-! ### and, or, not, if -/
abbrev Tx := En → Store → R Bool
def mAnd (m1 m2 : Tx) : Tx := fun ρ st => (m1 ρ st).bind fun k st1 => if k = true then m2 ρ st1 else .ok false st1
def mOr (m1 m2 : Tx) : Tx := fun ρ st => (m1 ρ st).bind fun k st1 => if k = true then .ok true st1 else m2 ρ st1
def mNot (m1 : Tx) : Tx := fun ρ st => (m1 ρ st).bind fun k st1 => .ok (!k) st1
def mAndV (m1 m2 : Ex) : Ex := fun ρ st => (m1 ρ st).bind fun w st1 => match w with
  | .d (.bl k) => if k = true then m2 ρ st1 else .ok (.d (.bl false)) st1
  | _ => .bad
def mOrV (m1 m2 : Ex) : Ex := fun ρ st => (m1 ρ st).bind fun w st1 => match w with
  | .d (.bl k) => if k = true then .ok (.d (.bl true)) st1 else m2 ρ st1
  | _ => .bad
def mNotV (m1 : Ex) : Ex := fun ρ st => (m1 ρ st).bind fun w st1 => match w with
  | .d (.bl k) => .ok (.d (.bl (!k))) st1
  | _ => .bad
def mIf (t : Tx) (m1 m2 : Ex) : Ex := fun ρ st => (t ρ st).bind fun k st1 => if k = true then m1 ρ st1 else m2 ρ st1
def FW (X : Cx) (Wx : WX) (e : Expr) (m : Tx) : Prop := PW X e (tG RelB X.K X.mg Wx m)
section
variable {X : Cx} {Wx : WX} {pos : Pos} {a b c : Expr} {rest : List Expr} {ma mb mc : Ex} {t1 t2 : Tx}
theorem FW.ft (h : FW X Wx a t1) : FT X Wx a t1 := PW.pt h
theorem PW.imp {e : Expr} {t t' : TT} (h : PW X e t) (k : ∀ σ H Q, t' σ H Q → t σ H Q) : PW X e t' := ⟨fun whole pins s σ H Q I q => h.run whole pins s σ H Q I (k σ H Q q)⟩
theorem fw_and1 (ha : FT X Wx a t1) : FW X Wx (.BoolOp .And [a] pos) t1 := pw_and1 ha
theorem fw_or1 (ha : FT X Wx a t1) : FW X Wx (.BoolOp .Or [a] pos) t1 := pw_or1 ha
theorem fw_and (ha : FT X Wx a t1) (hb : FW X Wx (.BoolOp .And (b :: rest) pos) t2) : FW X Wx (.BoolOp .And (a :: b :: rest) pos) (mAnd t1 t2) :=
  PW.imp (pw_and ha hb) fun σ H Q ⟨ρ, s, ok, en, h⟩ => (tg_bind (rel := RelB) ok en h).mono fun x H1 ⟨w, s1, o1, tr, r1, e1, p1⟩ => by
    cases r1
    cases x with
    | true => rw [if_pos rfl] at p1 ⊢; exact ⟨ρ, s1, o1, e1, p1⟩
    | false => rw [if_neg Bool.false_ne_true] at p1 ⊢; exact p1.here o1 rfl
theorem fw_or (ha : FT X Wx a t1) (hb : FW X Wx (.BoolOp .Or (b :: rest) pos) t2) : FW X Wx (.BoolOp .Or (a :: b :: rest) pos) (mOr t1 t2) :=
  PW.imp (pw_or ha hb) fun σ H Q ⟨ρ, s, ok, en, h⟩ => (tg_bind (rel := RelB) ok en h).mono fun x H1 ⟨w, s1, o1, tr, r1, e1, p1⟩ => by
    cases r1
    cases x with
    | false => rw [if_neg Bool.false_ne_true] at p1 ⊢; exact ⟨ρ, s1, o1, e1, p1⟩
    | true => rw [if_pos rfl] at p1 ⊢; exact p1.here o1 rfl
theorem ft_not (ha : FT X Wx a t1) : FT X Wx (.UnaryOp .Not a pos) (mNot t1) :=
  PT.imp (pt_not ha) fun σ H Q ⟨ρ, s, ok, en, h⟩ => (tg_bind (rel := RelB) ok en h).mono fun x H1 ⟨w, s1, o1, tr, r1, e1, p1⟩ => by
    cases r1
    exact p1.here o1 rfl
theorem bl_of {K : PySem.W.Frag} {s : Wd} {k : Bool} {x : V} (h : RelW K s (.d (.bl k)) x) : x = .bl k := by
  have : Rp K s.F (.bl k) x := h
  simpa only [Rp] using this
theorem fe_one {op} (h : FE X Wx a ma) : FE X Wx (.BoolOp op [a] pos) ma := pe_one h
theorem fe_and (ha : FE X Wx a ma) (hb : FE X Wx (.BoolOp .And (b :: rest) pos) mb) : FE X Wx (.BoolOp .And (a :: b :: rest) pos) (mAndV ma mb) :=
  PE.imp (pe_and ha hb) fun σ H Q ⟨ρ, s, ok, en, h⟩ => (tg_bind (rel := RelW X.K) ok en h).mono fun x H1 ⟨w, s1, o1, tr, r1, e1, p1⟩ => by
    split at p1
    · rename_i k
      refine ⟨k, bl_of r1, ?_⟩
      cases k with
      | true => rw [if_pos rfl] at p1 ⊢; exact ⟨ρ, s1, o1, e1, p1⟩
      | false => rw [if_neg Bool.false_ne_true] at p1 ⊢; exact p1.here o1 (rl_bl _)
    · exact p1.elim
theorem fe_or (ha : FE X Wx a ma) (hb : FE X Wx (.BoolOp .Or (b :: rest) pos) mb) : FE X Wx (.BoolOp .Or (a :: b :: rest) pos) (mOrV ma mb) :=
  PE.imp (pe_or ha hb) fun σ H Q ⟨ρ, s, ok, en, h⟩ => (tg_bind (rel := RelW X.K) ok en h).mono fun x H1 ⟨w, s1, o1, tr, r1, e1, p1⟩ => by
    split at p1
    · rename_i k
      refine ⟨k, bl_of r1, ?_⟩
      cases k with
      | false => rw [if_neg Bool.false_ne_true] at p1 ⊢; exact ⟨ρ, s1, o1, e1, p1⟩
      | true => rw [if_pos rfl] at p1 ⊢; exact p1.here o1 (rl_bl _)
    · exact p1.elim
theorem fe_not (ha : FE X Wx a ma) : FE X Wx (.UnaryOp .Not a pos) (mNotV ma) :=
  PE.imp (pe_not ha) fun σ H Q ⟨ρ, s, ok, en, h⟩ => (tg_bind (rel := RelW X.K) ok en h).mono fun x H1 ⟨w, s1, o1, tr, r1, e1, p1⟩ => by
    split at p1
    · rename_i k
      exact ⟨k, bl_of r1, p1.here o1 (rl_bl _)⟩
    · exact p1.elim
theorem fe_if (hc : FT X Wx c t1) (ha : FE X Wx a ma) (hb : FE X Wx b mb) : FE X Wx (.IfExp c a b pos) (mIf t1 ma mb) :=
  PE.imp (pe_ifExp hc ha hb) fun σ H Q ⟨ρ, s, ok, en, h⟩ => (tg_bind (rel := RelB) ok en h).mono fun x H1 ⟨w, s1, o1, tr, r1, e1, p1⟩ => by
    cases r1
    cases x with
    | true => rw [if_pos rfl] at p1 ⊢; exact ⟨ρ, s1, o1, e1, p1⟩
    | false => rw [if_neg Bool.false_ne_true] at p1 ⊢; exact ⟨ρ, s1, o1, e1, p1⟩
end

/-! ### arguments, displays -/
abbrev Ax := En → Store → R (List W)
def mNil : Ax := fun _ st => .ok [] st
def mCons (m : Ex) (ms : Ax) : Ax := fun ρ st => (m ρ st).bind fun w st1 => (ms ρ st1).bind fun ws st2 => .ok (w :: ws) st2
def mStar (m : Ex) (ms : Ax) : Ax := fun ρ st => (m ρ st).bind fun w st1 => match vw st1 w with
  | .sq _ ws => (ms ρ st1).bind fun us st2 => .ok (ws ++ us) st2
  | _ => .bad
def mSeq (fz t : Bool) (ms : Ax) : Ex := fun ρ st => (ms ρ st).bind fun ws st1 => if ws.length ≤ sizeLine then R.of (mkS fz t ws st1) else .bad
def mCall (f : List W → Store → O) (ms : Ax) : Ex := fun ρ st => (ms ρ st).bind fun ws st1 => R.of (f ws st1)
/-- a method of a list -/
def mMeth (f : W → List W → Store → O) (m : Ex) (ms : Ax) : Ex := fun ρ st => (m ρ st).bind fun w st1 => match vw st1 w with
  | .sq false _ => (ms ρ st1).bind fun ws st2 => R.of (f w ws st2)
  | _ => .bad
section
variable {X : Cx} {Wx : WX} {pos apos cpos p p2 : Pos} {e o : Expr} {es : List Expr} {m mo : Ex} {ms : Ax}
theorem fa_nil : FA X Wx [] mNil := PA.imp pa_nil fun σ H Q ⟨ρ, s, ok, en, h⟩ => h.here ok .nil
theorem fa_cons (he : FE X Wx e m) (hr : FA X Wx es ms) (hs : starEach (e :: es) X.env = (false, eval e X.env) :: starEach es X.env := by rfl) : FA X Wx (e :: es) (mCons m ms) :=
  PA.imp (pa_cons he hr hs) fun σ H Q ⟨ρ, s, ok, en, h⟩ => (tg_bind (rel := RelW X.K) ok en h).mono fun x H1 ⟨w, s1, o1, t1, r1, e1, p1⟩ =>
    (tg_bind (rel := RelWs X.K) o1 e1 p1).mono fun xs H2 ⟨ws, s2, o2, t2, r2, e2, p2⟩ => p2.here o2 (.cons (r1.tr t2) r2)
theorem fa_star (he : FE X Wx e m) (hr : FA X Wx es ms) (hs : starEach (.Starred e p :: es) X.env = (true, eval e X.env) :: starEach es X.env := by rfl) : FA X Wx (.Starred e p :: es) (mStar m ms) :=
  PA.imp (StX.pa_star he hr hs) fun σ H Q ⟨ρ, s, ok, en, h⟩ => (tg_bind (rel := RelW X.K) ok en h).mono fun x H1 ⟨w, s1, o1, t1, r1, e1, p1⟩ => by
    have pw := vw_ok o1 r1
    split at p1
    · rename_i t ws ew
      rw [ew] at pw
      obtain ⟨q, vs, ev, h1, r⟩ := pw
      refine ⟨q, vs, ev, ?_, (tg_bind (rel := RelWs X.K) o1 e1 p1).mono fun xs H2 ⟨us, s2, o2, t2, r2, e2, p2⟩ => p2.here o2 (relWs_append (r.tr t2) r2)⟩
      cases t with
      | true => exact .inl (.inl (.inl h1))
      | false => exact .inr (.inl (.inl h1))
    · exact p1.elim
theorem fe_seqT {x1} (fz : Bool) (h : FA X Wx es ms) : FE X Wx (.Tuple es x1 pos) (mSeq fz true ms) :=
  PE.imp (pe_tup h) fun σ H Q ⟨ρ, s, ok, en, h⟩ => (tg_bind (rel := RelWs X.K) ok en h).mono fun xs H1 ⟨ws, s1, o1, t1, r1, e1, p1⟩ => by
    split at p1
    · rename_i hl
      exact ⟨by rw [← r1.length]; exact hl, fun z hz => postO_seq (t := true) (postO_of p1) o1 r1 hz⟩
    · exact p1.elim
theorem fe_seqL (fz : Bool) (h : FA X Wx es ms) : FE X Wx (.List es pos) (mSeq fz false ms) :=
  PE.imp (pe_lst h) fun σ H Q ⟨ρ, s, ok, en, h⟩ => (tg_bind (rel := RelWs X.K) ok en h).mono fun xs H1 ⟨ws, s1, o1, t1, r1, e1, p1⟩ => by
    split at p1
    · rename_i hl
      exact ⟨by rw [← r1.length]; exact hl, fun z hz => postO_seq (t := false) (postO_of p1) o1 r1 hz⟩
    · exact p1.elim
theorem tCB_of {f : List W → Store → O} {σ : L2.St} {H : Hp} {Q : VK} (h : tG (RelW X.K) X.K X.mg Wx (mCall f ms) σ H Q) : tCB (rWs X.K f) (tG (RelWs X.K) X.K X.mg Wx ms) σ H Q := by
  obtain ⟨ρ, s, ok, en, h⟩ := h
  exact (tg_bind (rel := RelWs X.K) ok en h).mono fun xs H1 ⟨ws, s1, o1, t1, r1, e1, p1⟩ => ⟨s1, ws, o1, r1, postO_of p1⟩
theorem fe_callB {x : Str} {id : String} {f : List W → Store → O} (hc : CallR X (.builtin id) (rWs X.K f)) (hm : X.mg x = none) (hv : bootBuiltins x = some (.builtin id)) (ha : FA X Wx (e :: es) ms) (hg : Gl X x := by rfl) (hn : x ≠ "__name__" := by decide) (hdb : (x == ("__debug__" : Str)) = false := by decide)
    (he : starEach (e :: es) X.env = (false, eval e X.env) :: starEach es X.env := by rfl) (hpl : (backTo pos (starEach es X.env)).any (·.1) = false := by rfl) : FE X Wx (.Call (.Name x p) (e :: es) [] pos) (mCall f ms) :=
  PE.imp (pe_callB hc hg hm hv ha hn hdb he hpl) fun σ H Q h => tCB_of h
theorem fe_callTy {x : Str} {T : String} {f : List W → Store → O} (hc : CallR X (.type T) (rWs X.K f)) (hm : X.mg x = none) (hv : bootBuiltins x = some (.type T)) (ha : FA X Wx (e :: es) ms) (hg : Gl X x := by rfl) (hn : x ≠ "__name__" := by decide) (hdb : (x == ("__debug__" : Str)) = false := by decide)
    (he : starEach (e :: es) X.env = (false, eval e X.env) :: starEach es X.env := by rfl) (hpl : (backTo pos (starEach es X.env)).any (·.1) = false := by rfl) : FE X Wx (.Call (.Name x p) (e :: es) [] pos) (mCall f ms) :=
  PE.imp (pe_callTy hc hg hm hv ha hn hdb he hpl) fun σ H Q h => tCB_of h
theorem fe_mlist {name : Str} {id : String} {f : W → List W → Store → O} (pa : PlainAttrs "list") (slot : Slot "list" name id) (hty : typeOf (.builtin id) = pure (.type "method_descriptor")) (hm : MtR X id (rWm X.K f)) (ho : FE X Wx o mo) (ha : FA X Wx (e :: es) ms)
    (hbase : attributeBase o name X.env (eval o X.env) = eval o X.env := by rfl)
    (hfew : ((backTo cpos (starEach (e :: es) X.env)).all (fun x => !x.1) && (backToKw cpos (keywordEach [] X.env)).all (fun x => x.1.isSome)
      && decide ((e :: es).length + ([] : List Keyword).length + (if ([] : List Keyword).isEmpty then 0 else 1) < 30)) = true := by rfl)
    (hline : (apos.endLine == cpos.line) = true := by rfl) (hs : starEach (e :: es) X.env = (false, eval e X.env) :: starEach es X.env := by rfl) (hplain : (backTo cpos (starEach es X.env)).any (·.1) = false := by rfl) :
    FE X Wx (.Call (.Attribute o name apos) (e :: es) [] cpos) (mMeth f mo ms) :=
  PE.imp (pe_bm pa slot hty hm ho ha hbase hfew hline hs hplain) fun σ H Q ⟨ρ, s, ok, en, h⟩ => (tg_bind (rel := RelW X.K) ok en h).mono fun x H1 ⟨w, s1, o1, t1, r1, e1, p1⟩ => by
    have pw := vw_ok o1 r1
    split at p1
    · rename_i ws ew
      rw [ew] at pw
      obtain ⟨q, vs, ev, h1, r⟩ := pw
      refine ⟨?_, (tg_bind (rel := RelWs X.K) o1 e1 p1).mono fun xs H2 ⟨us, s2, o2, t2, r2, e2, p2⟩ => ⟨s2, w, us, o2, r1.tr t2, r2, postO_of p2⟩⟩
      rw [ev]
      exact .inl ⟨rfl, vs, .inl (.inl h1)⟩
    · exact p1.elim
theorem fe_mlist0 {name : Str} {id : String} {f : W → List W → Store → O} (pa : PlainAttrs "list") (slot : Slot "list" name id) (hty : typeOf (.builtin id) = pure (.type "method_descriptor")) (hm : MtR X id (rWm X.K f)) (ho : FE X Wx o mo)
    (hbase : attributeBase o name X.env (eval o X.env) = eval o X.env := by rfl) (hline : (apos.endLine == cpos.line) = true := by rfl) : FE X Wx (.Call (.Attribute o name apos) [] [] cpos) (mMeth f mo mNil) :=
  PE.imp (pe_bm0 pa slot hty hm ho hbase hline) fun σ H Q ⟨ρ, s, ok, en, h⟩ => (tg_bind (rel := RelW X.K) ok en h).mono fun x H1 ⟨w, s1, o1, t1, r1, e1, p1⟩ => by
    have pw := vw_ok o1 r1
    split at p1
    · rename_i ws ew
      rw [ew] at pw
      obtain ⟨q, vs, ev, h1, r⟩ := pw
      refine ⟨?_, ⟨s1, w, [], o1, r1, .nil, postO_of p1⟩⟩
      rw [ev]
      exact .inl ⟨rfl, vs, .inl (.inl h1)⟩
    · exact p1.elim
theorem fe_append (ho : FE X Wx o mo) (ha : FA X Wx (e :: es) ms)
    (hbase : attributeBase o "append" X.env (eval o X.env) = eval o X.env := by rfl)
    (hfew : ((backTo cpos (starEach (e :: es) X.env)).all (fun x => !x.1) && (backToKw cpos (keywordEach [] X.env)).all (fun x => x.1.isSome)
      && decide ((e :: es).length + ([] : List Keyword).length + (if ([] : List Keyword).isEmpty then 0 else 1) < 30)) = true := by rfl)
    (hline : (apos.endLine == cpos.line) = true := by rfl) (hs : starEach (e :: es) X.env = (false, eval e X.env) :: starEach es X.env := by rfl) (hplain : (backTo cpos (starEach es X.env)).any (·.1) = false := by rfl) :
    FE X Wx (.Call (.Attribute o "append" apos) (e :: es) [] cpos) (mMeth oAppend mo ms) := fe_mlist PySem.F.plainAttrs_list PySem.F.slot_list_append PySem.F.type_list_append mt_appendW ho ha hbase hfew hline hs hplain
theorem fe_extend (ho : FE X Wx o mo) (ha : FA X Wx (e :: es) ms)
    (hbase : attributeBase o "extend" X.env (eval o X.env) = eval o X.env := by rfl)
    (hfew : ((backTo cpos (starEach (e :: es) X.env)).all (fun x => !x.1) && (backToKw cpos (keywordEach [] X.env)).all (fun x => x.1.isSome)
      && decide ((e :: es).length + ([] : List Keyword).length + (if ([] : List Keyword).isEmpty then 0 else 1) < 30)) = true := by rfl)
    (hline : (apos.endLine == cpos.line) = true := by rfl) (hs : starEach (e :: es) X.env = (false, eval e X.env) :: starEach es X.env := by rfl) (hplain : (backTo cpos (starEach es X.env)).any (·.1) = false := by rfl) :
    FE X Wx (.Call (.Attribute o "extend" apos) (e :: es) [] cpos) (mMeth oExtend mo ms) := fe_mlist PySem.F.plainAttrs_list PySem.F.slot_list_extend PySem.F.type_list_extend mt_extendW ho ha hbase hfew hline hs hplain
theorem fe_popAt (ho : FE X Wx o mo) (ha : FA X Wx (e :: es) ms)
    (hbase : attributeBase o "pop" X.env (eval o X.env) = eval o X.env := by rfl)
    (hfew : ((backTo cpos (starEach (e :: es) X.env)).all (fun x => !x.1) && (backToKw cpos (keywordEach [] X.env)).all (fun x => x.1.isSome)
      && decide ((e :: es).length + ([] : List Keyword).length + (if ([] : List Keyword).isEmpty then 0 else 1) < 30)) = true := by rfl)
    (hline : (apos.endLine == cpos.line) = true := by rfl) (hs : starEach (e :: es) X.env = (false, eval e X.env) :: starEach es X.env := by rfl) (hplain : (backTo cpos (starEach es X.env)).any (·.1) = false := by rfl) :
    FE X Wx (.Call (.Attribute o "pop" apos) (e :: es) [] cpos) (mMeth oPopAt mo ms) := fe_mlist PySem.F.plainAttrs_list PySem.F.slot_list_pop PySem.F.type_list_pop mt_popAtW ho ha hbase hfew hline hs hplain
theorem fe_pop0 (ho : FE X Wx o mo)
    (hbase : attributeBase o "pop" X.env (eval o X.env) = eval o X.env := by rfl) (hline : (apos.endLine == cpos.line) = true := by rfl) : FE X Wx (.Call (.Attribute o "pop" apos) [] [] cpos) (mMeth oPop mo mNil) :=
  fe_mlist0 PySem.F.plainAttrs_list PySem.F.slot_list_pop PySem.F.type_list_pop mt_popW ho hbase hline
end

/-! ### isinstance -/
def mIs (bs : List Ty) (m : Ex) : Ex := fun ρ st => (m ρ st).bind fun w st1 => match vtyIs (vw st1 w) bs with
  | some k => .ok (.d (.bl k)) st1
  | none => .bad
section
variable {X : Cx} {Wx : WX} {pos p p2 p3 p4 p5 : Pos} {e : Expr} {m : Ex}
theorem fe_is1 {x : Str} (b : Ty) (hm : X.mg "isinstance" = none) (hx : X.mg x = none) (hv : bootBuiltins x = some (.type b.nm)) (he : FE X Wx e m) (hg : Gl X "isinstance" := by rfl) (hgx : Gl X x := by rfl)
    (hn : x ≠ "__name__" := by decide) (hdb : (x == ("__debug__" : Str)) = false := by decide)
    (hs : starEach (e :: [.Name x p2]) X.env = (false, eval e X.env) :: starEach [.Name x p2] X.env := by rfl) (hpl : (backTo pos (starEach [.Name x p2] X.env)).any (·.1) = false := by rfl) : FE X Wx (.Call (.Name "isinstance" p) [e, .Name x p2] [] pos) (mIs [b] m) :=
  PE.imp (pe_callB call_isi hg hm (by decide +kernel) (pa_cons he (pa_cons (pe_bltn (v := .ty b.nm) hgx hx hv rfl hn hdb) pa_nil (by rfl)) hs) (by decide) (by decide) hs hpl)
    fun σ H Q ⟨ρ, s, ok, en, h⟩ => (tg_bind (rel := RelW X.K) ok en h).mono fun v H1 ⟨w, s1, o1, t1, r1, e1, p1⟩ => by
      have pw := vw_ok o1 r1
      rw [vtyIs_eq] at p1
      cases ew : vty (vw s1.st w) with
      | none => rw [ew] at p1; exact p1.elim
      | some a =>
        rw [ew] at p1
        refine ⟨v, .ty b.nm, .type a.nm, .type b.nm, tyIs a b, rfl, .ty _, tyX_of pw ew, tyIs_ok a b, p1.here o1 ?_⟩
        simp only [List.any_cons, List.any_nil, Bool.or_false]
        exact rl_bl _
theorem fe_is2 {x y : Str} {x1} (b c : Ty) (hm : X.mg "isinstance" = none) (hx : X.mg x = none) (hv : bootBuiltins x = some (.type b.nm)) (hy : X.mg y = none) (hw : bootBuiltins y = some (.type c.nm)) (he : FE X Wx e m) (hg : Gl X "isinstance" := by rfl) (hgx : Gl X x := by rfl) (hgy : Gl X y := by rfl)
    (hn : x ≠ "__name__" := by decide) (hdb : (x == ("__debug__" : Str)) = false := by decide) (hn2 : y ≠ "__name__" := by decide) (hdb2 : (y == ("__debug__" : Str)) = false := by decide)
    (hs : starEach (e :: [.Tuple [.Name x p2, .Name y p3] x1 p4]) X.env = (false, eval e X.env) :: starEach [.Tuple [.Name x p2, .Name y p3] x1 p4] X.env := by rfl) (hpl : (backTo pos (starEach [.Tuple [.Name x p2, .Name y p3] x1 p4] X.env)).any (·.1) = false := by rfl) :
    FE X Wx (.Call (.Name "isinstance" p) [e, .Tuple [.Name x p2, .Name y p3] x1 p4] [] pos) (mIs [b, c] m) :=
  PE.imp (pe_callB call_isiT hg hm (by decide +kernel) (pa_cons he (pa_cons (pe_tup (pa_cons (pe_bltn (v := .ty b.nm) hgx hx hv rfl hn hdb) (pa_cons (pe_bltn (v := .ty c.nm) hgy hy hw rfl hn2 hdb2) pa_nil (by rfl)) (by rfl))) pa_nil (by rfl)) hs) (by decide) (by decide) hs hpl)
    fun σ H Q ⟨ρ, s, ok, en, h⟩ => (tg_bind (rel := RelW X.K) ok en h).mono fun v H1 ⟨w, s1, o1, t1, r1, e1, p1⟩ => by
      refine ⟨by show 2 ≤ sizeLine; decide, fun z hz => ?_⟩
      have o2 : OkW X.K s1 (upd H1 z (.tup [.ty b.nm, .ty c.nm])) := ok_more o1 hz
      have pw := vw_ok o2 r1
      rw [vtyIs_eq] at p1
      cases ew : vty (vw s1.st w) with
      | none => rw [ew] at p1; exact p1.elim
      | some a =>
        rw [ew] at p1
        refine ⟨v, z, [.ty b.nm, .ty c.nm], .type a.nm, [.type b.nm, .type c.nm], [b, c].any (tyIs a), rfl, upd_same, .cons (.ty _) (.cons (.ty _) .nil), tyX_of pw ew, tyAny_ok a [b, c], ?_⟩
        exact (p1.later (tr_more hz)).here o2 (rl_bl _)
end

/-! ### a[i], a[i:j] -/
abbrev Px := En → Store → R (Option Int)
def mP0 : Px := fun _ st => .ok none st
def mP (m : Ex) : Px := fun ρ st => (m ρ st).bind fun w st1 => match vw st1 w with
  | .int i => .ok (some i) st1
  | _ => .bad
def mSl (fz : Bool) (m : Ex) (lo hi : Px) : Ex := fun ρ st => (m ρ st).bind fun w st1 => (lo ρ st1).bind fun l st2 => (hi ρ st2).bind fun u st3 => R.of (oSl fz w l u st3)
section
variable {X : Cx} {Wx : WX} {pos p2 : Pos} {a b : Expr} {ma mb : Ex} {lo hi : Option Expr} {ml mh : Px}
theorem fe_ix (hu : Un X) (ha : FE X Wx a ma) (hb : FE X Wx b mb) (hs : PlainIx b := by exact fun _ _ => rfl) : FE X Wx (.Subscript a b pos) (mOp oIx ma mb) := PE.imp (pe_ix (ix_W hu) ha hb hs) fun σ H Q h => tOp_of h
theorem fo_0 : FO X Wx none mP0 := PO.imp po_none fun σ H Q ⟨ρ, s, ok, en, h⟩ => h.here ok rfl
theorem fo_1 (h : FE X Wx a ma) : FO X Wx (some a) (mP ma) := PO.imp (po_some h) fun σ H Q ⟨ρ, s, ok, en, h⟩ => (tg_bind (rel := RelW X.K) ok en h).mono fun x H1 ⟨w, s1, o1, t1, r1, e1, p1⟩ => by
  have pw := vw_ok o1 r1
  split at p1
  · rename_i i ew
    rw [ew] at pw
    exact ⟨i, pw, p1.here o1 rfl⟩
  · exact p1.elim
theorem fe_sl (fz : Bool) (ha : FE X Wx a ma) (hl : FO X Wx lo ml) (hh : FO X Wx hi mh) : FE X Wx (.Subscript a (.Slice lo hi none p2) pos) (mSl fz ma ml mh) :=
  PE.imp (pe_slice (sl_W (fz := fz)) ha hl hh) fun σ H Q ⟨ρ, s, ok, en, h⟩ => (tg_bind (rel := RelW X.K) ok en h).mono fun x H1 ⟨w, s1, o1, t1, r1, e1, p1⟩ =>
    (tg_bind (rel := RelOI) o1 e1 p1).mono fun l H2 ⟨l', s2, o2, t2, r2, e2, p2⟩ => (tg_bind (rel := RelOI) o2 e2 p2).mono fun u H3 ⟨u', s3, o3, t3, r3, e3, p3⟩ => by
      cases r2
      cases r3
      exact ⟨s3, w, o3, (r1.tr t2).tr t3, postO_of p3⟩
end
end IL

set_option maxHeartbeats 4000007
namespace IL
open PySem PySem.Spec
open PyProof.Rows L2

/-! ### statements -/
def EndsAt (K : PySem.W.Frag) (D : Ends) (fl : Fl) (σ : L2.St) (H : Hp) (s : Wd) : Prop := match fl with
  | .nx => D.nx σ H
  | .bk => D.bk σ H
  | .ct => D.ct σ H
  | .rt w => ∀ v, RelW K s w v → D.rt v H
def PostS (K : PySem.W.Frag) (mg : Str → Option Value) (Wx : WX) (s : Wd) (H : Hp) (r : RS) (D : Ends) : Prop := match r with
  | .ok fl ρ st' => ∀ σ' H' s', s'.st = st' → OkW K s' H' → Tr s H s' H' → EnvRel K s' σ' ρ → EndsAt K D fl σ' H' s'
  | .ex c f w ρ st' => ∀ C v dd σ' H' s', mg c = some (.ref C) → s'.st = st' → OkW K s' H' → Tr s H s' H' → EnvRel K s' σ' ρ → RelW K s' w v → Fr H dd → s'.F dd = some (.xd [(f, v)]) → Wx (.ref C) (some dd) σ' H'
  | .bad => False
def tS (K : PySem.W.Frag) (mg : Str → Option Value) (Wx : WX) (m : Sx) : TS := fun D σ H => ∃ ρ s, OkW K s H ∧ EnvRel K s σ ρ ∧ PostS K mg Wx s H (m ρ s.st) D
def FS (X : Cx) (Wx : WX) (e : Stmt) (m : Sx) : Prop := PS X e (tS X.K X.mg Wx m)
def FSs (X : Cx) (Wx : WX) (e : List Stmt) (m : Sx) : Prop := PSs X e (tS X.K X.mg Wx m)
def R.bindS {α : Type} (r : R α) (ρ : En) (k : α → Store → RS) : RS := match r with
  | .ok a st => k a st
  | .ex c f w st => .ex c f w ρ st
  | .bad => .bad
section
variable {K : PySem.W.Frag} {mg : Str → Option Value} {Wx : WX} {σ : L2.St} {s s1 : Wd} {H H1 : Hp} {ρ : En} {D D' : Ends}
theorem PostS.later {r : RS} (t : Tr s H s1 H1) (h : PostS K mg Wx s H r D) : PostS K mg Wx s1 H1 r D := by
  cases r with
  | ok fl ρ st' => exact fun σ' H' s' e o t' en => h σ' H' s' e o (t.trans t') en
  | ex c f w ρ st' => exact fun C v dd σ' H' s' hc e o t' en q hd hF => h C v dd σ' H' s' hc e o (t.trans t') en q (t.dom dd hd) hF
  | bad => exact h
theorem PostS.mono {r : RS} (h : PostS K mg Wx s H r D) (k : ∀ fl σ H s, EndsAt K D fl σ H s → EndsAt K D' fl σ H s) : PostS K mg Wx s H r D' := by
  cases r with
  | ok fl ρ st' => exact fun σ' H' s' e o t' en => k _ _ _ _ (h σ' H' s' e o t' en)
  | ex c f w ρ st' => exact h
  | bad => exact h
theorem postS_bind {α β : Type} {rel : Rel α β} {r : R α} {k : α → Store → RS} (en : EnvRel K s σ ρ) (h : PostS K mg Wx s H (r.bindS ρ k) D) :
    PostG rel K mg Wx σ s H r (fun v H1 => ∃ w s1, OkW K s1 H1 ∧ Tr s H s1 H1 ∧ rel s1 w v ∧ EnvRel K s1 σ ρ ∧ PostS K mg Wx s1 H1 (k w s1.st) D) := by
  cases r with
  | ok w st' =>
    intro v H' s' e o t q
    refine ⟨w, s', o, t, q, en.tr t, ?_⟩
    rw [e]
    exact PostS.later t h
  | ex c f w st' => exact fun C v dd H' s' hc e o t q hd hF => h C v dd σ H' s' hc e o t (en.tr t) q hd hF
  | bad => exact h
theorem tgS_bind {α β : Type} {rel : Rel α β} {m : En → Store → R α} {k : α → Store → RS} (ok : OkW K s H) (en : EnvRel K s σ ρ) (h : PostS K mg Wx s H ((m ρ s.st).bindS ρ k) D) :
    tG rel K mg Wx m σ H (fun v H1 => ∃ w s1, OkW K s1 H1 ∧ Tr s H s1 H1 ∧ rel s1 w v ∧ EnvRel K s1 σ ρ ∧ PostS K mg Wx s1 H1 (k w s1.st) D) :=
  ⟨ρ, s, ok, en, postS_bind (rel := rel) en h⟩
end

def sNext : Sx := fun ρ st => .ok .nx ρ st
def sSeq (a b : Sx) : Sx := fun ρ st => match a ρ st with
  | .ok .nx ρ1 st1 => b ρ1 st1
  | r => r
def sBreak : Sx := fun ρ st => .ok .bk ρ st
def sCont : Sx := fun ρ st => .ok .ct ρ st
def sNever : Sx := fun _ _ => .bad
def sDrop (m : Ex) : Sx := fun ρ st => (m ρ st).bindS ρ fun _ st1 => .ok .nx ρ st1
def sRet (m : Ex) : Sx := fun ρ st => (m ρ st).bindS ρ fun w st1 => .ok (.rt w) ρ st1
def sRetN : Sx := fun ρ st => .ok (.rt (.d .non)) ρ st
def sIf (t : Tx) (a b : Sx) : Sx := fun ρ st => (t ρ st).bindS ρ fun k st1 => if k = true then a ρ st1 else b ρ st1

/-! ### targets -/
inductive Tgt where
  | nm (i : Nat) | tp (ts : List Tgt)
mutual
def Tgt.put (st : Store) : Tgt → W → En → Option En
  | .nm i, w, ρ => some (ρ.set i (some w))
  | .tp ts, w, ρ => match vw st w with
    | .sq _ ws => Tgt.puts st ts ws ρ
    | _ => none
def Tgt.puts (st : Store) : List Tgt → List W → En → Option En
  | [], [], ρ => some ρ
  | t :: ts, w :: ws, ρ => (t.put st w ρ).bind fun ρ1 => Tgt.puts st ts ws ρ1
  | _, _, _ => none
end
inductive Iw where
  | one (w : W) | two (a b : W)
def Tgt.putI (st : Store) (t : Tgt) (x : Iw) (ρ : En) : Option En := match x with
  | .one w => t.put st w ρ
  | .two a b => match t with
    | .tp ts => Tgt.puts st ts [a, b] ρ
    | _ => none
def RelIw (K : PySem.W.Frag) (s : Wd) (H : Hp) : Iw → V → Prop
  | .one w, v => RelW K s w v
  | .two a b, v => ∃ p x y, v = .ref p ∧ H p = some (.tup [x, y]) ∧ RelW K s a x ∧ RelW K s b y
def sAsg (t : Tgt) (m : Ex) : Sx := fun ρ st => (m ρ st).bindS ρ fun w st1 => match t.put st1 w ρ with
  | some ρ1 => .ok .nx ρ1 st1
  | none => .bad
mutual
def Tgt.slots : Tgt → List Nat
  | .nm i => [i]
  | .tp ts => Tgt.slotsL ts
def Tgt.slotsL : List Tgt → List Nat
  | [] => []
  | t :: ts => t.slots ++ Tgt.slotsL ts
end
def SameBut (l : List Nat) (σ σ' : L2.St) : Prop := ∀ vs : List Nat, (∀ i ∈ l, i ∈ vs) → wipe σ' vs = wipe σ vs
theorem wipe_set {σ : L2.St} {i : Nat} {x : Option V} : ∀ {vs : List Nat}, i ∈ vs → wipe (σ.set i x) vs = wipe σ vs
  | v :: vs, h => by
    unfold wipe
    by_cases hi : i ∈ vs
    · rw [wipe_set hi]
    · have e : i = v := by simpa [hi] using h
      subst e
      have z : ∀ (vs : List Nat), i ∉ vs → wipe (σ.set i x) vs = (wipe σ vs).set i x := by
        intro vs
        induction vs with
        | nil => intro _; rfl
        | cons w ws ih =>
          intro hm
          simp only [List.mem_cons, not_or] at hm
          unfold wipe
          rw [ih hm.2, List.set_comm _ _ (fun q => hm.1 q)]
      rw [z vs hi, List.set_set]

mutual
def gOf (K : PySem.W.Frag) : Tgt → TG
  | .nm i => gName i
  | .tp ts => fun v σ H Q => gTup K ts.length (gsOf K ts) v σ H Q ∨ gLst K ts.length (gsOf K ts) v σ H Q
def gsOf (K : PySem.W.Frag) : List Tgt → TGs
  | [] => gNil
  | t :: ts => gCons (gOf K t) (gsOf K ts)
end
def FG (X : Cx) (e : Expr) (t : Tgt) : Prop := PG X e (gOf X.K t)
def FGs (X : Cx) (es : List Expr) (ts : List Tgt) : Prop := ts.length = es.length ∧ PGs X es (gsOf X.K ts)
theorem puts_len {st : Store} : ∀ {ts : List Tgt} {ws : List W} {ρ ρ' : En}, Tgt.puts st ts ws ρ = some ρ' → ws.length = ts.length
  | [], [], _, _, _ => rfl
  | [], _ :: _, _, _, h => by simp [Tgt.puts] at h
  | _ :: _, [], _, _, h => by simp [Tgt.puts] at h
  | t :: ts, w :: ws, ρ, ρ', h => by
    simp only [Tgt.puts, Option.bind_eq_some_iff] at h
    obtain ⟨ρ1, _, h2⟩ := h
    simp [puts_len h2]
section
variable {K : PySem.W.Frag} {s : Wd} {H : Hp}
mutual
theorem gOf_ok : ∀ (t : Tgt) (x : Iw) (v : V) (σ : L2.St) (ρ ρ' : En) (Q : L2.St → Hp → Prop), OkW K s H → EnvRel K s σ ρ → RelIw K s H x v → t.putI s.st x ρ = some ρ' → (∀ σ', EnvRel K s σ' ρ' → SameBut t.slots σ σ' → Q σ' H) → gOf K t v σ H Q
  | .nm i, x, v, σ, ρ, ρ', Q, ok, en, r, h, q => by
    cases x with
    | one w =>
      simp only [Tgt.putI, Tgt.put, Option.some.injEq] at h
      subst h
      exact q _ (en.set i r) fun vs hv => wipe_set (hv i (by simp [Tgt.slots]))
    | two a b => cases h
  | .tp ts, x, v, σ, ρ, ρ', Q, ok, en, r, h, q => by
    simp only [gOf]
    cases x with
    | one w =>
      simp only [Tgt.putI, Tgt.put] at h
      split at h
      · rename_i t ws ew
        have pw := vw_ok ok r
        rw [ew] at pw
        obtain ⟨p, vs, ev, h1, rr⟩ := pw
        have lw := puts_len h
        have hl : vs.length = ts.length := by rw [← rr.length, lw]
        cases t with
        | true => exact .inl ⟨p, vs, ev, .inl (.inl h1), hl, gsOf_ok ts ws vs σ ρ ρ' Q ok en rr h q⟩
        | false => exact .inr ⟨p, vs, ev, .inl (.inl h1), hl, gsOf_ok ts ws vs σ ρ ρ' Q ok en rr h q⟩
      · cases h
    | two a b =>
      obtain ⟨p, x, y, ev, h1, ra, rb⟩ := r
      simp only [Tgt.putI] at h
      have lw := puts_len h
      exact .inl ⟨p, [x, y], ev, .inl (.inl h1), by rw [← lw]; rfl, gsOf_ok ts [a, b] [x, y] σ ρ ρ' Q ok en (.cons ra (.cons rb .nil)) h q⟩
theorem gsOf_ok : ∀ (ts : List Tgt) (ws : List W) (vs : List V) (σ : L2.St) (ρ ρ' : En) (Q : L2.St → Hp → Prop), OkW K s H → EnvRel K s σ ρ → RelWs K s ws vs → Tgt.puts s.st ts ws ρ = some ρ' → (∀ σ', EnvRel K s σ' ρ' → SameBut (Tgt.slotsL ts) σ σ' → Q σ' H) → gsOf K ts vs σ H Q
  | [], ws, vs, σ, ρ, ρ', Q, ok, en, r, h, q => by
    cases ws with
    | cons _ _ => simp [Tgt.puts] at h
    | nil =>
      simp only [Tgt.puts, Option.some.injEq] at h
      subst h
      cases r
      exact ⟨rfl, q _ en fun vs _ => rfl⟩
  | t :: ts, ws, vs, σ, ρ, ρ', Q, ok, en, r, h, q => by
    cases r with
    | nil => simp [Tgt.puts] at h
    | cons r rr =>
      simp only [Tgt.puts, Option.bind_eq_some_iff] at h
      obtain ⟨ρ1, h1, h2⟩ := h
      exact ⟨_, _, rfl, gOf_ok t (.one _) _ σ ρ ρ1 _ ok en r h1 fun σ1 e1 b1 => gsOf_ok ts _ _ σ1 ρ1 ρ' Q ok e1 rr h2 fun σ2 e2 b2 => q σ2 e2 fun vs hv => (b2 vs fun i hi => hv i (by simp [Tgt.slotsL, hi])).trans (b1 vs fun i hi => hv i (by simp [Tgt.slotsL, hi]))⟩
end
end
section
variable {X : Cx} {pos : Pos}
theorem fg_nm (i : Nat) {x : Str} (hN : X.N.Nodup) (hi : X.N[i]? = some x) (hx : Loc X.env.scope x) (hf : X.fn x = true ∨ X.env.scope.names.lookup x = some .local) : FG X (.Name x pos) (.nm i) := pg_name hN hi hx hf
theorem fgs_nil : FGs X [] [] := ⟨rfl, pgs_nil⟩
theorem fgs_cons {e : Expr} {es : List Expr} {t : Tgt} {ts : List Tgt} (h1 : FG X e t) (h2 : FGs X es ts) (hs : (assignEach (e :: es) X.env).map (·.2) = assign e X.env :: (assignEach es X.env).map (·.2) := by rfl) : FGs X (e :: es) (t :: ts) :=
  ⟨by simp [h2.1], pgs_cons h1 h2.2 hs⟩
theorem pg_or {e : Expr} {t u : TG} (h1 : PG X e t) (h2 : PG X e u) : PG X e (fun v σ H Q => t v σ H Q ∨ u v σ H Q) :=
  ⟨fun pins s σ H v w Q I r h => h.elim (h1.run pins s σ H v w Q I r) (h2.run pins s σ H v w Q I r)⟩
theorem fg_tp {es : List Expr} {k : Nat} {ts : List Tgt} (hc : X.calm = true) (h : FGs X es ts) (hn : (assignEach es X.env).length = es.length := by rfl) (hst : (assignEach es X.env).findIdx? (·.1) = none := by rfl) : FG X (.Tuple es k pos) (.tp ts) :=
  pg_or (pg_tup hc h.2 (hn.trans h.1.symm) hst) (pg_lst hc h.2 (hn.trans h.1.symm) hst)
end

section
variable {X : Cx} {Wx : WX} {pos : Pos} {e : Expr} {m : Ex} {a b : Sx} {st : Stmt} {rest : List Stmt} {t : Tx}
theorem fs_nil : FSs X Wx [] sNext := PSs.imp pss_nil fun D σ H ⟨ρ, s, ok, en, h⟩ => h σ H s rfl ok (.refl _ _) en
theorem seq_of {D : Ends} {σ : L2.St} {H : Hp} (h : tS X.K X.mg Wx (sSeq a b) D σ H) : tSeq (tS X.K X.mg Wx a) (tS X.K X.mg Wx b) D σ H := by
  obtain ⟨ρ, s, ok, en, h⟩ := h
  refine ⟨ρ, s, ok, en, ?_⟩
  unfold sSeq at h
  split at h
  · rename_i ρ1 st1 e1
    rw [e1]
    intro σ' H' s' e o t en'
    refine ⟨ρ1, s', o, en', ?_⟩
    rw [e]
    exact h.later t
  · rename_i hne
    revert h
    cases r : a ρ s.st with
    | ok fl ρ1 st1 =>
      intro h
      intro σ' H' s' e o t en'
      have q := h σ' H' s' e o t en'
      cases fl with
      | nx => exact absurd r (hne _ _)
      | bk => exact q
      | ct => exact q
      | rt w => exact q
    | ex c f w ρ1 st1 => exact fun h => h
    | bad => exact fun h => h
theorem fs_cons (h1 : FS X Wx st a) (h2 : FSs X Wx rest b) : FSs X Wx (st :: rest) (sSeq a b) := PSs.imp (pss_cons h1 h2) fun D σ H h => seq_of h
theorem fs_one (h1 : FS X Wx st a) : FSs X Wx [st] a := pss_one h1
theorem fs_never : FS X Wx st sNever := PS.imp ps_never fun D σ H ⟨ρ, s, ok, en, h⟩ => h.elim
theorem fss_never : FSs X Wx rest sNever := PSs.imp pss_never fun D σ H ⟨ρ, s, ok, en, h⟩ => h.elim
theorem fs_pass : FS X Wx (.Pass pos) sNext := PS.imp ps_pass fun D σ H ⟨ρ, s, ok, en, h⟩ => h σ H s rfl ok (.refl _ _) en
theorem fs_break : FS X Wx (.Break pos) sBreak := PS.imp ps_break fun D σ H ⟨ρ, s, ok, en, h⟩ => h σ H s rfl ok (.refl _ _) en
theorem fs_cont : FS X Wx (.Continue pos) sCont := PS.imp ps_continue fun D σ H ⟨ρ, s, ok, en, h⟩ => h σ H s rfl ok (.refl _ _) en
theorem fs_expr (he : FE X Wx e m) (hs : swapsWith e none pos.line X.env = pure false := by rfl) : FS X Wx (.Expr e pos) (sDrop m) :=
  PS.imp (ps_expr he hs) fun D σ H ⟨ρ, s, ok, en, h⟩ => (tgS_bind (rel := RelW X.K) ok en h).mono fun v H1 ⟨w, s1, o1, t1, r1, e1, p1⟩ => p1 σ H1 s1 rfl o1 (.refl _ _) e1
theorem fs_ret (he : FE X Wx e m) : FS X Wx (.Return (some e) pos) (sRet m) :=
  PS.imp (ps_ret he) fun D σ H ⟨ρ, s, ok, en, h⟩ => (tgS_bind (rel := RelW X.K) ok en h).mono fun v H1 ⟨w, s1, o1, t1, r1, e1, p1⟩ => p1 σ H1 s1 rfl o1 (.refl _ _) e1 v r1
theorem fs_retN : FS X Wx (.Return none pos) sRetN := PS.imp ps_retN fun D σ H ⟨ρ, s, ok, en, h⟩ => h σ H s rfl ok (.refl _ _) en .non rl_non
theorem fs_if {c : Expr} {l r : List Stmt} (hc : FT X Wx c t) (ha : FSs X Wx l a) (hb : FSs X Wx r b) : FS X Wx (.If c l r pos) (sIf t a b) :=
  PS.imp (ps_if hc ha hb) fun D σ H ⟨ρ, s, ok, en, h⟩ => (tgS_bind (rel := RelB) ok en h).mono fun x H1 ⟨w, s1, o1, t1, r1, e1, p1⟩ => by
    cases r1
    cases x with
    | true => rw [if_pos rfl] at p1 ⊢; exact ⟨ρ, s1, o1, e1, p1⟩
    | false => rw [if_neg Bool.false_ne_true] at p1 ⊢; exact ⟨ρ, s1, o1, e1, p1⟩
theorem fs_asg {tg : Expr} {t : Tgt} (he : FE X Wx e m) (hg : FG X tg t) (hs : swapsWithSole [tg] e pos.line X.env = pure false := by rfl) (hw : swappedStores [tg] e X.env = pure none := by rfl)
    (h1 : (assignEach [tg] X.env).map (·.2) = [assign tg X.env] := by rfl) : FS X Wx (.Assign [tg] e pos) (sAsg t m) := by
  refine PS.imp (ps_asg he hg hs hw h1) fun D σ H ⟨ρ, s, ok, en, h⟩ => (tgS_bind (rel := RelW X.K) ok en h).mono fun v H1 ⟨w, s1, o1, t1, r1, e1, p1⟩ => ?_
  split at p1
  · rename_i ρ1 er
    exact gOf_ok t (.one w) v σ ρ ρ1 _ o1 e1 r1 er fun σ' e' _ => p1 σ' H1 s1 rfl o1 (.refl _ _) e'
  · exact p1.elim
end

/-! ### what is walked -/
inductive Gt where
  | it (x : Iw) | stop | bad
def Gt.of : Option Iw → Gt
  | some x => .it x
  | none => .stop
inductive Sr where
  | st (xs : List Iw) | dy (n : Nat) (get : Store → Nat → Gt)
def Sr.get : Sr → Store → Nat → Gt
  | .st xs, _, i => Gt.of xs[i]?
  | .dy _ g, s, i => g s i
def Sr.n : Sr → Nat
  | .st xs => xs.length
  | .dy n _ => n
structure Lw (s s' : Wd) : Prop where
  len : s.st.length ≤ s'.st.length
  phi : ∀ n, n < s.st.length → s'.φ n = s.φ n
  F : HLe s.F s'.F
theorem Lw.refl (s : Wd) : Lw s s := ⟨Nat.le_refl _, fun _ _ => rfl, HLe.refl _⟩
theorem Tr.lw {s s' : Wd} {H H' : Hp} (t : Tr s H s' H') : Lw s s' := ⟨t.len, t.phi, t.F⟩
theorem Lw.trans {s s1 s2 : Wd} (a : Lw s s1) (b : Lw s1 s2) : Lw s s2 := ⟨Nat.le_trans a.len b.len, fun n h => (b.phi n (Nat.lt_of_lt_of_le h a.len)).trans (a.phi n h), a.F.trans b.F⟩
theorem RelW.lw {K : PySem.W.Frag} {s s' : Wd} (t : Lw s s') : ∀ {w : W} {v : V}, RelW K s w v → RelW K s' w v
  | .d _, _, h => Rp.mono t.F _ _ h
  | .loc n, _, h => ⟨Nat.lt_of_lt_of_le h.1 t.len, by rw [t.phi n h.1]; exact h.2⟩
  | .v _, _, h => h
def RelI (K : PySem.W.Frag) : Rel Sr It := fun s sr J => ∀ (s' : Wd) (H : Hp), Lw s s' → OkW K s' H → ∀ i, match sr.get s'.st i with
  | .bad => True
  | .it x => J.go i H ∧ ∀ v H', J.yld i H v H' → OkW K s' H' ∧ Tr s' H s' H' ∧ RelIw K s' H' x v
  | .stop => J.stop i H
def FI (X : Cx) (Wx : WX) (tg e : Expr) (m : En → Store → R Sr) : Prop := PI X tg e (tG (RelI X.K) X.K X.mg Wx m)
theorem RelI.lw {K : PySem.W.Frag} {s s' : Wd} {sr : Sr} {J : It} (t : Lw s s') (h : RelI K s sr J) : RelI K s' sr J := fun s2 H l ok i => h s2 H (t.trans l) ok i

/-! ### for -/
def forI (g : Store → Nat → Gt) (t : Tgt) (b : Sx) : Nat → Nat → Sx
  | 0, i => fun ρ st => match g st i with
    | .stop => .ok .nx ρ st
    | _ => .bad
  | k + 1, i => fun ρ st => match g st i with
    | .stop => .ok .nx ρ st
    | .bad => .bad
    | .it x => match t.putI st x ρ with
      | none => .bad
      | some ρ1 => match b ρ1 st with
        | .ok .nx ρ2 st2 => forI g t b k (i + 1) ρ2 st2
        | .ok .ct ρ2 st2 => forI g t b k (i + 1) ρ2 st2
        | .ok .bk ρ2 st2 => .ok .nx ρ2 st2
        | r => r
def forL (t : Tgt) (b : Sx) : List Iw → Sx
  | [] => fun ρ st => .ok .nx ρ st
  | x :: xs => fun ρ st => match t.putI st x ρ with
    | none => .bad
    | some ρ1 => match b ρ1 st with
      | .ok .nx ρ2 st2 => forL t b xs ρ2 st2
      | .ok .ct ρ2 st2 => forL t b xs ρ2 st2
      | .ok .bk ρ2 st2 => .ok .nx ρ2 st2
      | r => r
def forS (t : Tgt) (b : Sx) : Sr → Sx
  | .st xs => forL t b xs
  | .dy n g => forI g t b n 0
def sFor (m : En → Store → R Sr) (t : Tgt) (b : Sx) : Sx := fun ρ st => (m ρ st).bindS ρ fun sr st1 => forS t b sr ρ st1
theorem forL_eq (xs : List Iw) (t : Tgt) (b : Sx) : ∀ (l : List Iw) (i : Nat), l = xs.drop i → forL t b l = forI (Sr.get (.st xs)) t b l.length i
  | [], i, e => by
    funext ρ st
    have : xs[i]? = none := by
      have := congrArg List.length e
      simp at this
      exact List.getElem?_eq_none (by omega)
    simp only [forL, forI, List.length_nil, Sr.get, this, Gt.of]
  | x :: l, i, e => by
    funext ρ st
    have h1 : xs[i]? = some x := by
      have := congrArg (·[0]?) e
      simp at this
      exact this.symm
    have h2 : l = xs.drop (i + 1) := by
      have := congrArg List.tail e
      simpa using this
    simp only [forL, forI, List.length_cons, Sr.get, h1, Gt.of, forL_eq xs t b l (i + 1) h2]
theorem forS_eq (t : Tgt) (b : Sx) : ∀ (sr : Sr), forS t b sr = forI sr.get t b sr.n 0
  | .st xs => forL_eq xs t b xs 0 (by simp)
  | .dy _ _ => by rfl
theorem fs_for {X : Cx} {Wx : WX} {tg iter : Expr} {body : List Stmt} {pos : Pos} {m : En → Store → R Sr} {t : Tgt} {b : Sx} (hp : PassesOwn (model X.prog X.w) X.A X.env X.xe) (hc : X.calm = true) (hi : FI X Wx tg iter m) (hg : FG X tg t) (hb : FSs X Wx body b)
    (hs : ∀ x, foldedSetIterable iter X.env x = pure x := by intro _; rfl) : FS X Wx (.For tg iter body [] pos) (sFor m t b) := by
  refine PS.imp (ps_for hp hc hi hg hb hs) fun D σ H ⟨ρ, s, ok, en, h⟩ => (tgS_bind (rel := RelI X.K) ok en h).mono fun J H1 ⟨sr, s1, o1, t1, r1, e1, p1⟩ => ?_
  rw [forS_eq] at p1
  refine ⟨fun i k σ H => ∃ ρ s, OkW X.K s H ∧ EnvRel X.K s σ ρ ∧ Lw s1 s ∧ PostS X.K X.mg Wx s H (forI sr.get t b k i ρ s.st) D, ⟨sr.n, ρ, s1, o1, e1, .refl _, p1⟩, ?_⟩
  rintro i k σ H ⟨ρ, s, ok, en, lw, h⟩
  have step := r1 s H lw ok i
  cases e : sr.get s.st i with
  | bad =>
    cases k with
    | zero => simp only [forI, e] at h; exact h.elim
    | succ k => simp only [forI, e] at h; exact h.elim
  | stop =>
    rw [e] at step
    refine .inl ⟨step, ?_⟩
    have h' : PostS X.K X.mg Wx s H (.ok .nx ρ s.st) D := by
      cases k with
      | zero => simpa only [forI, e] using h
      | succ k => simpa only [forI, e] using h
    exact h' σ H s rfl ok (.refl _ _) en
  | it x =>
    rw [e] at step
    cases k with
    | zero => simp only [forI, e] at h; exact h.elim
    | succ k =>
      simp only [forI, e] at h
      refine .inr ⟨step.1, fun σ' H' => ∃ ρ s, OkW X.K s H' ∧ EnvRel X.K s σ' ρ ∧ Lw s1 s ∧ PostS X.K X.mg Wx s H' (forI sr.get t b k (i + 1) ρ s.st) D, fun σ' H' w => ⟨k, Nat.lt_succ_self _, w⟩, fun v H' y => ?_⟩
      obtain ⟨o2, t2, r2⟩ := step.2 v H' y
      cases ep : t.putI s.st x ρ with
      | none => rw [ep] at h; exact h.elim
      | some ρ1 =>
        rw [ep] at h
        refine gOf_ok t x v σ ρ ρ1 _ o2 (en.tr t2) r2 ep fun σ2 e2 _ => ⟨ρ1, s, o2, e2, ?_⟩
        have h2 := PostS.later t2 h
        revert h2
        simp only []
        cases eb : b ρ1 s.st with
        | ok fl ρ2 st2 =>
          cases fl with
          | nx =>
            intro h2 σ' H' s' es o' t' en'
            refine ⟨ρ2, s', o', en', lw.trans t'.lw, ?_⟩
            rw [es]
            exact PostS.later t' h2
          | ct =>
            intro h2 σ' H' s' es o' t' en'
            refine ⟨ρ2, s', o', en', lw.trans t'.lw, ?_⟩
            rw [es]
            exact PostS.later t' h2
          | bk => exact fun h2 σ' H' s' es o' t' en' => h2 σ' H' s' es o' t' en'
          | rt w => exact fun h2 σ' H' s' es o' t' en' => h2 σ' H' s' es o' t' en'
        | ex c f w ρ2 st2 => exact fun h2 => h2
        | bad => exact fun h2 => h2

/-! ### while -/
def whI (c : Tx) (b : Sx) (ih : Sx) : Sx := fun ρ st => (c ρ st).bindS ρ fun k st1 => if k = true then (match b ρ st1 with
    | .ok .nx ρ2 st2 => ih ρ2 st2
    | .ok .ct ρ2 st2 => ih ρ2 st2
    | .ok .bk ρ2 st2 => .ok .nx ρ2 st2
    | r => r) else .ok .nx ρ st1
def whN (c : Tx) (b : Sx) (n : Nat) : Sx := Nat.rec sNever (fun _ ih => whI c b ih) n
def sWhile (fl : En → Store → Nat) (c : Tx) (b : Sx) : Sx := fun ρ st => whN c b (fl ρ st) ρ st
theorem fs_while {X : Cx} {Wx : WX} {c : Expr} {body : List Stmt} {pos : Pos} {t : Tx} {b : Sx} (fl : En → Store → Nat) (hp : PassesOwn (model X.prog X.w) X.A X.env X.xe) (hc : FT X Wx c t) (hb : FSs X Wx body b) : FS X Wx (.While c body [] pos) (sWhile fl t b) := by
  refine PS.imp (ps_while hp hc hb) fun D σ H ⟨ρ, s, ok, en, h⟩ => ?_
  refine ⟨fun k σ H => ∃ ρ s, OkW X.K s H ∧ EnvRel X.K s σ ρ ∧ PostS X.K X.mg Wx s H (whN t b k ρ s.st) D, ⟨fl ρ s.st, ρ, s, ok, en, h⟩, ?_⟩
  rintro k σ H ⟨ρ, s, ok, en, h⟩
  cases k with
  | zero => exact h.elim
  | succ k =>
    have h : PostS X.K X.mg Wx s H (whI t b (whN t b k) ρ s.st) D := h
    refine (tgS_bind (rel := RelB) ok en h).mono fun x H1 ⟨w, s1, o1, t1, r1, e1, p1⟩ => ?_
    cases r1
    cases x with
    | false => rw [if_neg Bool.false_ne_true] at p1 ⊢; exact p1 σ H1 s1 rfl o1 (.refl _ _) e1
    | true =>
      rw [if_pos rfl] at p1 ⊢
      refine ⟨fun σ' H' => ∃ ρ s, OkW X.K s H' ∧ EnvRel X.K s σ' ρ ∧ PostS X.K X.mg Wx s H' (whN t b k ρ s.st) D, fun σ' H' w => ⟨k, Nat.lt_succ_self _, w⟩, ρ, s1, o1, e1, ?_⟩
      revert p1
      cases eb : b ρ s1.st with
      | ok fl ρ2 st2 =>
        cases fl with
        | nx =>
          intro h2 σ' H' s' es o' t' en'
          refine ⟨ρ2, s', o', en', ?_⟩
          rw [es]
          exact PostS.later t' h2
        | ct =>
          intro h2 σ' H' s' es o' t' en'
          refine ⟨ρ2, s', o', en', ?_⟩
          rw [es]
          exact PostS.later t' h2
        | bk => exact fun h2 σ' H' s' es o' t' en' => h2 σ' H' s' es o' t' en'
        | rt w => exact fun h2 σ' H' s' es o' t' en' => h2 σ' H' s' es o' t' en'
      | ex c f w ρ2 st2 => exact fun h2 => h2
      | bad => exact fun h2 => h2
end IL

set_option maxHeartbeats 4000007
namespace IL
open PySem PySem.Spec
open PyProof.Rows L2

/-! ### enumerate(tuple) -/
theorem meets_enumT {v : Value} {o : Obj} {HH : Heap → Prop} (B : Begins v o HH) :
    Meets (Builtin.«enumerate.__new__» ⟨[.type "enumerate", v], []⟩) (fun _ R s => HH s.heap ∧
      R (.ok (.ret (.ref (s.heap.push o).objs.size))) { s with heap := (s.heap.push o).push { cls := .type "enumerate", data := .fields #[.none, .bool false, .ref s.heap.objs.size, rawInt 0, .none, .none] } }) :=
  .of_wp fun prog w A R s hR => by
    obtain ⟨hp, gg, dd, tk, os⟩ := s; obtain ⟨h1, hR⟩ := hR
    have hsub := sub_enumerate
    have it1 : ∀ {A' : Around} {E : Value → Shared → Prop} {Q : Value → Shared → Prop}, Q (.ref hp.objs.size) ⟨hp.push o, gg, dd, tk, os⟩ → wpAny (model prog w) A' (pyIter v) Q E ⟨hp, gg, dd, tk, os⟩ :=
      fun q => B.iter prog w _ _ ⟨hp, gg, dd, tk, os⟩ _ h1 q
    wp_walk using it1
    refine wpAny_stack_any fun _ => wpAny_pure ?_
    split
    · rename_i cc _ _ _ _ _
      cases (cc == Value.type "enumerate")
      · wp_walk using it1
        exact ⟨_, rfl, hR⟩
      · wp_walk using it1
        exact ⟨_, rfl, hR⟩
    · wp_walk using it1
      exact ⟨_, rfl, hR⟩
theorem call_enumB {prog : Program} {w : World} {A : Around} {E : Value → Shared → Prop} {s : Shared} {v : Value} {o : Obj} {HH : Heap → Prop} (B : Begins v o HH) {Q : Value → Shared → Prop} (hL : HH s.heap)
    (h : ∀ h', IsEnum h' (s.heap.objs.size + 1) s.heap.objs.size 0 .none → h'.get? s.heap.objs.size = some o → (∀ b x, s.heap.get? b = some x → h'.get? b = some x) → Q (.ref (s.heap.objs.size + 1)) { s with heap := h' }) :
    wpAny (model prog w) A (call (.type "enumerate") [v]) Q E s := by
  refine callType_new F.called_enumerate (by decide) (F.typeCall_enumerate_1 _) (F.newCall_enumerate_1 _) (fun ob => F.args_object_init_2 ob _) F.entry_enumerate_new (meets_enumT B) ⟨hL, ?_⟩
  have sz : (s.heap.push o).objs.size = s.heap.objs.size + 1 := Heap.size_push ..
  show _ ∧ _
  rw [sz]
  have ie : IsEnum ((s.heap.push o).push { cls := .type "enumerate", data := .fields #[.none, .bool false, .ref s.heap.objs.size, rawInt 0, .none, .none] }) (s.heap.objs.size + 1) s.heap.objs.size 0 .none := by
    have q := Heap.get?_push_size (s.heap.push o) (o := { cls := .type "enumerate", data := .fields #[.none, .bool false, .ref s.heap.objs.size, rawInt 0, .none, .none] }) rfl
    rw [sz] at q
    exact q
  exact ⟨⟨_, ie, rfl⟩, h _ ie (Heap.get?_push_of_some _ (Heap.get?_push_size _ B.free)) fun b x e => Heap.get?_push_of_some _ (Heap.get?_push_of_some _ e)⟩
theorem enumT_end {prog : Program} {w : World} {A : Around} {E : Value → Shared → Prop} {s : Shared} {e it l : Addr} {i : Nat} {items : Array Value} {old : Value} {Q : Option Value → Shared → Prop} (hh : A.handled = none)
    (he : IsEnum s.heap e it i old) (hit : s.heap.IsTupleIter it l i) (hl : s.heap.IsTuple l items) (hx : items[i]? = none) (hQ : ∀ h', Heap.ExtBut it s.heap h' → Q none { s with heap := h' }) : wpAny (model prog w) A (pyNext (.ref e)) Q E s := by
  have tE : s.TypeIs (.ref e) "enumerate" := ⟨_, he, rfl⟩
  unfold pyNext
  refine wpAny_bind (wpAny_attempt (wpAny_callSpecial?_slot (name := Str.ofString "__next__") tE F.slot_enumerate_next (wpAny_call_entry F.slot_enumerate_next tE F.entry_enumerate_next ?_ (F.args_enumerate_next_1 _))))
  show wpAny _ _ (field (.ref e) 2 >>= _) _ _ _
  refine wpAny_bind (wpAny_field he rfl (x := .ref it) rfl (wpAny_bind (wpAny_nextOf_tuple_end (A := A.in1) hh hit hl hx fun h' x he' hx' => ?_)))
  obtain ⟨o, ho, hc⟩ := hx'
  exact wpAny_bind (wpAny_isInstance (T := "StopIteration") (b := true) ⟨o, ho, hc⟩ isSubtype_stop (wpAny_pure (hQ _ he')))
def IteT (K : PySem.W.Frag) (a : Addr) : It where
  go := fun i H => ∃ (xs : List V) (x : V), SqT K H a xs ∧ xs[i]? = some x
  yld := fun i H v H' => ∃ T x, v = .ref T ∧ H T = none ∧ H' = upd H T (.tup [.int (i : Nat), x]) ∧ ∀ xs, SqT K H a xs → xs[i]? = some x
  stop := fun i H => ∃ xs : List V, SqT K H a xs ∧ xs.length ≤ i
theorem turn_enumT {P : Program} {w : World} {K : PySem.W.Frag} {elts : List Expr} {kk : Nat} {tpos : Pos} (a e it : Addr) (hait : a ≠ it) (hae : a ≠ e) :
    Turn P w K (.Tuple elts kk tpos) (IteT K a) [e, it] e (fun i h => (∃ old, IsEnum h e it ((i : Nat) : Int) old) ∧ h.IsTupleIter it a i ∧ e ≠ it) where
  mem := List.mem_cons_self
  obj := fun i h q b hb => by
    obtain ⟨⟨old, he⟩, ⟨o, ho, hc, hd⟩, _⟩ := q
    rcases (by simpa using hb : b = e ∨ b = it) with rfl | rfl
    · exact ⟨_, he, fun v q => nomatch q⟩
    · exact ⟨o, ho, fun v q => by rw [hd] at q; cases q⟩
  keep := fun i h h' q k => let ⟨⟨old, he⟩, hi, hne⟩ := q; ⟨⟨old, k e (by simp) _ he⟩, hi.at fun o q => k it (by simp) o q, hne⟩
  item := by
    intro X hP hw hK hc i pins s σ H E I hf q hg
    subst hP hw hK
    obtain ⟨⟨old, he⟩, hit, hne⟩ := q
    obtain ⟨xs, x, hq, hx⟩ := hg
    obtain ⟨its, rv, p, hz⟩ := I.tuple hq
    obtain ⟨u, hu, ru⟩ := rv.get hx
    have hel : e < s.heap.objs.size := Heap.lt_size he
    have hil : it < s.heap.objs.size := by obtain ⟨_, q, _⟩ := hit; exact Heap.lt_size q
    have hu' : its.toArray[i]? = some u := by simpa using hu
    have hlt : i < its.toArray.size := (Array.getElem?_eq_some_iff.mp hu').1
    have D := Draws.tuple (prog := X.prog) (w := X.w) (A := X.A.in1) (I.ok.hd hc) it a hait its.toArray
    refine wpAny_pyNext_enum_itemC D he ⟨hit, show s.heap.IsTuple a its.toArray from p⟩ hlt hne (by simp [hne, Ne.symm hae]) fun z h' tk hP ho hit' hT hsz hk => ?_
    rw [hu'] at hP
    cases hP
    refine ⟨_, rfl, wpAny_letOwnedTupleGo_enum (s := { s with heap := h', toks := tk + 1 }) ho fun h'' he' sb => ?_⟩
    have hT2 : h''.get? s.heap.objs.size = some { cls := .type "tuple", data := .seq #[.int i tk, u] } := (sb.2 _ (Nat.ne_of_gt hel)).trans hT
    have new : ObjOk X.prog X.w (upd H s.heap.objs.size (.tup [.int (i : Nat), x])) h'' s.heap.objs.size (.tup [.int (i : Nat), x]) :=
      ⟨by show 2 ≤ sizeLine; decide, [.int i tk, u], .cons ⟨_, rfl⟩ (.cons ru .nil), ⟨_, hT2, rfl, _, rfl⟩⟩
    have I1 : Inv X pins σ (upd H s.heap.objs.size (.tup [.int (i : Nat), x])) { s with heap := h'', toks := tk + 1 } :=
      I.turnedNew (ch := [e, it]) (fun b ob hb q => (sb.2 b (fun z => hb (by simp [z]))).trans (hk b ob (fun z => hb (by simp [z])) (fun z => hb (by simp [z])) q)) hf (Nat.le_refl _) new
    refine ⟨.ref s.heap.objs.size, _, I1, rfl, ⟨_, x, rfl, I.hok.fresh (Nat.le_refl _), rfl, fun ys hy => by rw [I.tuple_inj hy hq]; exact hx⟩, ⟨⟨u, he'⟩, hit'.1.at fun o q => (sb.2 it (Ne.symm hne)).trans q, hne⟩, fun b hb => ?_⟩
    have hb' : b < s.heap.objs.size := by
      rcases (by simpa using hb : b = e ∨ b = it) with rfl | rfl
      · exact hel
      · exact hil
    rw [upd_ne (Nat.ne_of_lt hb')]
    exact (hf b hb).1
  done := by
    intro X hP hw hK hc i pins s σ H E I hf q hg
    subst hP hw hK
    obtain ⟨⟨old, he⟩, hit, hne⟩ := q
    obtain ⟨xs, hq, hx⟩ := hg
    obtain ⟨its, rv, p, hz⟩ := I.tuple hq
    obtain ⟨f0, f1, f2, f3, f4, f5⟩ := hf it (by simp)
    have hl := rv.length
    exact enumT_end (I.ok.hd hc) he hit (show s.heap.IsTuple a its.toArray from p) (by simp; omega) fun h' eb => ⟨rfl, I.turned (t' := s.toks) (fun b o hb q => eb b o hb q) f0 f1 f3 f4 f5⟩
  self := fun A i s Q E q h => let ⟨⟨_, he⟩, _⟩ := q; wpAny_pyIter_enum he h
def iEnumT (K : PySem.W.Frag) (ta : TA) : TI := fun σ H R => ta σ H fun vs H1 => ∃ a xs, vs = [.ref a] ∧ SqT K H1 a xs ∧ R (IteT K a) H1
theorem pi_enumT {X : Cx} {e : Expr} {ta : TA} {p pos tpos : Pos} {elts : List Expr} {kk : Nat} (hg : Gl X "enumerate") (hm : X.mg "enumerate" = none) (ha : PA X [e] ta) (hs : starEach [e] X.env = [(false, eval e X.env)]) :
    PI X (.Tuple elts kk tpos) (.Call (.Name "enumerate" p) [e] [] pos) (iEnumT X.K ta) := by
  refine ⟨fun pins s σ H R I h => Call_ (ld_blt I hg hm boot_enumerate (PyProof.Rows.callWith_type1 (thn (ha.run pos pins s σ H _ I h) fun us s1 ⟨vs, H1, I1, r1, q1⟩ => ?_) hs rfl))⟩
  obtain ⟨a, xs, ex, hq, q⟩ := q1
  subst ex
  cases r1 with
  | cons r rr =>
    cases rr
    cases r
    obtain ⟨its, rv, p', hz⟩ := I1.tuple hq
    have pt : s1.heap.IsTuple a its.toArray := p'
    have al : a < s1.heap.objs.size := by obtain ⟨_, q, _⟩ := pt; exact Heap.lt_size q
    refine call_enumB (begins_tuple a its.toArray) pt fun h' he hit hk => wpAny_pyIter_enum he ?_
    have I2 : Inv X pins σ H1 { s1 with heap := h' } := I1.kept (t' := s1.toks) hk
    refine ⟨s1.heap.objs.size + 1, [s1.heap.objs.size + 1, s1.heap.objs.size], _, _, H1, rfl, I2, turn_enumT a (s1.heap.objs.size + 1) s1.heap.objs.size (Nat.ne_of_lt al) (Nat.ne_of_lt (Nat.lt_succ_of_lt al)), ⟨⟨.none, he⟩, ⟨_, hit, rfl, rfl⟩, Nat.succ_ne_self _⟩, fun b hb => ?_, q⟩
    have hle : s1.heap.objs.size ≤ b := by
      rcases (by simpa using hb : b = s1.heap.objs.size + 1 ∨ b = s1.heap.objs.size) with z | z
      · rw [z]; exact Nat.le_succ _
      · rw [z]; exact Nat.le_refl _
    exact I1.fpOk hle (I1.hok.fresh hle)

/-! ### what is walked: rules -/
section
variable {X : Cx} {Wx : WX} {pos p : Pos} {tg e e2 : Expr} {m m2 : Ex}
theorem PI.imp {t t' : TI} (h : PI X tg e t) (k : ∀ σ H R, t' σ H R → t σ H R) : PI X tg e t' := ⟨fun pins s σ H R I q => h.run pins s σ H R I (k σ H R q)⟩
/-- the readings may be chosen when the frame and the heap are known -/
theorem PI.pick {ι : Type} {t : ι → TI} {t' : TI} (h : ∀ i, PI X tg e (t i)) (k : ∀ σ H R, t' σ H R → ∃ i, t i σ H R) : PI X tg e t' := ⟨fun pins s σ H R I q => let ⟨i, z⟩ := k σ H R q; (h i).run pins s σ H R I z⟩
def getL (n : Nat) : Store → Nat → Gt := fun st i => match st[n]? with
  | some (.lst ws) => Gt.of ((ws[i]?).map .one)
  | _ => .bad
def getLE (n : Nat) : Store → Nat → Gt := fun st i => match st[n]? with
  | some (.lst ws) => Gt.of ((ws[i]?).map fun w => .two (.d (.int i)) w)
  | _ => .bad
def one (x : D) : Iw := .one (.d x)
def enumD : Nat → List D → List Iw
  | _, [] => []
  | i, x :: xs => .two (.d (.int i)) (.d x) :: enumD (i + 1) xs
def zipD : List D → List D → List Iw
  | x :: xs, y :: ys => .two (.d x) (.d y) :: zipD xs ys
  | _, _ => []
/-- a sequence: (t, the items) of data; or a list that may change -/
inductive Sq where
  | dat (t : Bool) (xs : List D) | mu (n : Nat) (k : Nat) | no
def sqOf (st : Store) : W → Sq
  | .d (.seq t xs) => .dat t xs
  | .loc n => match st[n]? with
    | some (.lst ws) => .mu n ws.length
    | some (.frz (.seq t xs)) => .dat t xs
    | _ => .no
  | _ => .no
def srOth (w : W) (st : Store) : R Sr := match w with
  | .d (.scr ns) => .ok (.st (ns.map fun i => one (.int i))) st
  | .d (.str x) => .ok (.st (x.cps.toList.map fun c => one (.str ⟨#[c]⟩))) st
  | _ => .bad
def srSeq (m : Ex) : En → Store → R Sr := fun ρ st => (m ρ st).bind fun w st1 => match sqOf st1 w with
  | .dat _ xs => .ok (.st (xs.map one)) st1
  | .mu n k => .ok (.dy k (getL n)) st1
  | .no => srOth w st1
def srEnum (m : Ex) : En → Store → R Sr := fun ρ st => (m ρ st).bind fun w st1 => match sqOf st1 w with
  | .dat _ xs => .ok (.st (enumD 0 xs)) st1
  | .mu n k => .ok (.dy k (getLE n)) st1
  | .no => .bad
theorem sqOf_dat {K : PySem.W.Frag} {s : Wd} {H : Hp} {w : W} {v : V} {t : Bool} {xs : List D} (ok : OkW K s H) (r : RelW K s w v) (e : sqOf s.st w = .dat t xs) : ∃ a vs, v = .ref a ∧ s.F a = some (seqO t vs) ∧ Rps K s.F xs vs := by
  cases w with
  | d x =>
    cases x with
    | seq t' xs' =>
      cases e
      have r : Rp K s.F (.seq t xs) v := r
      simpa only [Rp, SqB] using r
    | _ => cases e
  | loc n =>
    obtain ⟨h1, h2⟩ := r
    simp only [sqOf] at e
    split at e
    · cases e
    · rename_i t' xs' q
      cases e
      have z : Rp K s.F (.seq t xs) (.ref (s.φ n)) := ok.obj n _ q
      rw [← h2] at z
      simpa only [Rp, SqB] using z
    · cases e
  | v x => cases e
theorem sqOf_mut {K : PySem.W.Frag} {s : Wd} {w : W} {v : V} {n k : Nat} (r : RelW K s w v) (e : sqOf s.st w = .mu n k) : n < s.st.length ∧ v = .ref (s.φ n) ∧ ∃ ws, s.st[n]? = some (.lst ws) ∧ k = ws.length := by
  cases w with
  | d x => cases x <;> cases e
  | loc n =>
    obtain ⟨h1, h2⟩ := r
    simp only [sqOf] at e
    split at e
    · rename_i ws q
      cases e
      exact ⟨h1, h2, ws, q, rfl⟩
    · cases e
    · cases e
  | v x => cases e
end
end IL

set_option maxHeartbeats 4000007
namespace IL
open PySem PySem.Spec
open PyProof.Rows L2

section
variable {K : PySem.W.Frag} {mg : Str → Option Value} {Wx : WX} {σ : L2.St} {s s1 : Wd} {H H1 : Hp} {ρ : En} {α β γ δ : Type} {rel : Rel α β} {rel2 : Rel γ δ}
theorem post_bindE {r : R α} {k : α → Store → R γ} {Q : δ → Hp → Prop} (h : PostG rel2 K mg Wx σ s H (r.bind k) Q) :
    PostG rel K mg Wx σ s H r (fun v H1 => ∃ w s1, OkW K s1 H1 ∧ Tr s H s1 H1 ∧ rel s1 w v ∧ r = .ok w s1.st ∧ PostG rel2 K mg Wx σ s1 H1 (k w s1.st) Q) := by
  cases r with
  | ok w st' =>
    intro v H' s' e o t q
    exact ⟨w, s', o, t, q, by rw [e], by rw [e]; exact PostG.later t h⟩
  | ex c f w st' => exact h
  | bad => exact h
theorem tg_bindE {m : En → Store → R α} {k : α → Store → R γ} {Q : δ → Hp → Prop} (ok : OkW K s H) (en : EnvRel K s σ ρ) (h : PostG rel2 K mg Wx σ s H ((m ρ s.st).bind k) Q) :
    tG rel K mg Wx m σ H (fun v H1 => ∃ w s1, OkW K s1 H1 ∧ Tr s H s1 H1 ∧ rel s1 w v ∧ EnvRel K s1 σ ρ ∧ m ρ s.st = .ok w s1.st ∧ PostG rel2 K mg Wx σ s1 H1 (k w s1.st) Q) :=
  ⟨ρ, s, ok, en, (post_bindE (rel := rel) h).mono fun _ _ ⟨w, s1, o1, t1, r1, e1, p1⟩ => ⟨w, s1, o1, t1, r1, en.tr t1, e1, p1⟩⟩
theorem paired_get {A B : Type} {P : A → B → Prop} : ∀ {xs : List A} {ys : List B} {i : Nat} {x : A} {y : B}, Paired P xs ys → xs[i]? = some x → ys[i]? = some y → P x y
  | _, _, _, _, _, .nil, h, _ => by simp at h
  | _, _, 0, _, _, .cons r t, h1, h2 => by
    simp at h1 h2
    rw [← h1, ← h2]; exact r
  | _, _, i + 1, _, _, .cons r t, h1, h2 => by
    simp at h1 h2
    exact paired_get t h1 h2
theorem paired_some {A B : Type} {P : A → B → Prop} {xs : List A} {ys : List B} {i : Nat} {x : A} (p : Paired P xs ys) (h : xs[i]? = some x) : ∃ y, ys[i]? = some y ∧ P x y := by
  have l := Paired.length p
  have hl := (List.getElem?_eq_some_iff.mp h).1
  have e : ys[i]? = some ys[i] := List.getElem?_eq_getElem (by omega)
  exact ⟨_, e, paired_get p h e⟩
theorem rps_len {F : Hp} {xs : List D} {vs : List V} (h : Rps K F xs vs) : xs.length = vs.length := by
  have := (rps_rel (s := ⟨fun _ => 0, F, [], none⟩) h).length
  simpa using this
theorem rps_some {F : Hp} {xs : List D} {vs : List V} {i : Nat} {x : D} (h : Rps K F xs vs) (e : xs[i]? = some x) : ∃ v, vs[i]? = some v ∧ Rp K F x v := by
  obtain ⟨v, e1, r⟩ := paired_some (i := i) (x := .d x) (rps_rel (s := ⟨fun _ => 0, F, [], none⟩) h) (by simp [e])
  exact ⟨v, e1, r⟩
/-- an iterator that hands out what stands at one place of the heap -/
theorem relI_dat {xs : List Iw} {n : Nat} {J : It} (hn : xs.length = n) (h : ∀ s' H, Lw s s' → OkW K s' H → ∀ i, (∀ x, xs[i]? = some x → J.go i H ∧ ∀ v H', J.yld i H v H' → OkW K s' H' ∧ Tr s' H s' H' ∧ RelIw K s' H' x v) ∧ (n ≤ i → J.stop i H)) :
    RelI K s (.st xs) J := fun s' H lw ok i => by
  have q := h s' H lw ok i
  show match Gt.of xs[i]? with | .bad => True | .it x => _ | .stop => _
  cases e : xs[i]? with
  | none => exact q.2 (by rw [← hn]; exact List.getElem?_eq_none_iff.mp e)
  | some x => exact q.1 x e
end
section
variable {K : PySem.W.Frag} {s : Wd} {H : Hp} {a : Addr} {xs : List D} {vs : List V}
theorem relI_list (e : s.F a = some (.lst vs)) (r : Rps K s.F xs vs) : RelI K s (.st (xs.map one)) (Itl K a) := by
  refine relI_dat (n := vs.length) (by rw [List.length_map, rps_len r]) fun s' H lw ok i => ?_
  have q : SqL K H a vs := .inl (.inl (ok.sub _ _ (lw.F _ _ e)))
  refine ⟨fun x hx => ?_, fun hi => ⟨vs, q, hi⟩⟩
  rw [List.getElem?_map] at hx
  obtain ⟨d, e1, rfl⟩ := Option.map_eq_some_iff.mp hx
  obtain ⟨v, e2, r2⟩ := rps_some r e1
  refine ⟨⟨vs, v, q, e2⟩, fun u H' y => ?_⟩
  obtain ⟨rfl, y⟩ := y
  have := y vs q
  rw [e2] at this
  cases this
  exact ⟨ok, .refl _ _, Rp.mono lw.F _ _ r2⟩
theorem relI_scr {ns : List Int} (q0 : SqL K s.F a (ns.map V.int)) : RelI K s (.st (ns.map fun i => one (.int i))) (Itl K a) := by
  refine relI_dat (n := ns.length) (by rw [List.length_map]) fun s' H lw ok i => ?_
  have q : SqL K H a (ns.map V.int) := sqL_mono (lw.F.trans ok.sub) q0
  refine ⟨fun x hx => ?_, fun hi => ⟨_, q, by rw [List.length_map]; exact hi⟩⟩
  rw [List.getElem?_map] at hx
  obtain ⟨d, e1, rfl⟩ := Option.map_eq_some_iff.mp hx
  have e2 : (ns.map V.int)[i]? = some (.int d) := by rw [List.getElem?_map, e1]; rfl
  refine ⟨⟨_, _, q, e2⟩, fun u H' y => ?_⟩
  obtain ⟨rfl, y⟩ := y
  have := y _ q
  rw [e2] at this
  cases this
  exact ⟨ok, .refl _ _, rl_int (K := K) (s := s') _⟩
theorem relI_tup (e : s.F a = some (.tup vs)) (r : Rps K s.F xs vs) : RelI K s (.st (xs.map one)) (Itt K a) := by
  refine relI_dat (n := vs.length) (by rw [List.length_map, rps_len r]) fun s' H lw ok i => ?_
  have q : SqT K H a vs := .inl (.inl (ok.sub _ _ (lw.F _ _ e)))
  refine ⟨fun x hx => ?_, fun hi => ⟨vs, q, hi⟩⟩
  rw [List.getElem?_map] at hx
  obtain ⟨d, e1, rfl⟩ := Option.map_eq_some_iff.mp hx
  obtain ⟨v, e2, r2⟩ := rps_some r e1
  refine ⟨⟨vs, v, q, e2⟩, fun u H' y => ?_⟩
  obtain ⟨rfl, y⟩ := y
  have := y vs q
  rw [e2] at this
  cases this
  exact ⟨ok, .refl _ _, Rp.mono lw.F _ _ r2⟩
theorem relI_mut {n k : Nat} (hn : n < s.st.length) : RelI K s (.dy k (getL n)) (Itl K (s.φ n)) := fun s' H lw ok i => by
  show match getL n s'.st i with | .bad => True | .it x => _ | .stop => _
  unfold getL
  split
  · trivial
  all_goals (rename_i e; split at e <;> try (cases e; done))
  all_goals
    rename_i ws q
    obtain ⟨vs, h1, h2, h3⟩ := ok.obj n _ q
    rw [lw.phi n hn] at h1
    have z : SqL K H (s.φ n) vs := .inl (.inl h1)
    cases ew : ws[i]? with
    | none =>
      rw [ew] at e
      first
        | cases e; done
        | exact ⟨vs, z, by rw [← h3.length]; exact List.getElem?_eq_none_iff.mp ew⟩
    | some w =>
      rw [ew] at e
      first
        | cases e; done
        | cases e
          obtain ⟨v, e2, r2⟩ := paired_some h3 ew
          refine ⟨⟨vs, v, z, e2⟩, fun u H' y => ?_⟩
          obtain ⟨rfl, y⟩ := y
          have := y vs z
          rw [e2] at this
          cases this
          exact ⟨ok, .refl _ _, r2⟩
theorem relI_str {x : Str} : RelI K s (.st (x.cps.toList.map fun c => one (.str ⟨#[c]⟩))) (Its x) := by
  refine relI_dat (n := x.cps.size) (by simp) fun s' H lw ok i => ⟨fun w hx => ?_, fun hi => hi⟩
  rw [List.getElem?_map] at hx
  obtain ⟨c, e1, rfl⟩ := Option.map_eq_some_iff.mp hx
  have e2 : x.cps[i]? = some c := by simpa using e1
  refine ⟨(Array.getElem?_eq_some_iff.mp e2).1, fun u H' y => ?_⟩
  obtain ⟨rfl, c', e3, rfl⟩ := y
  rw [e2] at e3
  cases e3
  exact ⟨ok, .refl _ _, rl_str (K := K) (s := s') _⟩
/-- a new pair -/
theorem relI_pair {x y : V} {w1 w2 : W} {T : Addr} (ok : OkW K s H) (hT : H T = none) (r1 : RelW K s w1 x) (r2 : RelW K s w2 y) : OkW K s (upd H T (.tup [x, y])) ∧ Tr s H s (upd H T (.tup [x, y])) ∧ RelIw K s (upd H T (.tup [x, y])) (.two w1 w2) (.ref T) :=
  ⟨ok_more ok hT, tr_more hT, T, x, y, rfl, upd_same, r1, r2⟩
theorem enumD_get : ∀ {xs : List D} {i j : Nat} {x : Iw}, (enumD j xs)[i]? = some x → ∃ d, xs[i]? = some d ∧ x = .two (.d (.int ((j + i : Nat) : Int))) (.d d)
  | [], i, j, x, h => by simp [enumD] at h
  | d :: xs, 0, j, x, h => by
    simp [enumD] at h
    exact ⟨d, rfl, by rw [← h]; rfl⟩
  | d :: xs, i + 1, j, x, h => by
    simp only [enumD, List.getElem?_cons_succ] at h
    obtain ⟨d', e1, e2⟩ := enumD_get h
    exact ⟨d', by simpa using e1, by rw [e2, Nat.add_right_comm, Nat.add_assoc]⟩
theorem enumD_len : ∀ {xs : List D} {j : Nat}, (enumD j xs).length = xs.length
  | [], _ => rfl
  | _ :: xs, j => by simp [enumD, enumD_len (xs := xs)]
theorem relI_enum (e : s.F a = some (.lst vs)) (r : Rps K s.F xs vs) : RelI K s (.st (enumD 0 xs)) (Ite K a) := by
  refine relI_dat (n := vs.length) (by rw [enumD_len, rps_len r]) fun s' H lw ok i => ?_
  have q : SqL K H a vs := .inl (.inl (ok.sub _ _ (lw.F _ _ e)))
  refine ⟨fun x hx => ?_, fun hi => ⟨vs, q, hi⟩⟩
  obtain ⟨d, e1, rfl⟩ := enumD_get hx
  obtain ⟨v, e2, r2⟩ := rps_some r e1
  refine ⟨⟨vs, v, q, e2⟩, fun u H' y => ?_⟩
  obtain ⟨T, z, rfl, hT, rfl, y⟩ := y
  have := y vs q
  rw [e2] at this
  cases this
  rw [Nat.zero_add]
  exact relI_pair ok hT (rl_int _) (Rp.mono lw.F _ _ r2)
theorem relI_enumT (e : s.F a = some (.tup vs)) (r : Rps K s.F xs vs) : RelI K s (.st (enumD 0 xs)) (IteT K a) := by
  refine relI_dat (n := vs.length) (by rw [enumD_len, rps_len r]) fun s' H lw ok i => ?_
  have q : SqT K H a vs := .inl (.inl (ok.sub _ _ (lw.F _ _ e)))
  refine ⟨fun x hx => ?_, fun hi => ⟨vs, q, hi⟩⟩
  obtain ⟨d, e1, rfl⟩ := enumD_get hx
  obtain ⟨v, e2, r2⟩ := rps_some r e1
  refine ⟨⟨vs, v, q, e2⟩, fun u H' y => ?_⟩
  obtain ⟨T, z, rfl, hT, rfl, y⟩ := y
  have := y vs q
  rw [e2] at this
  cases this
  rw [Nat.zero_add]
  exact relI_pair ok hT (rl_int _) (Rp.mono lw.F _ _ r2)
theorem relI_enumM {n k : Nat} (hn : n < s.st.length) : RelI K s (.dy k (getLE n)) (Ite K (s.φ n)) := fun s' H lw ok i => by
  show match getLE n s'.st i with | .bad => True | .it x => _ | .stop => _
  unfold getLE
  split
  · trivial
  all_goals (rename_i e; split at e <;> try (cases e; done))
  all_goals
    rename_i ws q
    obtain ⟨vs, h1, h2, h3⟩ := ok.obj n _ q
    rw [lw.phi n hn] at h1
    have z : SqL K H (s.φ n) vs := .inl (.inl h1)
    cases ew : ws[i]? with
    | none =>
      rw [ew] at e
      first
        | cases e; done
        | exact ⟨vs, z, by rw [← h3.length]; exact List.getElem?_eq_none_iff.mp ew⟩
    | some w =>
      rw [ew] at e
      first
        | cases e; done
        | cases e
          obtain ⟨v, e2, r2⟩ := paired_some h3 ew
          refine ⟨⟨vs, v, z, e2⟩, fun u H' y => ?_⟩
          obtain ⟨T, x', rfl, hT, rfl, y⟩ := y
          have := y vs z
          rw [e2] at this
          cases this
          exact relI_pair ok hT (rl_int _) r2
def rngL : Int → Nat → List Iw
  | _, 0 => []
  | a, n + 1 => one (.int a) :: rngL (a + 1) n
theorem rngL_len : ∀ {a : Int} {n : Nat}, (rngL a n).length = n
  | _, 0 => rfl
  | a, n + 1 => by simp [rngL, rngL_len (n := n)]
theorem rngL_get : ∀ {a : Int} {n i : Nat} {x : Iw}, (rngL a n)[i]? = some x → i < n ∧ x = one (.int (a + i))
  | a, 0, i, x, h => by simp [rngL] at h
  | a, n + 1, 0, x, h => by
    simp [rngL] at h
    exact ⟨Nat.succ_pos _, by rw [← h]; simp⟩
  | a, n + 1, i + 1, x, h => by
    simp only [rngL, List.getElem?_cons_succ] at h
    obtain ⟨h1, h2⟩ := rngL_get h
    refine ⟨Nat.succ_lt_succ h1, by rw [h2]; simp only [one, Int.natCast_add, Int.cast_ofNat_Int]; rw [show a + 1 + (i : Int) = a + ((i : Int) + 1) by omega]⟩
theorem relI_rng {lo : Int} {n : Nat} : RelI K s (.st (rngL lo n)) (Itr lo n) := by
  refine relI_dat (n := n) rngL_len fun s' H lw ok i => ⟨fun x hx => ?_, fun hi => hi⟩
  obtain ⟨h1, rfl⟩ := rngL_get hx
  refine ⟨h1, fun u H' y => ?_⟩
  obtain ⟨rfl, rfl⟩ := y
  exact ⟨ok, .refl _ _, rl_int (K := K) (s := s') _⟩
theorem zipD_get : ∀ {xs ys : List D} {i : Nat} {x : Iw}, (zipD xs ys)[i]? = some x → ∃ d d', xs[i]? = some d ∧ ys[i]? = some d' ∧ x = .two (.d d) (.d d')
  | [], _, i, x, h => by simp [zipD] at h
  | _ :: _, [], i, x, h => by simp [zipD] at h
  | d :: xs, d' :: ys, 0, x, h => by
    simp [zipD] at h
    exact ⟨d, d', rfl, rfl, h.symm⟩
  | d :: xs, d' :: ys, i + 1, x, h => by
    simp only [zipD, List.getElem?_cons_succ] at h
    simpa using zipD_get h
theorem zipD_len : ∀ {xs ys : List D}, (zipD xs ys).length = min xs.length ys.length
  | [], _ => by simp [zipD]
  | _ :: _, [] => by simp [zipD]
  | d :: xs, d' :: ys => by simp only [zipD, List.length_cons, zipD_len (xs := xs) (ys := ys)]; omega
theorem relI_zip {b : Addr} {ys : List D} {us : List V} (e : s.F a = some (.lst vs)) (r : Rps K s.F xs vs) (e' : s.F b = some (.lst us)) (r' : Rps K s.F ys us) : RelI K s (.st (zipD xs ys)) (Itz K a b) := by
  refine relI_dat (n := min vs.length us.length) (by rw [zipD_len, rps_len r, rps_len r']) fun s' H lw ok i => ?_
  have q : SqL K H a vs := .inl (.inl (ok.sub _ _ (lw.F _ _ e)))
  have q' : SqL K H b us := .inl (.inl (ok.sub _ _ (lw.F _ _ e')))
  refine ⟨fun x hx => ?_, fun hi => ⟨vs, us, q, q', by omega⟩⟩
  obtain ⟨d, d', e1, e1', rfl⟩ := zipD_get hx
  obtain ⟨v, e2, r2⟩ := rps_some r e1
  obtain ⟨v', e2', r2'⟩ := rps_some r' e1'
  refine ⟨⟨vs, us, v, v', q, q', e2, e2'⟩, fun u H' y => ?_⟩
  obtain ⟨T, z, z', rfl, hT, rfl, y, y'⟩ := y
  have h1 := y vs q
  have h2 := y' us q'
  rw [e2] at h1
  rw [e2'] at h2
  cases h1
  cases h2
  exact relI_pair ok hT (Rp.mono lw.F _ _ r2) (Rp.mono lw.F _ _ r2')
theorem relI_zipT {b : Addr} {ys : List D} {us : List V} (e : s.F a = some (.tup vs)) (r : Rps K s.F xs vs) (e' : s.F b = some (.tup us)) (r' : Rps K s.F ys us) : RelI K s (.st (zipD xs ys)) (RZ.ItzT K a b) := by
  refine relI_dat (n := min vs.length us.length) (by rw [zipD_len, rps_len r, rps_len r']) fun s' H lw ok i => ?_
  have q : SqT K H a vs := .inl (.inl (ok.sub _ _ (lw.F _ _ e)))
  have q' : SqT K H b us := .inl (.inl (ok.sub _ _ (lw.F _ _ e')))
  refine ⟨fun x hx => ?_, fun hi => ⟨vs, us, q, q', by omega⟩⟩
  obtain ⟨d, d', e1, e1', rfl⟩ := zipD_get hx
  obtain ⟨v, e2, r2⟩ := rps_some r e1
  obtain ⟨v', e2', r2'⟩ := rps_some r' e1'
  refine ⟨⟨vs, us, v, v', q, q', e2, e2'⟩, fun u H' y => ?_⟩
  obtain ⟨T, z, z', rfl, hT, rfl, y, y'⟩ := y
  have h1 := y vs q
  have h2 := y' us q'
  rw [e2] at h1
  rw [e2'] at h2
  cases h1
  cases h2
  exact relI_pair ok hT (Rp.mono lw.F _ _ r2) (Rp.mono lw.F _ _ r2')
end

section
variable {X : Cx} {Wx : WX} {pos p tpos : Pos} {tg e e2 : Expr} {m m2 : Ex} {ms : Ax} {elts : List Expr} {kk : Nat}
theorem fi_seq (he : FE X Wx e m) : FI X Wx tg e (srSeq m) := by
  refine PI.pick (ι := Fin 3) (t := fun i => match i with | 0 => iList X.K (tG (RelW X.K) X.K X.mg Wx m) | 1 => iTup X.K (tG (RelW X.K) X.K X.mg Wx m) | 2 => iStr (tG (RelW X.K) X.K X.mg Wx m)) (fun i => ?_) fun σ H R ⟨ρ, s, ok, en, h⟩ => ?_
  · match i with
    | 0 => exact pi_list he
    | 1 => exact pi_tup he
    | 2 => exact pi_str he
  · have b := tg_bindE (rel := RelW X.K) ok en h
    cases er : m ρ s.st with
    | bad => rw [srSeq, er] at h; exact h.elim
    | ex c f w st' => exact ⟨0, ρ, s, ok, en, by rw [er]; rw [srSeq, er] at h; exact h⟩
    | ok w st1 =>
      cases eq : sqOf st1 w with
      | dat t xs =>
        cases t with
        | true =>
          refine ⟨1, b.mono fun v H1 ⟨w', s1, o1, t1, r1, e1, q, p1⟩ => ?_⟩
          rw [er] at q
          cases q
          rw [eq] at p1
          obtain ⟨a, vs, rfl, ea, rr⟩ := sqOf_dat o1 r1 eq
          exact ⟨a, rfl, ⟨vs, .inl (.inl (o1.sub _ _ ea))⟩, p1.here o1 (relI_tup ea rr)⟩
        | false =>
          refine ⟨0, b.mono fun v H1 ⟨w', s1, o1, t1, r1, e1, q, p1⟩ => ?_⟩
          rw [er] at q
          cases q
          rw [eq] at p1
          obtain ⟨a, vs, rfl, ea, rr⟩ := sqOf_dat o1 r1 eq
          exact ⟨a, rfl, ⟨vs, .inl (.inl (o1.sub _ _ ea))⟩, p1.here o1 (relI_list ea rr)⟩
      | mu n k =>
        refine ⟨0, b.mono fun v H1 ⟨w', s1, o1, t1, r1, e1, q, p1⟩ => ?_⟩
        rw [er] at q
        cases q
        rw [eq] at p1
        obtain ⟨hn, rfl, ws, hw, _⟩ := sqOf_mut r1 eq
        obtain ⟨vs, h1, _, _⟩ := o1.obj n _ hw
        exact ⟨_, rfl, ⟨vs, .inl (.inl h1)⟩, p1.here o1 (relI_mut hn)⟩
      | no =>
        have b2 : tG (RelW X.K) X.K X.mg Wx m σ H (fun v H1 => ∃ s1, OkW X.K s1 H1 ∧ RelW X.K s1 w v ∧ PostG (RelI X.K) X.K X.mg Wx σ s1 H1 (srOth w s1.st) R) := b.mono fun v H1 ⟨w', s1, o1, t1, r1, e1, q, p1⟩ => by
          rw [er] at q
          cases q
          rw [eq] at p1
          exact ⟨s1, o1, r1, p1⟩
        cases w with
        | loc n => exact ⟨0, b2.mono fun v H1 ⟨s1, _, _, z⟩ => z.elim⟩
        | v x => exact ⟨0, b2.mono fun v H1 ⟨s1, _, _, z⟩ => z.elim⟩
        | d x =>
          cases x with
          | scr ns =>
            refine ⟨0, b2.mono fun v H1 ⟨s1, o1, r1, p1⟩ => ?_⟩
            have r1 : Rp X.K s1.F (.scr ns) v := r1
            simp only [Rp] at r1
            obtain ⟨a, rfl, qa⟩ := r1
            exact ⟨a, rfl, ⟨_, sqL_mono o1.sub qa⟩, p1.here o1 (relI_scr qa)⟩
          | str x =>
            refine ⟨2, b2.mono fun v H1 ⟨s1, o1, r1, p1⟩ => ?_⟩
            have r1 : Rp X.K s1.F (.str x) v := r1
            simp only [Rp] at r1
            exact ⟨x, r1, p1.here o1 relI_str⟩
          | _ => exact ⟨0, b2.mono fun v H1 ⟨s1, _, _, z⟩ => z.elim⟩
def asInt : W → Option Int
  | .d (.int i) => some i
  | _ => none
theorem asInt_ok {K : PySem.W.Frag} {s : Wd} {w : W} {v : V} {i : Int} (r : RelW K s w v) (e : asInt w = some i) : v = .int i := by
  cases w with
  | d x =>
    cases x with
    | int j =>
      cases e
      have r : Rp K s.F (.int i) v := r
      simpa only [Rp] using r
    | _ => cases e
  | _ => cases e
def inR (i : Int) : Bool := decide (-(2 ^ 62) ≤ i) && decide (i < 2 ^ 62)
def srRng1 (ms : Ax) : En → Store → R Sr := fun ρ st => (ms ρ st).bind fun ws st1 => match ws with
  | [a] => match asInt a with
    | some j => if inR j = true then .ok (.st (rngL 0 j.toNat)) st1 else .bad
    | none => .bad
  | _ => .bad
def srRng2 (ms : Ax) : En → Store → R Sr := fun ρ st => (ms ρ st).bind fun ws st1 => match ws with
  | [a, b] => match asInt a, asInt b with
    | some i, some j => if (inR i && inR j) = true then .ok (.st (rngL i (j - i).toNat)) st1 else .bad
    | _, _ => .bad
  | _ => .bad
theorem fi_rng1 (hm : X.mg "range" = none) (ha : FA X Wx [e] ms) (hg : Gl X "range" := by rfl) (hs : starEach [e] X.env = [(false, eval e X.env)] := by rfl) : FI X Wx tg (.Call (.Name "range" p) [e] [] pos) (srRng1 ms) :=
  PI.imp (pi_range1 hg hm ha hs) fun σ H R ⟨ρ, s, ok, en, h⟩ => (tg_bind (rel := RelWs X.K) ok en h).mono fun vs H1 ⟨ws, s1, o1, t1, r1, e1, p1⟩ => by
    split at p1
    · rename_i w
      cases r1 with
      | cons r1 rr =>
        cases rr
        split at p1
        · rename_i j ej
          split at p1
          · rename_i hj
            simp only [inR, Bool.and_eq_true, decide_eq_true_eq] at hj
            exact ⟨j, by rw [asInt_ok r1 ej], hj.1, hj.2, p1.here o1 relI_rng⟩
          · exact p1.elim
        · exact p1.elim
    · exact p1.elim
theorem fi_rng2 {e2 : Expr} (hm : X.mg "range" = none) (ha : FA X Wx [e, e2] ms) (hg : Gl X "range" := by rfl) (hs : starEach [e, e2] X.env = [(false, eval e X.env), (false, eval e2 X.env)] := by rfl) (hs2 : starEach [e2] X.env = [(false, eval e2 X.env)] := by rfl) : FI X Wx tg (.Call (.Name "range" p) [e, e2] [] pos) (srRng2 ms) :=
  PI.imp (pi_range2 hg hm ha hs hs2) fun σ H R ⟨ρ, s, ok, en, h⟩ => (tg_bind (rel := RelWs X.K) ok en h).mono fun vs H1 ⟨ws, s1, o1, t1, r1, e1, p1⟩ => by
    split at p1
    · rename_i w w'
      cases r1 with
      | cons r1 rr =>
        cases rr with
        | cons r2 rr =>
          cases rr
          split at p1
          · rename_i i j ei ej
            split at p1
            · rename_i hj
              simp only [inR, Bool.and_eq_true, decide_eq_true_eq] at hj
              exact ⟨i, j, by rw [asInt_ok r1 ei, asInt_ok r2 ej], ⟨hj.1.1, hj.1.2, hj.2.1, hj.2.2⟩, p1.here o1 relI_rng⟩
            · exact p1.elim
          · exact p1.elim
    · exact p1.elim
theorem fa_1 {m : Ex} (he : FE X Wx e m) (hs : starEach (e :: []) X.env = (false, eval e X.env) :: starEach [] X.env) : FA X Wx [e] (mCons m mNil) := fa_cons he fa_nil hs
theorem nil_of {m : Ex} {σ : L2.St} {H : Hp} {Q : List V → Hp → Prop} (h : tG (RelWs X.K) X.K X.mg Wx (mCons m mNil) σ H Q) : tG (RelW X.K) X.K X.mg Wx m σ H (fun v H1 => Q [v] H1) := by
  obtain ⟨ρ, s, ok, en, h⟩ := h
  exact (tg_bind (rel := RelW X.K) ok en h).mono fun v H1 ⟨w, s1, o1, t1, r1, e1, p1⟩ => p1.here o1 (.cons r1 .nil)
theorem of_nil {m : Ex} {σ : L2.St} {H : Hp} {Q : V → Hp → Prop} (h : tG (RelW X.K) X.K X.mg Wx m σ H Q) : tCons (tG (RelW X.K) X.K X.mg Wx m) tNil σ H (fun vs H1 => ∃ v, vs = [v] ∧ Q v H1) := by
  exact h.mono fun v H1 q => ⟨v, rfl, q⟩
theorem fi_enum (hm : X.mg "enumerate" = none) (he : FE X Wx e m) (hg : Gl X "enumerate" := by rfl) (hs : starEach [e] X.env = [(false, eval e X.env)] := by rfl) : FI X Wx (.Tuple elts kk tpos) (.Call (.Name "enumerate" p) [e] [] pos) (srEnum m) := by
  have pa : PA X [e] (tCons (tG (RelW X.K) X.K X.mg Wx m) tNil) := pa_cons he pa_nil hs
  refine PI.pick (ι := Fin 2) (t := fun i => match i with | 0 => iEnum X.K (tCons (tG (RelW X.K) X.K X.mg Wx m) tNil) | 1 => iEnumT X.K (tCons (tG (RelW X.K) X.K X.mg Wx m) tNil)) (fun i => ?_) fun σ H R ⟨ρ, s, ok, en, h⟩ => ?_
  · match i with
    | 0 => exact pi_enum hg hm pa hs
    | 1 => exact pi_enumT hg hm pa hs
  · have b := tg_bindE (rel := RelW X.K) ok en h
    cases er : m ρ s.st with
    | bad => rw [srEnum, er] at h; exact h.elim
    | ex c f w st' => exact ⟨0, ρ, s, ok, en, by rw [er]; rw [srEnum, er] at h; exact h⟩
    | ok w st1 =>
      cases eq : sqOf st1 w with
      | dat t xs =>
        cases t with
        | true =>
          refine ⟨1, b.mono fun v H1 ⟨w', s1, o1, t1, r1, e1, q, p1⟩ => ?_⟩
          rw [er] at q
          cases q
          rw [eq] at p1
          obtain ⟨a, vs, rfl, ea, rr⟩ := sqOf_dat o1 r1 eq
          exact ⟨a, vs, rfl, .inl (.inl (o1.sub _ _ ea)), p1.here o1 (relI_enumT ea rr)⟩
        | false =>
          refine ⟨0, b.mono fun v H1 ⟨w', s1, o1, t1, r1, e1, q, p1⟩ => ?_⟩
          rw [er] at q
          cases q
          rw [eq] at p1
          obtain ⟨a, vs, rfl, ea, rr⟩ := sqOf_dat o1 r1 eq
          exact ⟨a, vs, rfl, .inl (.inl (o1.sub _ _ ea)), p1.here o1 (relI_enum ea rr)⟩
      | mu n k =>
        refine ⟨0, b.mono fun v H1 ⟨w', s1, o1, t1, r1, e1, q, p1⟩ => ?_⟩
        rw [er] at q
        cases q
        rw [eq] at p1
        obtain ⟨hn, rfl, ws, hw, _⟩ := sqOf_mut r1 eq
        obtain ⟨vs, h1, _, _⟩ := o1.obj n _ hw
        exact ⟨_, vs, rfl, .inl (.inl h1), p1.here o1 (relI_enumM hn)⟩
      | no =>
        refine ⟨0, b.mono fun v H1 ⟨w', s1, o1, t1, r1, e1, q, p1⟩ => ?_⟩
        rw [er] at q
        cases q
        rw [eq] at p1
        exact p1.elim
/-- zip of two sequences of one form, frozen -/
def srZip (ms : Ax) : En → Store → R Sr := fun ρ st => (ms ρ st).bind fun ws st1 => match ws with
  | [a, b] => match sqOf st1 a, sqOf st1 b with
    | .dat t xs, .dat t' ys => if (t == t') = true then .ok (.st (zipD xs ys)) st1 else .bad
    | _, _ => .bad
  | _ => .bad
theorem fi_zip (hm : X.mg "zip" = none) (ha : FA X Wx [e, e2] ms) (hg : Gl X "zip" := by rfl)
    (hs : starEach [e, e2] X.env = (false, eval e X.env) :: starEach [e2] X.env := by rfl) (hpl : (backTo pos (starEach [e2] X.env)).any (·.1) = false := by rfl) : FI X Wx (.Tuple elts kk tpos) (.Call (.Name "zip" p) [e, e2] [] pos) (srZip ms) :=
  PI.imp (RZ.pi_zipA hg hm ha hs hpl) fun σ H R ⟨ρ, s, ok, en, h⟩ => (tg_bind (rel := RelWs X.K) ok en h).mono fun vs H1 ⟨ws, s1, o1, t1, r1, e1, p1⟩ => by
    split at p1
    · rename_i w w'
      cases r1 with
      | cons r1 rr =>
        cases rr with
        | cons r2 rr =>
          cases rr
          split at p1
          · rename_i t xs t' ys ea eb
            split at p1
            · rename_i ht
              have ht : t = t' := eq_of_beq ht
              subst ht
              obtain ⟨a, vs, rfl, ha, ra⟩ := sqOf_dat o1 r1 ea
              obtain ⟨b, us, rfl, hb, rb⟩ := sqOf_dat o1 r2 eb
              cases t with
              | true => exact ⟨a, b, vs, us, rfl, .inr ⟨.inl (.inl (o1.sub _ _ ha)), .inl (.inl (o1.sub _ _ hb)), p1.here o1 (relI_zipT ha ra hb rb)⟩⟩
              | false => exact ⟨a, b, vs, us, rfl, .inl ⟨.inl (.inl (o1.sub _ _ ha)), .inl (.inl (o1.sub _ _ hb)), p1.here o1 (relI_zip ha ra hb rb)⟩⟩
            · exact p1.elim
          · exact p1.elim
    · exact p1.elim
end
end IL

set_option maxHeartbeats 4000007
namespace IL
open PySem PySem.Spec
open PyProof.Rows L2

/-! ### an object aside -/
def del (H : Hp) (a : Addr) : Hp := fun b => if b = a then none else H b
theorem del_at {H : Hp} {a : Addr} : del H a a = none := if_pos rfl
theorem del_ne {H : Hp} {a b : Addr} (h : b ≠ a) : del H a b = H b := if_neg h
theorem del_upd {H : Hp} {a : Addr} {o : HO} (h : H a = some o) : upd (del H a) a o = H := by
  funext b
  by_cases e : b = a
  · subst e; rw [upd_same, h]
  · rw [upd_ne e, del_ne e]
theorem del_new {H : Hp} {a : Addr} {o : HO} (h : H a = none) : del (upd H a o) a = H := by
  funext b
  by_cases e : b = a
  · subst e; rw [del_at, h]
  · rw [del_ne e, upd_ne e]
theorem del_put {H : Hp} {a : Addr} {o : HO} : del (upd H a o) a = del H a := by
  funext b
  by_cases e : b = a
  · subst e; rw [del_at, del_at]
  · rw [del_ne e, upd_ne e, del_ne e]
theorem del_some {H : Hp} {a b : Addr} {o : HO} (h : del H a b = some o) : b ≠ a ∧ H b = some o := by
  by_cases e : b = a
  · subst e; rw [del_at] at h; cases h
  · rw [del_ne e] at h; exact ⟨e, h⟩
theorem ok_aside {K : PySem.W.Frag} {s : Wd} {H : Hp} {a : Addr} {o : HO} (ok : OkW K s (del H a)) (h : H a = some o) : OkW K s H := by
  have q := ok_more (o := o) ok del_at
  rwa [del_upd h] at q
theorem tabs_del {H : Hp} {a : Addr} {o : HO} {T : List (Addr × Str)} (n1 : ∀ ps, o ≠ .tbl ps) (n2 : ∀ φ, o ≠ .ext φ) (h' : H a = some o) (t : LamX.Tabs T H) : LamX.Tabs T (del H a) := fun p hp => by
  obtain ⟨ps, h1, h2, h3⟩ := t p hp
  refine ⟨ps, ?_, h2, fun pos cv hc => ?_⟩
  · rw [del_ne (fun e => by rw [e, h'] at h1; exact n1 _ (Option.some.inj h1))]; exact h1
  · obtain ⟨c, e1, e2⟩ := h3 pos cv hc
    exact ⟨c, e1, by rw [del_ne (fun e => by rw [e, h'] at e2; exact n2 _ (Option.some.inj e2))]; exact e2⟩
theorem aside_tr {K : PySem.W.Frag} {s s' : Wd} {H H' : Hp} {a : Addr} {o : HO} (n1 : ∀ ps, o ≠ .tbl ps) (n2 : ∀ φ, o ≠ .ext φ) (ok : OkW K s (del H a)) (h : H a = some o) (t : Tr s H s' H') (ok' : OkW K s' H') : H' a = some o ∧ OkW K s' (del H' a) ∧ Tr s (del H a) s' (del H' a) := by
  have ne : ∀ n so, s.st[n]? = some so → so.mut = true → s.φ n ≠ a := fun n so hn hm e => by
    obtain ⟨u, hu, _⟩ := ok.at_ hn hm
    exact (del_some hu).1 e
  have nF : s.F a = none := by
    cases q : s.F a with
    | none => rfl
    | some u => exact absurd rfl (del_some (ok.sub _ _ q)).1
  have h' : H' a = some o := t.keep a o h n1 fun n so hn hm e => ne n so hn hm e.symm
  have nF' : s'.F a = none := by
    cases q : s'.F a with
    | none => rfl
    | some u =>
      rcases t.fnew a (by rw [q]; simp) with z | z | ⟨n, so, hn, hm, e⟩
      · exact absurd nF z
      · exact (z.not h n1).elim
      · exact absurd e.symm (ne n so hn hm)
  have ne' : ∀ n so, s'.st[n]? = some so → so.mut = true → s'.φ n ≠ a := fun n so hn hm e => by
    by_cases hl : n < s.st.length
    · obtain ⟨so0, h0, m0⟩ := mut_back t hl hn hm
      rw [t.phi n hl] at e
      exact ne n so0 h0 m0 e
    · have q := t.new n (Nat.le_of_not_lt hl) (List.getElem?_eq_some_iff.mp hn).1
      rw [e] at q; exact q.not h n1
  refine ⟨h', ⟨fun b u q => ?_, fun n so hn => ?_, ok'.inj, ok'.nt⟩, ⟨t.len, t.phi, t.F, t.frz, fun n h1 h2 => ?_, fun b u q nt k => ?_, fun b q => ?_, fun b q => ?_, t.ex, fun T k hT => ?_, t.tb0⟩⟩
  · by_cases e : b = a
    · subst e; rw [nF'] at q; cases q
    · rw [del_ne e]; exact ok'.sub b u q
  · have r := ok'.obj n so hn
    cases so with
    | frz x => exact r
    | tabs T => exact tabs_del n1 n2 h' r
    | lst ws => obtain ⟨vs, q1, q2⟩ := r; exact ⟨vs, by rw [del_ne (ne' n _ hn rfl)]; exact q1, q2⟩
    | tup ws => obtain ⟨vs, q1, q2⟩ := r; exact ⟨vs, by rw [del_ne (ne' n _ hn rfl)]; exact q1, q2⟩
    | dK ws => obtain ⟨vs, q1, q2⟩ := r; exact ⟨vs, by rw [del_ne (ne' n _ hn rfl)]; exact q1, q2⟩
    | dT ws => obtain ⟨vs, q1, q2⟩ := r; exact ⟨vs, by rw [del_ne (ne' n _ hn rfl)]; exact q1, q2⟩
  · have q := t.new n h1 h2
    exact fun u z => q u (del_some z).2
  · obtain ⟨e, q⟩ := del_some q
    rw [del_ne e]; exact t.keep b u q nt k
  · by_cases e : b = a
    · subst e; exact Fr.of del_at
    · exact fun u z => t.dom b (fun u z => q u (by rw [del_ne e]; exact z)) u (del_some z).2
  · rcases t.fnew b q with z | z | z
    · exact .inl z
    · exact .inr (.inl fun u y => z u (del_some y).2)
    · exact .inr (.inr z)
  · have hT1 : LamX.Tabs T H := hT.ext fun b u q => (del_some q).2
    exact tabs_del n1 n2 h' (t.tab T k hT1)

/-! ### list comprehensions -/
def noEx {α : Type} : R α → R α
  | .ex _ _ _ _ => .bad
  | r => r
def lcL (t : Tgt) (tt : Tx) (el : Ex) (ρ : En) : List Iw → Store → R (List W)
  | [], st => .ok [] st
  | x :: xs, st => match t.putI st x ρ with
    | none => .bad
    | some ρ1 => (noEx (tt ρ1 st)).bind fun b st1 => if b = true then (noEx (el ρ1 st1)).bind fun w st2 => (lcL t tt el ρ xs st2).bind fun ws st3 => .ok (w :: ws) st3 else lcL t tt el ρ xs st1
def lcI (g : Store → Nat → Gt) (t : Tgt) (tt : Tx) (el : Ex) (ρ : En) : Nat → Nat → Store → R (List W)
  | 0, i, st => match g st i with
    | .stop => .ok [] st
    | _ => .bad
  | k + 1, i, st => match g st i with
    | .stop => .ok [] st
    | .bad => .bad
    | .it x => match t.putI st x ρ with
      | none => .bad
      | some ρ1 => (noEx (tt ρ1 st)).bind fun b st1 => if b = true then (noEx (el ρ1 st1)).bind fun w st2 => (lcI g t tt el ρ k (i + 1) st2).bind fun ws st3 => .ok (w :: ws) st3 else lcI g t tt el ρ k (i + 1) st1
def lcS (t : Tgt) (tt : Tx) (el : Ex) (ρ : En) : Sr → Store → R (List W)
  | .st xs => lcL t tt el ρ xs
  | .dy n g => lcI g t tt el ρ n 0
theorem lcL_eq (xs : List Iw) (t : Tgt) (tt : Tx) (el : Ex) (ρ : En) : ∀ (l : List Iw) (i : Nat), l = xs.drop i → lcL t tt el ρ l = lcI (Sr.get (.st xs)) t tt el ρ l.length i
  | [], i, e => by
    funext st
    have : xs[i]? = none := by
      have := congrArg List.length e
      simp at this
      exact List.getElem?_eq_none (by omega)
    simp only [lcL, lcI, List.length_nil, Sr.get, this, Gt.of]
  | x :: l, i, e => by
    funext st
    have h1 : xs[i]? = some x := by
      have := congrArg (·[0]?) e
      simp at this
      exact this.symm
    have h2 : l = xs.drop (i + 1) := by
      have := congrArg List.tail e
      simpa using this
    simp only [lcL, lcI, List.length_cons, Sr.get, h1, Gt.of, lcL_eq xs t tt el ρ l (i + 1) h2]
theorem lcS_eq (t : Tgt) (tt : Tx) (el : Ex) (ρ : En) : ∀ (sr : Sr), lcS t tt el ρ sr = lcI sr.get t tt el ρ sr.n 0
  | .st xs => lcL_eq xs t tt el ρ xs 0 (by simp)
  | .dy _ _ => rfl
def wipeE (ρ : En) : List Nat → En
  | [] => ρ
  | v :: vs => (wipeE ρ vs).set v none
theorem EnvRel.wipe {K : PySem.W.Frag} {s : Wd} {σ : L2.St} {ρ : En} (e : EnvRel K s σ ρ) : ∀ vs, EnvRel K s (L2.wipe σ vs) (wipeE ρ vs)
  | [] => e
  | v :: vs => (EnvRel.wipe e vs).wipe1 v
def tYesX : Tx := fun _ st => .ok true st
def mLc (fz : Bool) (src : En → Store → R Sr) (t : Tgt) (vs : List Nat) (tt : Tx) (el : Ex) : Ex := fun ρ st => (src ρ st).bind fun sr st1 => (lcS t tt el (wipeE ρ vs) sr st1).bind fun ws st2 =>
  if ws.length ≤ sizeLine then R.of (mkS fz false ws st2) else .bad
abbrev W0 : WX := fun _ _ _ _ => False
theorem lcI_noex {g : Store → Nat → Gt} {t : Tgt} {tt : Tx} {el : Ex} {ρ : En} : ∀ (k i : Nat) (st : Store) (c f : Str) (w : W) (st' : Store), lcI g t tt el ρ k i st ≠ .ex c f w st'
  | 0, i, st, c, f, w, st' => by
    unfold lcI
    split <;> simp
  | k + 1, i, st, c, f, w, st' => by
    unfold lcI
    split
    · simp
    · simp
    · split
      · simp
      · rename_i ρ1 _
        cases tt ρ1 st with
        | bad => simp [noEx, R.bind]
        | ex _ _ _ _ => simp [noEx, R.bind]
        | ok b st1 =>
          simp only [noEx, R.bind]
          split
          · cases el ρ1 st1 with
            | bad => simp
            | ex _ _ _ _ => simp
            | ok w2 st2 =>
              simp only
              cases q : lcI g t tt el ρ k (i + 1) st2 with
              | ok ws st3 => simp
              | bad => simp
              | ex c' f' w' s' => exact absurd q (lcI_noex k (i + 1) st2 c' f' w' s')
          · exact lcI_noex k (i + 1) st1 c f w st'
/-- a reading in a block, where no exception goes out -/
theorem post_noEx {α β : Type} {rel : Rel α β} {K : PySem.W.Frag} {mg : Str → Option Value} {Wx Wy : WX} {σ σ' : L2.St} {s : Wd} {H : Hp} {r : R α} {Q : β → Hp → Prop} (h : PostG rel K mg Wx σ s H (noEx r) Q) : PostG rel K mg Wy σ' s H r Q := by
  cases r with
  | ok w st' => exact h
  | ex c f w st' => exact h.elim
  | bad => exact h
section
variable {X : Cx} {Wx : WX} {src : En → Store → R Sr} {t : Tgt} {vs : List Nat} {tt : Tx} {el : Ex} {fz : Bool} {mgb : Str → Option Value}
def LcW (K : PySem.W.Frag) (g : TG) (tt : TT) (te : TE) (vs : List Nat) (σ : L2.St) (Q : VK) (J : It) (H1 : Hp) : Prop := ∀ D, H1 D = none → ∃ W : Nat → Nat → Hp → Prop, (∃ m, W 0 m (upd H1 D (.lst []))) ∧ ∀ i m H, W i m H →
  (J.stop i H ∧ Q (.ref D) H) ∨ (J.go i H ∧ ∃ Nx : Hp → Prop, (∀ H', Nx H' → ∃ m', m' < m ∧ W (i + 1) m' H') ∧ ∀ x H', J.yld i H x H' → g x (L2.wipe σ vs) H' fun σ2 H2 => L2.wipe σ2 vs = L2.wipe σ vs ∧ tt σ2 H2 fun b H3 =>
    if b = true then te σ2 H3 fun y H4 => ∃ acc, H4 D = some (.lst acc) ∧ acc.length < sizeLine ∧ Nx (upd H4 D (.lst (acc ++ [y]))) else Nx H3)
theorem lc_step (hsl : ∀ i ∈ t.slots, i ∈ vs) {σ : L2.St} {H1 : Hp} {Q : VK} {ρ : En} {s1 : Wd} {sr : Sr} {J : It} (o1 : OkW X.K s1 H1) (e1 : EnvRel X.K s1 σ ρ) (r1 : RelI X.K s1 sr J)
    (p1 : PostG (RelW X.K) X.K X.mg Wx σ s1 H1 ((lcS t tt el (wipeE ρ vs) sr s1.st).bind fun ws st2 => if ws.length ≤ sizeLine then R.of (mkS fz false ws st2) else .bad) Q) :
    LcW X.K (gOf X.K t) (tG RelB X.K mgb W0 tt) (tG (RelW X.K) X.K mgb W0 el) vs σ Q J H1 := fun D hD => by
  rw [lcS_eq] at p1
  refine ⟨fun i k H => ∃ s acc av, OkW X.K s (del H D) ∧ Tr s1 H1 s (del H D) ∧ H D = some (.lst av) ∧ RelWs X.K s acc av ∧
    PostG (RelW X.K) X.K X.mg Wx σ s (del H D) ((lcI sr.get t tt el (wipeE ρ vs) k i s.st).bind fun ws st2 => if (acc ++ ws).length ≤ sizeLine then R.of (mkS fz false (acc ++ ws) st2) else .bad) Q,
    ⟨sr.n, s1, [], [], by rw [del_new hD]; exact o1, by rw [del_new hD]; exact .refl _ _, upd_same, .nil, by rw [del_new hD]; simpa using p1⟩, ?_⟩
  rintro i k H ⟨s, acc, av, od, td, hDv, ra, p⟩
  have ok := ok_aside od hDv
  have step := r1 s H td.lw ok i
  cases e : sr.get s.st i with
  | bad => exfalso; cases k <;> (simp only [lcI, e] at p; exact p.elim)
  | stop =>
    rw [e] at step
    refine .inl ⟨step, ?_⟩
    have p : PostG (RelW X.K) X.K X.mg Wx σ s (del H D) (if (acc ++ []).length ≤ sizeLine then R.of (mkS fz false (acc ++ []) s.st) else .bad) Q := by
      cases k with
      | zero => simp only [lcI, e] at p; exact p
      | succ k => simp only [lcI, e] at p; exact p
    rw [List.append_nil] at p
    split at p
    · have q := postO_seq (t := false) (postO_of p) od ra (p := D) del_at
      have e2 : upd (del H D) D (seqO false av) = H := del_upd hDv
      rwa [e2] at q
    · exact p.elim
  | it x =>
    rw [e] at step
    cases k with
    | zero => simp only [lcI, e] at p; exact p.elim
    | succ k =>
      simp only [lcI, e] at p
      refine .inr ⟨step.1, fun H' => ∃ s acc av, OkW X.K s (del H' D) ∧ Tr s1 H1 s (del H' D) ∧ H' D = some (.lst av) ∧ RelWs X.K s acc av ∧
        PostG (RelW X.K) X.K X.mg Wx σ s (del H' D) ((lcI sr.get t tt el (wipeE ρ vs) k (i + 1) s.st).bind fun ws st2 => if (acc ++ ws).length ≤ sizeLine then R.of (mkS fz false (acc ++ ws) st2) else .bad) Q,
        fun H' w => ⟨k, Nat.lt_succ_self _, w⟩, fun v H' y => ?_⟩
      obtain ⟨o2, t2, r2⟩ := step.2 v H' y
      obtain ⟨hD2, od2, td2⟩ := aside_tr (fun _ e => by cases e) (fun _ e => by cases e) od hDv t2 o2
      have en2 : EnvRel X.K s σ ρ := ⟨e1.len, fun i w h => let ⟨v, h1, h2⟩ := e1.get i w h; ⟨v, h1, h2.lw td.lw⟩⟩
      cases ep : t.putI s.st x (wipeE ρ vs) with
      | none => rw [ep] at p; exact p.elim
      | some ρ1 =>
        rw [ep] at p
        dsimp only at p
        refine gOf_ok t x v (L2.wipe σ vs) (wipeE ρ vs) ρ1 _ o2 (en2.wipe vs) r2 ep fun σ2 e2 b2 => ⟨?_, ?_⟩
        · rw [b2 vs hsl]
          have ww : ∀ (l : List Nat) (σ : L2.St), (∀ i ∈ l, σ[i]? = some none ∨ σ[i]? = none) → L2.wipe σ l = σ := by
            intro l
            induction l with
            | nil => intro σ _; rfl
            | cons a l ih =>
              intro σ hz
              unfold L2.wipe
              rw [ih σ fun i hi => hz i (List.mem_cons_of_mem _ hi)]
              have := hz a List.mem_cons_self
              apply List.ext_getElem?
              intro j
              by_cases hj : a = j
              · subst hj
                by_cases hl : a < σ.length
                · rw [List.getElem?_set_self hl]
                  rcases this with q | q
                  · exact q.symm
                  · rw [List.getElem?_eq_none_iff] at q; omega
                · rw [List.getElem?_eq_none (by simpa using hl), List.getElem?_eq_none (by simpa using hl)]
              · rw [List.getElem?_set_ne hj]
          refine ww vs _ fun j hj => ?_
          cases q : (L2.wipe σ vs)[j]? with
          | none => exact .inr rfl
          | some z =>
            cases z with
            | none => exact .inl rfl
            | some z => exact absurd hj (wipe_some q).2
        · -- the test
          have p2 : PostG (RelW X.K) X.K X.mg Wx σ s (del H' D) _ Q := PostG.later td2 p
          clear p
          refine ⟨ρ1, s, o2, e2, ?_⟩
          cases et : tt ρ1 s.st with
          | bad => rw [et] at p2; exact p2.elim
          | ex c f w st' => rw [et] at p2; exact p2.elim
          | ok b st3 =>
            intro b' H3 s3 es3 o3 t3 eb
            cases eb
            rw [et, ← es3] at p2
            obtain ⟨hD3, od3, td3⟩ := aside_tr (fun _ e => by cases e) (fun _ e => by cases e) od2 hD2 t3 o3
            have p3 := PostG.later td3 p2
            clear p2
            cases b with
            | false =>
              rw [if_neg Bool.false_ne_true]
              simp only [noEx, R.bind, Bool.false_eq_true, if_false] at p3
              exact ⟨s3, acc, av, od3, (td.trans td2).trans td3, hD3, (ra.tr td2).tr td3, p3⟩
            | true =>
              rw [if_pos rfl]
              simp only [noEx, R.bind, if_true] at p3
              refine ⟨ρ1, s3, o3, e2.tr t3, ?_⟩
              cases ee : el ρ1 s3.st with
              | bad => rw [ee] at p3; exact p3.elim
              | ex c f w st' => rw [ee] at p3; exact p3.elim
              | ok w st4 =>
                intro v4 H4 s4 es4 o4 t4 r4
                rw [ee, ← es4] at p3
                obtain ⟨hD4, od4, td4⟩ := aside_tr (fun _ e => by cases e) (fun _ e => by cases e) od3 hD3 t4 o4
                have p4 := PostG.later td4 p3
                clear p3
                simp only at p4
                cases el2 : lcI sr.get t tt el (wipeE ρ vs) k (i + 1) s4.st with
                | bad => rw [el2] at p4; exact p4.elim
                | ex c f w st' => exact absurd el2 (lcI_noex _ _ _ _ _ _ _)
                | ok ws st5 =>
                  rw [el2] at p4
                  simp only at p4
                  have ra4 : RelWs X.K s4 (acc ++ [w]) (av ++ [v4]) := relWs_append ((((ra.tr td2).tr td3)).tr td4) (.cons r4 .nil)
                  have hlen : av.length < sizeLine := by
                    split at p4
                    · rename_i hl
                      have := ra.length
                      simp at hl
                      omega
                    · exact p4.elim
                  refine ⟨av, hD4, hlen, s4, acc ++ [w], av ++ [v4], by rw [del_put]; exact od4, by rw [del_put]; exact ((td.trans td2).trans td3).trans td4, upd_same, ra4, ?_⟩
                  rw [del_put, el2]
                  simpa [R.bind] using p4
theorem lc_of (hsl : ∀ i ∈ t.slots, i ∈ vs)
    {σ : L2.St} {H : Hp} {Q : VK} (h : tG (RelW X.K) X.K X.mg Wx (mLc fz src t vs tt el) σ H Q) :
    tLc (tG (RelI X.K) X.K X.mg Wx src) (gOf X.K t) (tG RelB X.K mgb W0 tt) (tG (RelW X.K) X.K mgb W0 el) vs σ H Q := by
  obtain ⟨ρ, s, ok, en, h⟩ := h
  exact (tg_bind (rel := RelI X.K) ok en h).mono fun J H1 ⟨sr, s1, o1, t1, r1, e1, p1⟩ => lc_step hsl o1 e1 r1 p1
theorem fe_lc (fz : Bool) {elt tg iter : Expr} {ifs : List Expr} {scope : Scope} {own : List (Str × Nat)} {pos : Pos} (hc : X.calm = true) (hN : X.N.Nodup) (hi : FI X Wx tg iter src) (ok : BlkOk X.N X.env.scope scope own)
    (hg : ∀ (s : Shared) (H : Hp) (C : Addr) (cl : List (Str × Addr)) (fp : List Addr), FG (X.blk s H scope (compEnvC scope cl C X.env) fp) tg t)
    (ht : ∀ (s : Shared) (H : Hp) (C : Addr) (cl : List (Str × Addr)) (fp : List Addr), PTs (X.blk s H scope (compEnvC scope cl C X.env) fp) ifs (tG RelB X.K X.mg W0 tt))
    (he : ∀ (s : Shared) (H : Hp) (C : Addr) (cl : List (Str × Addr)) (fp : List Addr), FE (X.blk s H scope (compEnvC scope cl C X.env) fp) W0 elt el) (hsl : ∀ i ∈ t.slots, i ∈ own.map (·.2) := by decide) (hs : ∀ x, foldedSetIterable iter X.env x = pure x := by intro _; rfl) :
    FE X Wx (.ListComp elt [⟨tg, iter, ifs, 0⟩] scope pos) (mLc fz src t (own.map (·.2)) tt el) :=
  PE.imp (pe_lc (g := gOf X.K t) (tt := tG RelB X.K X.mg W0 tt) (te := tG (RelW X.K) X.K X.mg W0 el) hc hN hi ok hg ht he hs) fun σ H Q h => lc_of hsl h
theorem fs_setLc (fz : Bool) {i : Nat} {y : Str} {py : Pos} {elt tg iter : Expr} {ifs : List Expr} {scope : Scope} {own : List (Str × Nat)} {pos spos : Pos} (hc : X.calm = true) (hN : X.N.Nodup) (hy : X.N[i]? = some y) (hyl : X.env.scope.names.lookup y = some .local)
    (hsw : swapsWith (.ListComp elt [⟨tg, iter, ifs, 0⟩] scope pos) (some (.Name y py)) spos.line X.env = pure true) (hi : FI X Wx tg iter src) (ok : BlkOk X.N X.env.scope scope own)
    (hg : ∀ (s : Shared) (H : Hp) (C : Addr) (cl : List (Str × Addr)) (fp : List Addr), FG (X.blk s H scope (compEnvC scope cl C X.env) fp) tg t)
    (ht : ∀ (s : Shared) (H : Hp) (C : Addr) (cl : List (Str × Addr)) (fp : List Addr), PTs (X.blk s H scope (compEnvC scope cl C X.env) fp) ifs (tG RelB X.K X.mg W0 tt))
    (he : ∀ (s : Shared) (H : Hp) (C : Addr) (cl : List (Str × Addr)) (fp : List Addr), FE (X.blk s H scope (compEnvC scope cl C X.env) fp) W0 elt el) (hsl : ∀ i ∈ t.slots, i ∈ own.map (·.2) := by decide) (hs : ∀ x, foldedSetIterable iter X.env x = pure x := by intro _; rfl) :
    FS X Wx (.Assign [.Name y py] (.ListComp elt [⟨tg, iter, ifs, 0⟩] scope pos) spos) (sAsg (.nm i) (mLc fz src t (own.map (·.2)) tt el)) :=
  PS.imp (ps_setLc (g := gOf X.K t) (tt := tG RelB X.K X.mg W0 tt) (te := tG (RelW X.K) X.K X.mg W0 el) hc hN hy hyl hsw hi ok hg ht he hs) fun D σ H ⟨ρ, s, o, en, h⟩ => by
    have z := (tgS_bind (rel := RelW X.K) o en h).mono (fun v H1 ⟨w, s1, o1, t1, r1, e1, p1⟩ => p1 (σ.set i (some v)) H1 s1 rfl o1 (.refl _ _) (e1.set i r1) : ∀ v H', _ → D.nx (σ.set i (some v)) H')
    exact lc_of hsl z
theorem fts_nil : PTs X [] (tG RelB X.K X.mg Wx tYesX) := ⟨fun pins s σ H Q I ⟨ρ, w, o, en, h⟩ => pts_nil.run pins s σ H Q I (h.here o rfl)⟩
theorem fts_one {c : Expr} {m : Tx} (h : FT X Wx c m) : PTs X [c] (tG RelB X.K X.mg Wx m) := pts_one h
end
end IL

set_option maxHeartbeats 4000007
namespace IL
open PySem PySem.Spec
open PyProof.Rows L2

/-! ### pure functions: data to data -/
inductive Pr where
  | ok (x : D) | ex (c f : Str) (x : D) | bad
structure Ext (F H F' H' : Hp) : Prop where
  le : HLe F F'
  sub : HLe F' H'
  keep : LamX.ExtN H H'
  dom : ∀ a, Fr H' a → Fr H a
  tab : ∀ T, LamX.Tabs T H → LamX.Tabs T H'
  fnew : ∀ a, F' a ≠ none → F a ≠ none ∨ Fr H a
  nt : ∀ a ps, F' a ≠ some (.tbl ps)
def PostP (K : PySem.W.Frag) (mg : Str → Option Value) (F H : Hp) (r : Pr) (Q : VK) (E : XK) : Prop := match r with
  | .ok x => ∀ v H' F', Ext F H F' H' → Rp K F' x v → Q v H'
  | .ex c f x => ∀ C v dd H' F', mg c = some (.ref C) → Ext F H F' H' → Rp K F' x v → Fr H dd → F' dd = some (.xd [(f, v)]) → E (.ref C) (some dd) H'
  | .bad => False
def spP (K : PySem.W.Frag) (mg : Str → Option Value) (n : Nat) (P : List D → Pr) : Sp := fun vs H Q E => ∃ xs F, HLe F H ∧ (∀ a ps, F a ≠ some (.tbl ps)) ∧ Rps K F xs vs ∧ vs.length = n ∧ PostP K mg F H (P xs) Q E
def initE (n : Nat) (ws : List W) : En := ws.map some ++ List.replicate (n - ws.length) none
/-- a value read in depth, all its places new (or frozen) -/
def deepB (b : Nat) : Nat → Store → W → Option D
  | _, _, .d x => some x
  | 0, _, .loc _ => none
  | _, _, .v _ => none
  | k + 1, st, .loc n => match st[n]? with
    | some (.lst ws) => if b ≤ n then (mapO (deepB b k st) ws).map (.seq false) else none
    | some (.tup ws) => if b ≤ n then (mapO (deepB b k st) ws).map (.seq true) else none
    | some (.frz x) => some x
    | _ => none
section
variable {K : PySem.W.Frag} {s : Wd} {H : Hp}
theorem deepB_ok {b : Nat} {G : Hp} (ok : OkW K s H) (hG : HLe s.F G) (hm : ∀ n so, b ≤ n → s.st[n]? = some so → so.mut = true → G (s.φ n) = H (s.φ n)) : ∀ (k : Nat) (w : W) (x : D) (v : V), deepB b k s.st w = some x → RelW K s w v → Rp K G x v
  | k, .d y, x, v, e, h => by
    have : y = x := by cases k <;> (simp only [deepB] at e; exact Option.some.inj e)
    subst this
    exact Rp.mono hG _ _ h
  | 0, .loc n, x, v, e, h => by simp [deepB] at e
  | 0, .v n, x, v, e, h => by simp [deepB] at e
  | k + 1, .v n, x, v, e, h => by simp [deepB] at e
  | k + 1, .loc n, x, v, e, h => by
    obtain ⟨hl, ev⟩ := h
    have hg : s.st[n]? = some s.st[n] := List.getElem?_eq_getElem hl
    have q := ok.obj n _ hg
    simp only [deepB, hg] at e
    cases es : s.st[n] with
    | lst ws =>
      rw [es] at q e hg
      obtain ⟨vs, q1, _, q3⟩ := q
      simp only at e
      split at e
      · rename_i hb
        cases em : mapO (deepB b k s.st) ws with
        | none => rw [em] at e; cases e
        | some xs =>
          rw [em] at e; cases e
          simp only [Rp]
          exact ⟨_, vs, ev, (hm n _ hb hg rfl).trans q1, rps_of (mapO_rel (fun a c d h1 h2 => deepB_ok ok hG hm k a c d h1 h2) em q3)⟩
      · cases e
    | tup ws =>
      rw [es] at q e hg
      obtain ⟨vs, q1, _, q3⟩ := q
      simp only at e
      split at e
      · rename_i hb
        cases em : mapO (deepB b k s.st) ws with
        | none => rw [em] at e; cases e
        | some xs =>
          rw [em] at e; cases e
          simp only [Rp]
          exact ⟨_, vs, ev, (hm n _ hb hg rfl).trans q1, rps_of (mapO_rel (fun a c d h1 h2 => deepB_ok ok hG hm k a c d h1 h2) em q3)⟩
      · cases e
    | dK ws => rw [es] at e; cases e
    | dT ws => rw [es] at e; cases e
    | tabs T => rw [es] at e; cases e
    | frz y =>
      rw [es] at q e
      cases e
      rw [ev]
      exact Rp.mono hG _ _ q
end
def outP (r : RS) : Pr := match r with
  | .ok .nx _ _ => .ok .non
  | .ok (.rt w) _ st => match deepB 0 st.length st w with
    | some x => .ok x
    | none => .bad
  | .ex c f w _ st => match deepB 0 st.length st w with
    | some x => .ex c f x
    | none => .bad
  | _ => .bad
def pureOf (n : Nat) (m : Sx) : List D → Pr := fun xs => outP (m (initE n (xs.map .d)) [])
theorem start_env {K : PySem.W.Frag} {s : Wd} {N : List Str} {ws : List W} {vs : List V} (r : RelWs K s ws vs) : EnvRel K s (L2.start N vs) (initE N.length ws) := by
  have l := r.length
  refine ⟨by simp [L2.start, initE, l], fun i w h => ?_⟩
  unfold initE at h
  unfold L2.start
  by_cases hi : i < ws.length
  · rw [List.getElem?_append_left (by simpa using hi), List.getElem?_map] at h
    obtain ⟨w', e1, e2⟩ := Option.map_eq_some_iff.mp h
    cases e2
    obtain ⟨v, e3, rr⟩ := paired_some r e1
    exact ⟨v, by rw [List.getElem?_append_left (by simp; omega), List.getElem?_map, e3]; rfl, rr⟩
  · rw [List.getElem?_append_right (by simpa using Nat.le_of_not_lt hi)] at h
    have := List.mem_of_getElem? h
    simp at this
/-- a world of frozen objects alone -/
def frozen (F : Hp) : Wd := ⟨fun _ => 0, F, [], none⟩
theorem ok_frozen {K : PySem.W.Frag} {F H : Hp} (h : HLe F H) (nt : ∀ a ps, F a ≠ some (.tbl ps)) : OkW K (frozen F) H := ⟨h, fun n so e => by simp [frozen] at e, fun n m so so' e => by simp [frozen] at e, nt⟩
open Classical in
/-- what was made since -/
noncomputable def since (F H H' : Hp) : Hp := fun a => match F a with
  | some o => some o
  | none => if Fr H a ∧ ∀ ps, H' a ≠ some (.tbl ps) then H' a else none
theorem since_ext {K : PySem.W.Frag} {F H H' : Hp} {s' : Wd} (hF : HLe F H) (nt : ∀ a ps, F a ≠ some (.tbl ps)) (t : Tr (frozen F) H s' H') (ok : OkW K s' H') : Ext F H (since F H H') H' ∧ HLe s'.F (since F H H') ∧ ∀ n so, 0 ≤ n → s'.st[n]? = some so → so.mut = true → since F H H' (s'.φ n) = H' (s'.φ n) := by
  have kp : LamX.ExtN H H' := fun a o e nt => t.keep a o e nt fun n so hn => by simp [frozen] at hn
  have le : HLe s'.F (since F H H') := fun a o e => by
    unfold since
    cases ef : F a with
    | some o' =>
      have := t.F a o' ef
      rw [e] at this
      simpa using this.symm
    | none =>
      rcases t.fnew a (by rw [e]; simp) with z | z | ⟨n, so, hn, _⟩
      · exact absurd ef z
      · simp only; rw [if_pos ⟨z, fun ps q => by rw [ok.sub a o e] at q; rw [q] at e; exact ok.nt _ _ e⟩]; exact ok.sub a o e
      · simp [frozen] at hn
  have mt : ∀ n so, s'.st[n]? = some so → so.mut = true → since F H H' (s'.φ n) = H' (s'.φ n) := fun n so hn hm => by
    have q := t.new n (Nat.zero_le _) (List.getElem?_eq_some_iff.mp hn).1
    obtain ⟨_, _, nF⟩ := ok.at_ hn hm
    unfold since
    cases ef : F (s'.φ n) with
    | some o => have z := t.F _ _ ef; rw [nF] at z; cases z
    | none => simp only; rw [if_pos ⟨q, fun ps e => ok.notFr hn hm fun o z => ⟨ps, by rw [e] at z; exact (Option.some.inj z).symm⟩⟩]
  refine ⟨⟨fun a o e => by unfold since; rw [e], fun a o e => ?_, kp, t.dom, fun T h => t.tab T (fun n T' e => by simp [frozen] at e) h, fun a e => ?_, fun a ps e => ?_⟩, le, fun n so _ hn hm => mt n so hn hm⟩
  · unfold since at e
    split at e
    · rename_i o' ef
      cases e
      exact ok.sub _ _ (t.F _ _ ef)
    · split at e
      · exact e
      · cases e
  · unfold since at e
    split at e
    · rename_i o' ef
      exact .inl (by rw [ef]; simp)
    · split at e
      · rename_i hh
        exact .inr hh.1
      · exact absurd rfl e
  · unfold since at e
    split at e
    · rename_i o' ef
      cases e
      exact nt _ _ ef
    · split at e
      · rename_i hh
        exact hh.2 _ e
      · cases e
abbrev WF (E : XK) : WX := fun c d _ H => E c d H
section
variable {P : Program} {w : World} {K : PySem.W.Frag} {mg : Str → Option Value} {base : Heap} {x qual : Str} {st : Stmt} {f : Addr} {fd : FuncData} {N ps : List Str} {k : Nat} {m : Sx}
/-- what a def's body is, in its frame -/
def Body (P : Program) (w : World) (K : PySem.W.Frag) (mg : Str → Option Value) (base : Heap) (qual : Str) (st : Stmt) (f : Addr) (N : List Str) (k : Nat) (m : Sx) : Prop :=
  ∀ (cdv : Value) (A : Around) (outer : List Env) (s : Shared) (H : Hp) (E : XK), Room k (A.deeper (envOfC qual (defScope st) s.heap.objs.size f cdv)) → FSs (cxOf (L2.CX P w) P w K mg base N qual (defScope st) f cdv A outer s H E) (WF E) (defBody st) m
theorem fn_pure (F : Fun K x qual st f fd) (S : FnScope N ps (defScope st)) (hb : Body P w K mg base qual st f N k m) : FnOk P w K mg base (L2.CX P w) (k + 1) f fd ps (spP K mg ps.length (pureOf N.length m)) := by
  refine F.okX S (fun vs H Q E ⟨_, _, _, _, _, l, _⟩ => l) fun cdv A outer s H vs Q E hr ⟨xs, G, hG, nG, hr2, hl, hp⟩ => ⟨_, hb cdv A outer s H E hr, ?_⟩
  refine ⟨initE N.length (xs.map .d), frozen G, ok_frozen hG nG, start_env (rps_rel hr2), ?_⟩
  show PostS K mg (WF E) (frozen G) H (m (initE N.length (xs.map .d)) []) _
  unfold pureOf at hp
  cases e : m (initE N.length (xs.map .d)) [] with
  | bad => rw [e] at hp; exact hp.elim
  | ok fl ρ st' =>
    rw [e] at hp
    intro σ' H' s' es o t en
    obtain ⟨x1, le, og⟩ := since_ext hG nG t o
    cases fl with
    | nx => exact hp .non H' _ x1 (by simp [Rp])
    | bk => exact hp.elim
    | ct => exact hp.elim
    | rt w =>
      intro v r
      subst es
      simp only [outP] at hp
      cases ew : deepB 0 s'.st.length s'.st w with
      | none => rw [ew] at hp; exact hp.elim
      | some y =>
        rw [ew] at hp
        exact hp v H' _ x1 (deepB_ok o le og _ _ _ _ ew r)
  | ex c f' w ρ st' =>
    rw [e] at hp
    intro C v dd σ' H' s' hc es o t en r hd hF
    obtain ⟨x1, le, og⟩ := since_ext hG nG t o
    subst es
    simp only [outP] at hp
    cases ew : deepB 0 s'.st.length s'.st w with
    | none => rw [ew] at hp; exact hp.elim
    | some y =>
      rw [ew] at hp
      exact hp C v dd H' _ hc x1 (deepB_ok o le og _ _ _ _ ew r) hd (le _ _ hF)
end

/-! ### functions that see the store -/
abbrev FnW := List W → Store → R W
def spW (K : PySem.W.Frag) (mg : Str → Option Value) (n : Nat) (G : FnW) : Sp := fun vs H Q E => ∃ ws s, OkW K s H ∧ RelWs K s ws vs ∧ vs.length = n ∧ PostG (RelW K) K mg (WF E) [] s H (G ws s.st) Q
def outW (r : RS) : R W := match r with
  | .ok .nx _ st => .ok (.d .non) st
  | .ok (.rt w) _ st => .ok w st
  | .ex c f w _ st => .ex c f w st
  | _ => .bad
def rawOf (n : Nat) (m : Sx) : FnW := fun ws st => outW (m (initE n ws) st)
section
variable {P : Program} {w : World} {K : PySem.W.Frag} {mg : Str → Option Value} {base : Heap} {x qual : Str} {st : Stmt} {f : Addr} {fd : FuncData} {N ps : List Str} {k : Nat} {m : Sx}
theorem fn_raw (F : Fun K x qual st f fd) (S : FnScope N ps (defScope st)) (hb : Body P w K mg base qual st f N k m) : FnOk P w K mg base (L2.CX P w) (k + 1) f fd ps (spW K mg ps.length (rawOf N.length m)) := by
  refine F.okX S (fun vs H Q E ⟨_, _, _, _, l, _⟩ => l) fun cdv A outer s H vs Q E hr ⟨ws, s0, o0, hr2, hl, hp⟩ => ⟨_, hb cdv A outer s H E hr, ?_⟩
  refine ⟨initE N.length ws, s0, o0, start_env hr2, ?_⟩
  show PostS K mg (WF E) s0 H (m (initE N.length ws) s0.st) _
  unfold rawOf at hp
  cases e : m (initE N.length ws) s0.st with
  | bad => rw [e] at hp; exact hp.elim
  | ok fl ρ st' =>
    rw [e] at hp
    intro σ' H' s' es o t en
    cases fl with
    | nx => exact hp .non H' s' es o t rl_non
    | bk => exact hp.elim
    | ct => exact hp.elim
    | rt w => exact fun v r => hp v H' s' es o t r
  | ex c f' w ρ st' =>
    rw [e] at hp
    intro C v dd σ' H' s' hc es o t en r hd hF
    exact hp C v dd H' s' hc es o t r hd hF
/-- a def whose body is known at each depth: recursion -/
theorem spP_imp {n : Nat} {G G' : List D → Pr} (h : ∀ xs, G' xs = .bad ∨ G' xs = G xs) {vs : List V} {H : Hp} {Q : VK} {E : XK} (q : spP K mg n G' vs H Q E) : spP K mg n G vs H Q E := by
  obtain ⟨xs, F, a, a', b, c, d⟩ := q
  rcases h xs with z | z
  · rw [z] at d; exact d.elim
  · exact ⟨xs, F, a, a', b, c, by rw [← z]; exact d⟩
end

/-! ### the store is cut back behind a call: what is new is frozen or gone -/
def lowW (n : Nat) : W → Bool
  | .loc m => decide (m < n)
  | _ => true
def lowO (n : Nat) : SO → Bool
  | .lst ws => ws.all (lowW n)
  | .tup ws => ws.all (lowW n)
  | .dK ws => ws.all fun p => lowW n p.2
  | .dT ws => ws.all fun p => lowW n p.2
  | .frz _ => true
  | .tabs _ => true
def cutTo (b : Nat) (r : R W) : R W := match r with
  | .ok w st => if (st.take b).all (lowO b) = true then (match deepB b st.length st w with
      | some x => .ok (.d x) (st.take b)
      | none => r) else r
  | r => r
def normF (G : FnW) : FnW := fun ws st => cutTo st.length (G ws st)
section
variable {K : PySem.W.Frag} {s : Wd} {H : Hp}
open Classical in
noncomputable def cutF (s : Wd) (H : Hp) (b : Nat) : Hp := fun a => match s.F a with
  | some o => some o
  | none => if ∃ n so, b ≤ n ∧ s.st[n]? = some so ∧ so.mut = true ∧ s.φ n = a then H a else none
noncomputable def cutS (s : Wd) (H : Hp) (b : Nat) : Wd := { s with F := cutF s H b, st := s.st.take b }
theorem low_rel {b : Nat} {s' : Wd} {w : W} {v : V} (hl : lowW b w = true) (hF : HLe s.F s'.F) (hp : s'.φ = s.φ) (hs : s'.st = s.st.take b) (r : RelW K s w v) : RelW K s' w v := by
  cases w with
  | d x => exact Rp.mono hF _ _ r
  | v x => exact r
  | loc n =>
    simp only [lowW, decide_eq_true_eq] at hl
    exact ⟨by rw [hs, List.length_take]; have := r.1; omega, by rw [hp]; exact r.2⟩
theorem low_rels {b : Nat} {s' : Wd} {ws : List W} {vs : List V} (hl : ws.all (lowW b) = true) (hF : HLe s.F s'.F) (hp : s'.φ = s.φ) (hs : s'.st = s.st.take b) (r : RelWs K s ws vs) : RelWs K s' ws vs := by
  induction r with
  | nil => exact .nil
  | cons r1 r2 ih =>
    simp only [List.all_cons, Bool.and_eq_true] at hl
    exact .cons (low_rel hl.1 hF hp hs r1) (ih hl.2)
theorem low_relk {κ : Type} {b : Nat} {s' : Wd} {ws : List (κ × W)} {vs : List (κ × V)} (hl : (ws.all fun p => lowW b p.2) = true) (hF : HLe s.F s'.F) (hp : s'.φ = s.φ) (hs : s'.st = s.st.take b) (r : RelKs K s ws vs) : RelKs K s' ws vs := by
  induction r with
  | nil => exact .nil
  | cons r1 r2 ih =>
    simp only [List.all_cons, Bool.and_eq_true] at hl
    exact .cons ⟨r1.1, low_rel hl.1 hF hp hs r1.2⟩ (ih hl.2)
theorem cutF_nt {b : Nat} (ok : OkW K s H) (a : Addr) (ps : Array Value) (e : cutF s H b a = some (.tbl ps)) : False := by
  unfold cutF at e
  split at e
  · rename_i o' ef
    cases e
    exact ok.nt _ _ ef
  · split at e
    · rename_i hh
      obtain ⟨n, so, _, h2, h3, h4⟩ := hh
      rw [← h4] at e
      exact ok.notFr h2 h3 fun o z => ⟨ps, by rw [e] at z; exact (Option.some.inj z).symm⟩
    · cases e
theorem cut_ok {b : Nat} {s0 : Wd} {H0 : Hp} (hb : s0.st.length = b) (t : Tr s0 H0 s H) (ok : OkW K s H) (hl : (s.st.take b).all (lowO b) = true) : OkW K (cutS s H b) H ∧ Tr s0 H0 (cutS s H b) H := by
  have le : HLe s.F (cutF s H b) := fun a o e => by unfold cutF; rw [e]
  have sub : HLe (cutF s H b) H := fun a o e => by
    unfold cutF at e
    split at e
    · rename_i o' ef
      cases e
      exact ok.sub _ _ ef
    · split at e
      · exact e
      · cases e
  have get : ∀ {n so}, (s.st.take b)[n]? = some so → n < b ∧ s.st[n]? = some so := fun {n so} h => by
    rw [List.getElem?_take] at h
    split at h
    · exact ⟨by assumption, h⟩
    · cases h
  have nF : ∀ n so, n < b → s.st[n]? = some so → so.mut = true → cutF s H b (s.φ n) = none := fun n so hn hs hm => by
    obtain ⟨_, _, q⟩ := ok.at_ hs hm
    unfold cutF
    rw [q]
    simp only
    rw [if_neg]
    rintro ⟨n', so', h1, h2, h3, h4⟩
    have := ok.inj n' n so' so h2 hs h3 hm h4
    omega
  refine ⟨⟨sub, fun n so h => ?_, fun n m so so' h1 h2 => ok.inj n m so so' (get h1).2 (get h2).2, fun a ps e => cutF_nt ok a ps e⟩, ?_⟩
  · obtain ⟨hn, hs⟩ := get h
    have r := ok.obj n so hs
    have lo : lowO b so = true := List.all_eq_true.mp hl so (List.mem_of_getElem? h)
    cases so with
    | frz x => exact Rp.mono le _ _ r
    | tabs T => exact r
    | lst ws => obtain ⟨vs, q1, q2, q3⟩ := r; exact ⟨vs, q1, nF n _ hn hs rfl, low_rels lo le rfl rfl q3⟩
    | tup ws => obtain ⟨vs, q1, q2, q3⟩ := r; exact ⟨vs, q1, nF n _ hn hs rfl, low_rels lo le rfl rfl q3⟩
    | dK ws => obtain ⟨vs, q1, q2, q3⟩ := r; exact ⟨vs, q1, nF n _ hn hs rfl, low_relk lo le rfl rfl q3⟩
    | dT ws => obtain ⟨vs, q1, q2, q3⟩ := r; exact ⟨vs, q1, nF n _ hn hs rfl, low_relk lo le rfl rfl q3⟩
  · refine ⟨?_, t.phi, t.F.trans le, fun n x h m => ?_, fun n h1 h2 => ?_, t.keep, t.dom, fun a h => ?_, t.ex, t.tab, fun n T' h => t.tb0 n T' (get h).2⟩
    · show _ ≤ (s.st.take b).length
      rw [List.length_take, hb]
      have := t.len
      omega
    · show (s.st.take b)[n]? = _
      have hl := (List.getElem?_eq_some_iff.mp h).1
      rw [List.getElem?_take, if_pos (by omega)]
      exact t.frz n x h m
    · have h2 : n < (s.st.take b).length := h2
      rw [List.length_take] at h2
      omega
    · have h : cutF s H b a ≠ none := h
      unfold cutF at h
      split at h
      · rename_i o' ef
        exact t.fnew a (by rw [ef]; simp)
      · split at h
        · rename_i hx
          obtain ⟨n, so, h1, h2, _, h4⟩ := hx
          exact .inr (.inl (by rw [← h4]; exact t.new n (by omega) (List.getElem?_eq_some_iff.mp h2).1))
        · exact absurd rfl h
theorem cut_post {mg : Str → Option Value} {Wx : WX} {σ : L2.St} {r : R W} {Q : V → Hp → Prop} (h : PostG (RelW K) K mg Wx σ s H (cutTo s.st.length r) Q) : PostG (RelW K) K mg Wx σ s H r Q := by
  unfold cutTo at h
  split at h
  · rename_i w st'
    split at h
    · rename_i hl
      split at h
      · rename_i x ex
        intro v H' s' es o t rv
        subst es
        obtain ⟨o2, t2⟩ := cut_ok rfl t o hl
        refine h v H' (cutS s' H' s.st.length) rfl o2 t2 (?_ : Rp K (cutF s' H' s.st.length) x v)
        refine deepB_ok (G := cutF s' H' s.st.length) o (fun a o e => by unfold cutF; rw [e]) (fun n so hn hs hm => ?_) _ _ _ _ ex rv
        obtain ⟨_, _, q⟩ := o.at_ hs hm
        unfold cutF
        rw [q]
        simp only
        rw [if_pos ⟨n, so, hn, hs, hm, rfl⟩]
      · exact h
    · exact h
  · exact h
theorem FnOk.norm {P : Program} {w : World} {mg : Str → Option Value} {base : Heap} {CX : CXT} {k : Nat} {f : Addr} {fd : FuncData} {ps : List Str} {n : Nat} {G : FnW} (F : FnOk P w K mg base CX k f fd ps (spW K mg n G)) : FnOk P w K mg base CX k f fd ps (spW K mg n (normF G)) :=
  F.imp fun vs H Q E ⟨ws, s, a, b, c, d⟩ => ⟨ws, s, a, b, c, cut_post d⟩
end

/-! ### calls -/
def D.flat : D → Bool
  | .non => true | .bl _ => true | .int _ => true | .str _ => true
  | _ => false
def okFlat (b : Bool) (r : Pr) (st : Store) : R W := match r with
  | .ok x => if (b || x.flat) = true then .ok (.d x) st else .bad
  | .ex c f x => if (b || x.flat) = true then .ex c f (.d x) st else .bad
  | .bad => .bad
def callP (P : List D → Pr) (n : Nat) (ws : List W) (st : Store) : R W := if ws.length = n then (match allD ws with
  | some xs => okFlat true (P xs) st
  | none => match mapO (deepB 0 st.length st) ws with
    | some xs => okFlat false (P xs) st
    | none => .bad) else .bad
def mPure (P : List D → Pr) (n : Nat) (ms : Ax) : Ex := fun ρ st => (ms ρ st).bind (callP P n)
def mRaw (G : FnW) (n : Nat) (ms : Ax) : Ex := fun ρ st => (ms ρ st).bind fun ws st1 => if ws.length = n then G ws st1 else .bad
section
variable {K : PySem.W.Frag} {mg : Str → Option Value} {s : Wd} {H : Hp} {Wx : WX} {σ : L2.St}
/-- another F for the world -/
theorem ext_world {F' H' : Hp} (ok : OkW K s H) (le : HLe s.F F') (sub : HLe F' H') (keep : LamX.ExtN H H') (dom : ∀ a, Fr H' a → Fr H a) (tab : ∀ T, LamX.Tabs T H → LamX.Tabs T H') (fnew : ∀ a, F' a ≠ none → s.F a ≠ none ∨ Fr H a) (nt : ∀ a ps, F' a ≠ some (.tbl ps)) : OkW K { s with F := F' } H' ∧ Tr s H { s with F := F' } H' := by
  have nF : ∀ n so, s.st[n]? = some so → so.mut = true → F' (s.φ n) = none := fun n so hn hm => by
    obtain ⟨u, hu, q⟩ := ok.at_ hn hm
    cases z : F' (s.φ n) with
    | none => rfl
    | some o =>
      rcases fnew _ (by rw [z]; simp) with y | y
      · exact absurd q y
      · exact (ok.notFr hn hm y).elim
  have t : Tr s H { s with F := F' } H' := ⟨Nat.le_refl _, fun _ _ => rfl, le, fun _ _ h _ => h, fun n h1 h2 => absurd h2 (Nat.not_lt.mpr h1), fun a o h nt _ => keep a o h nt, dom, fun a h => (fnew a h).elim .inl fun z => .inr (.inl z), rfl, fun T _ h => tab T h, fun _ _ h => h⟩
  refine ⟨⟨sub, fun n so hn => ?_, ok.inj, nt⟩, t⟩
  have r := ok.obj n so hn
  cases so with
  | frz x => exact Rp.mono le _ _ r
  | tabs T => exact tab T r
  | lst ws => obtain ⟨vs, q1, q2, q3⟩ := r; exact ⟨vs, keep _ _ q1 (fun _ e => by cases e), nF n _ hn rfl, q3.tr t⟩
  | tup ws => obtain ⟨vs, q1, q2, q3⟩ := r; exact ⟨vs, keep _ _ q1 (fun _ e => by cases e), nF n _ hn rfl, q3.tr t⟩
  | dK ws => obtain ⟨vs, q1, q2, q3⟩ := r; exact ⟨vs, keep _ _ q1 (fun _ e => by cases e), nF n _ hn rfl, q3.tr t⟩
  | dT ws => obtain ⟨vs, q1, q2, q3⟩ := r; exact ⟨vs, keep _ _ q1 (fun _ e => by cases e), nF n _ hn rfl, q3.tr t⟩
theorem flat_rp {x : D} {v : V} {F G : Hp} (h : x.flat = true) (r : Rp K F x v) : Rp K G x v := by
  cases x <;> first
    | cases h; done
    | simpa only [Rp] using r
theorem callP_post {P : List D → Pr} {n : Nat} {ws : List W} {vs : List V} {Q : VK} (h : PostG (RelW K) K mg Wx σ s H (callP P n ws s.st) Q) (ok : OkW K s H) (r : RelWs K s ws vs) : spP K mg n P vs H Q (WE Wx σ) := by
  unfold callP at h
  split at h
  · rename_i hl
    have hl' : vs.length = n := by rw [← hl, r.length]
    split at h
    · rename_i xs ex
      refine ⟨xs, s.F, ok.sub, ok.nt, allD_rel ex r, hl', ?_⟩
      cases ep : P xs with
      | bad => rw [ep] at h; exact h.elim
      | ok x =>
        rw [ep] at h
        simp only [okFlat, Bool.true_or, if_true] at h
        intro v H' F' x1 rv
        obtain ⟨o2, t2⟩ := ext_world ok x1.le x1.sub x1.keep x1.dom x1.tab x1.fnew x1.nt
        exact h v H' { s with F := F' } rfl o2 t2 rv
      | ex c f x =>
        rw [ep] at h
        simp only [okFlat, Bool.true_or, if_true] at h
        intro C v dd H' F' hc x1 rv hd hF
        obtain ⟨o2, t2⟩ := ext_world ok x1.le x1.sub x1.keep x1.dom x1.tab x1.fnew x1.nt
        exact h C v dd H' { s with F := F' } hc rfl o2 t2 rv hd hF
    · split at h
      · rename_i xs ex
        have le0 : HLe s.F (cutF s H 0) := fun a o e => by unfold cutF; rw [e]
        have sub0 : HLe (cutF s H 0) H := fun a o e => by
          unfold cutF at e
          split at e
          · rename_i o' ef
            cases e
            exact ok.sub _ _ ef
          · split at e
            · exact e
            · cases e
        refine ⟨xs, cutF s H 0, sub0, fun a ps e => cutF_nt ok a ps e, rps_of (mapO_rel (P := RelW K s) (Q := Rp K (cutF s H 0)) (fun a b c h1 h2 => deepB_ok ok le0 (fun n so hn hs hm => by
          obtain ⟨_, _, q⟩ := ok.at_ hs hm
          unfold cutF
          rw [q]
          simp only
          rw [if_pos ⟨n, so, hn, hs, hm, rfl⟩]) _ a b c h1 h2) ex r), hl', ?_⟩
        cases ep : P xs with
        | bad => rw [ep] at h; exact h.elim
        | ok x =>
          rw [ep] at h
          simp only [okFlat, Bool.false_or] at h
          split at h
          · rename_i hf
            intro v H' F' x1 rv
            obtain ⟨o2, t2⟩ := ext_world (F' := s.F) (H' := H') ok (HLe.refl _) ((le0.trans x1.le).trans x1.sub) x1.keep x1.dom x1.tab (fun a z => .inl z) ok.nt
            exact h v H' { s with F := s.F } rfl o2 t2 (flat_rp hf rv)
          · exact h.elim
        | ex c f x =>
          rw [ep] at h
          simp only [okFlat, Bool.false_or] at h
          split at h
          · rename_i hf
            intro C v dd H' F' hc x1 rv hd hF
            have hs : s.F dd = none := by
              cases z : s.F dd with
              | none => rfl
              | some o =>
                have y := x1.le _ _ (le0 _ _ z)
                rw [hF] at y
                cases y
                exact (hd.not (ok.sub _ _ z) fun _ e => by cases e).elim
            obtain ⟨o2, t2⟩ := ext_world (F' := upd s.F dd (.xd [(f, v)])) (H' := H') ok (HLe.upd hs) (fun a o e => by
              by_cases q : a = dd
              · subst q; rw [upd_same] at e; cases e; exact x1.sub _ _ hF
              · rw [upd_ne q] at e; exact x1.sub _ _ (x1.le _ _ (le0 _ _ e))) x1.keep x1.dom x1.tab (fun a z => by
                by_cases q : a = dd
                · subst q; exact .inr hd
                · rw [upd_ne q] at z; exact .inl z) fun a ps z => by
                by_cases q : a = dd
                · subst q; rw [upd_same] at z; cases z
                · rw [upd_ne q] at z; exact ok.nt a ps z
            exact h C v dd H' { s with F := upd s.F dd (.xd [(f, v)]) } hc rfl o2 t2 (flat_rp hf rv) hd upd_same
          · exact h.elim
      · exact h.elim
  · exact h.elim
end
section
variable {X : Cx} {Wx : WX} {k : Nat} {f : Addr} {fd : FuncData} {ps : List Str} {x : Str} {p pos : Pos} {e : Expr} {es : List Expr} {ms : Ax} {P : List D → Pr} {G : FnW} {n : Nat}
theorem fe_pure (F : FnOk X.prog X.w X.K X.mg X.base (L2.CX X.prog X.w) k f fd ps (spP X.K X.mg n P)) (hr : Room k X.A) (hm : X.mg x = some (.ref f)) (hk : PySem.W.keepIn X.K (.ref f) = true) (hb : Binds X.K fd ps []) (tk : Takes X Wx)
    (ha : FA X Wx (e :: es) ms) (hg : Gl X x := by rfl) (hdb : (x == ("__debug__" : Str)) = false := by decide) (he : starEach (e :: es) X.env = (false, eval e X.env) :: starEach es X.env := by rfl) (hpl : (backTo pos (starEach es X.env)).any (·.1) = false := by rfl) :
    FE X Wx (.Call (.Name x p) (e :: es) [] pos) (mPure P n ms) :=
  PE.imp (pe_callS (E := WE Wx) F hr hg hm hk hb (passAt tk) ha hdb he hpl) fun σ H Q ⟨ρ, s, ok, en, h⟩ => (tg_bind (rel := RelWs X.K) ok en h).mono fun vs H1 ⟨ws, s1, o1, t1, r1, e1, p1⟩ => callP_post p1 o1 r1
theorem fe_raw (F : FnOk X.prog X.w X.K X.mg X.base (L2.CX X.prog X.w) k f fd ps (spW X.K X.mg n G)) (hr : Room k X.A) (hm : X.mg x = some (.ref f)) (hk : PySem.W.keepIn X.K (.ref f) = true) (hb : Binds X.K fd ps []) (tk : Takes X Wx)
    (ha : FA X Wx (e :: es) ms) (hg : Gl X x := by rfl) (hdb : (x == ("__debug__" : Str)) = false := by decide) (he : starEach (e :: es) X.env = (false, eval e X.env) :: starEach es X.env := by rfl) (hpl : (backTo pos (starEach es X.env)).any (·.1) = false := by rfl) :
    FE X Wx (.Call (.Name x p) (e :: es) [] pos) (mRaw G n ms) :=
  PE.imp (pe_callS (E := WE Wx) F hr hg hm hk hb (passAt tk) ha hdb he hpl) fun σ H Q ⟨ρ, s, ok, en, h⟩ => (tg_bind (rel := RelWs X.K) ok en h).mono fun vs H1 ⟨ws, s1, o1, t1, r1, e1, p1⟩ => by
    split at p1
    · rename_i hl
      refine ⟨ws, s1, o1, r1, by rw [← r1.length, hl], ?_⟩
      revert p1
      cases G ws s1.st with
      | ok w st' => exact fun p1 => p1
      | ex c f w st' => exact fun p1 => p1
      | bad => exact fun p1 => p1
    · exact p1.elim
end
end IL

set_option maxHeartbeats 4000007
namespace IL
open PySem PySem.Spec
open PyProof.Rows L2

/-! ### a dict locked -/
structure RpLe (K : PySem.W.Frag) (F G : Hp) : Prop where
  sq : ∀ t a vs, F a = some (seqO t vs) → G a = some (seqO t vs)
  dk : ∀ a ps, Rd F a (.dK ps) → Rd G a (.dK ps)
  dt : ∀ a ps, F a = some (.dT ps) → G a = some (.dT ps)
  scr : ∀ a vs, SqL K F a vs → SqL K G a vs
section
variable {K : PySem.W.Frag} {F G : Hp}
mutual
theorem Rp.le (e : RpLe K F G) : ∀ (x : D) (v : V), Rp K F x v → Rp K G x v
  | .non, _, h => by simpa [Rp] using h
  | .bl _, _, h => by simpa [Rp] using h
  | .int _, _, h => by simpa [Rp] using h
  | .str _, _, h => by simpa [Rp] using h
  | .seq t xs, v, h => by
    simp only [Rp] at h ⊢
    obtain ⟨a, vs, e1, h1, h2⟩ := h
    exact ⟨a, vs, e1, e.sq _ _ _ h1, Rps.le e xs vs h2⟩
  | .dct xs, v, h => by
    simp only [Rp] at h ⊢
    obtain ⟨a, vs, e1, h1, h2⟩ := h
    exact ⟨a, vs, e1, e.dk _ _ h1, RpK.le e xs vs h2⟩
  | .dcT xs, v, h => by
    simp only [Rp] at h ⊢
    obtain ⟨a, vs, e1, h1, h2⟩ := h
    exact ⟨a, vs, e1, e.dt _ _ h1, RpT.le e xs vs h2⟩
  | .scr ns, v, h => by
    simp only [Rp] at h ⊢
    obtain ⟨a, e1, h1⟩ := h
    exact ⟨a, e1, e.scr _ _ h1⟩
theorem Rps.le (e : RpLe K F G) : ∀ (x : List D) (v : List V), Rps K F x v → Rps K G x v
  | [], _, h => by simpa [Rps] using h
  | x :: xs, v, h => by
    simp only [Rps] at h ⊢
    obtain ⟨v, r, e1, h1, h2⟩ := h
    exact ⟨v, r, e1, Rp.le e x v h1, Rps.le e xs r h2⟩
theorem RpK.le (e : RpLe K F G) : ∀ (x : List (Key × D)) (v : List (Key × V)), RpK K F x v → RpK K G x v
  | [], _, h => by simpa [RpK] using h
  | (k, x) :: xs, v, h => by
    simp only [RpK] at h ⊢
    obtain ⟨v, r, e1, h1, h2⟩ := h
    exact ⟨v, r, e1, Rp.le e x v h1, RpK.le e xs r h2⟩
theorem RpT.le (e : RpLe K F G) : ∀ (x : List (List Key × D)) (v : List (List Key × V)), RpT K F x v → RpT K G x v
  | [], _, h => by simpa [RpT] using h
  | (k, x) :: xs, v, h => by
    simp only [RpT] at h ⊢
    obtain ⟨v, r, e1, h1, h2⟩ := h
    exact ⟨v, r, e1, Rp.le e x v h1, RpT.le e xs r h2⟩
end
theorem RelW.le {s s' : Wd} (e : RpLe K s.F s'.F) (hp : s'.φ = s.φ) (hs : s'.st = s.st) : ∀ {w : W} {v : V}, RelW K s w v → RelW K s' w v
  | .d _, _, h => Rp.le e _ _ h
  | .loc n, _, h => ⟨by rw [hs]; exact h.1, by rw [hp]; exact h.2⟩
  | .v _, _, h => h
theorem RelWs.le {s s' : Wd} (e : RpLe K s.F s'.F) (hp : s'.φ = s.φ) (hs : s'.st = s.st) {ws : List W} {vs : List V} (h : RelWs K s ws vs) : RelWs K s' ws vs := Paired.imp (fun _ _ q => RelW.le e hp hs q) h
theorem RelKs.le {κ : Type} {s s' : Wd} (e : RpLe K s.F s'.F) (hp : s'.φ = s.φ) (hs : s'.st = s.st) {ws : List (κ × W)} {vs : List (κ × V)} (h : RelKs K s ws vs) : RelKs K s' ws vs := Paired.imp (fun _ _ q => ⟨q.1, RelW.le e hp hs q.2⟩) h
/-- what stands at a is a dict, then the same one locked, or the other way round -/
theorem rple_lock {a : Addr} {ps : List (Key × V)} {o : HO} (h : F a = some (.dK ps) ∨ ∃ u, F a = some (.frz u (.dK ps))) (ho : o = .dK ps ∨ ∃ u, o = .frz u (.dK ps)) : RpLe K F (upd F a o) where
  sq := fun t b vs e => by
    by_cases q : b = a
    · subst q
      rcases h with h | ⟨u, h⟩ <;> (rw [h] at e; cases t <;> cases e)
    · rw [upd_ne q]; exact e
  dk := fun b ps' e => by
    by_cases q : b = a
    · subst q
      have : ps' = ps := by
        rcases h with h | ⟨u, h⟩ <;> rcases e with e | ⟨u', e⟩ <;> (rw [h] at e; cases e) <;> rfl
      subst this
      rcases ho with rfl | ⟨u, rfl⟩
      · exact .inl upd_same
      · exact .inr ⟨u, upd_same⟩
    · exact e.elim (fun z => .inl (by rw [upd_ne q]; exact z)) fun ⟨u, z⟩ => .inr ⟨u, by rw [upd_ne q]; exact z⟩
  dt := fun b ps' e => by
    by_cases q : b = a
    · subst q
      rcases h with h | ⟨u, h⟩ <;> (rw [h] at e; cases e)
    · rw [upd_ne q]; exact e
  scr := fun b vs e => by
    by_cases q : b = a
    · subst q
      rcases e with (e | ⟨u', e⟩) | e
      · rcases h with h | ⟨u, h⟩ <;> (rw [h] at e; cases e)
      · rcases h with h | ⟨u, h⟩ <;> (rw [h] at e; cases e)
      · exact .inr e
    · rcases e with (e | ⟨u', e⟩) | e
      · exact .inl (.inl (by rw [upd_ne q]; exact e))
      · exact .inl (.inr ⟨u', by rw [upd_ne q]; exact e⟩)
      · exact .inr e
end
section
variable {K : PySem.W.Frag} {s : Wd} {H : Hp} {a : Addr} {ps : List (Key × V)} {o o' : HO}
theorem dk_nt' {ps : List (Key × V)} {o : HO} (ho : o = .dK ps ∨ ∃ u, o = .frz u (.dK ps)) : (∀ qs, o ≠ .tbl qs) ∧ ∀ φ, o ≠ .ext φ := by
  rcases ho with rfl | ⟨u, rfl⟩
  · exact ⟨fun _ e => (by cases e), fun _ e => (by cases e)⟩
  · exact ⟨fun _ e => (by cases e), fun _ e => (by cases e)⟩
/-- the world with the dict at a in another form -/
theorem ok_relock (ok : OkW K s H) (h : s.F a = some o) (ho : o = .dK ps ∨ ∃ u, o = .frz u (.dK ps)) (ho' : o' = .dK ps ∨ ∃ u, o' = .frz u (.dK ps)) : OkW K { s with F := upd s.F a o' } (upd H a o') ∧ RpLe K s.F (upd s.F a o') := by
  have le : RpLe K s.F (upd s.F a o') := rple_lock (by
    rcases ho with rfl | ⟨u, rfl⟩
    · exact .inl h
    · exact .inr ⟨u, h⟩) ho'
  have ne : ∀ n so, s.st[n]? = some so → so.mut = true → s.φ n ≠ a := fun n so hn hm e => by
    obtain ⟨_, _, q⟩ := ok.at_ hn hm
    rw [e, h] at q; cases q
  refine ⟨⟨fun b u e => ?_, fun n so hn => ?_, ok.inj, fun b qs e => ?_⟩, le⟩
  rotate_left 2
  · have e : upd s.F a o' b = some (.tbl qs) := e
    by_cases q : b = a
    · subst q; rw [upd_same] at e; exact (dk_nt' ho').1 _ (Option.some.inj e)
    · rw [upd_ne q] at e; exact ok.nt b qs e
  · have e : upd s.F a o' b = some u := e
    by_cases q : b = a
    · subst q; rw [upd_same] at e ⊢; exact e
    · rw [upd_ne q] at e ⊢; exact ok.sub b u e
  · have r := ok.obj n so hn
    cases so with
    | frz x => exact Rp.le le _ _ r
    | tabs T => exact tabs_put (ok.sub _ _ h) (dk_nt' ho).1 (dk_nt' ho).2 r
    | lst ws => obtain ⟨vs, q1, q2, q3⟩ := r; exact ⟨vs, by show upd H a o' (s.φ n) = _; rw [upd_ne (ne n _ hn rfl)]; exact q1, by show upd s.F a o' (s.φ n) = _; rw [upd_ne (ne n _ hn rfl)]; exact q2, q3.le (s' := { s with F := upd s.F a o' }) le rfl rfl⟩
    | tup ws => obtain ⟨vs, q1, q2, q3⟩ := r; exact ⟨vs, by show upd H a o' (s.φ n) = _; rw [upd_ne (ne n _ hn rfl)]; exact q1, by show upd s.F a o' (s.φ n) = _; rw [upd_ne (ne n _ hn rfl)]; exact q2, q3.le (s' := { s with F := upd s.F a o' }) le rfl rfl⟩
    | dK ws => obtain ⟨vs, q1, q2, q3⟩ := r; exact ⟨vs, by show upd H a o' (s.φ n) = _; rw [upd_ne (ne n _ hn rfl)]; exact q1, by show upd s.F a o' (s.φ n) = _; rw [upd_ne (ne n _ hn rfl)]; exact q2, q3.le (s' := { s with F := upd s.F a o' }) le rfl rfl⟩
    | dT ws => obtain ⟨vs, q1, q2, q3⟩ := r; exact ⟨vs, by show upd H a o' (s.φ n) = _; rw [upd_ne (ne n _ hn rfl)]; exact q1, by show upd s.F a o' (s.φ n) = _; rw [upd_ne (ne n _ hn rfl)]; exact q2, q3.le (s' := { s with F := upd s.F a o' }) le rfl rfl⟩
theorem dk_nt {ps : List (Key × V)} {o : HO} (ho : o = .dK ps ∨ ∃ u, o = .frz u (.dK ps)) : (∀ qs, o ≠ .tbl qs) ∧ ∀ φ, o ≠ .ext φ := by
  rcases ho with rfl | ⟨u, rfl⟩
  · exact ⟨fun _ e => (by cases e), fun _ e => (by cases e)⟩
  · exact ⟨fun _ e => (by cases e), fun _ e => (by cases e)⟩
/-- a stretch of the run under the lock, told without it -/
theorem tr_relock {s2 : Wd} {H2 : Hp} (ok : OkW K s H) (h : s.F a = some o) (ho : o = .dK ps ∨ ∃ u, o = .frz u (.dK ps)) (ho' : o' = .dK ps ∨ ∃ u, o' = .frz u (.dK ps)) (t : Tr { s with F := upd s.F a o' } (upd H a o') s2 H2) (ok2 : OkW K s2 H2) :
    H2 a = some o' ∧ OkW K { s2 with F := upd s2.F a o } (upd H2 a o) ∧ Tr s H { s2 with F := upd s2.F a o } (upd H2 a o) ∧ RpLe K s2.F (upd s2.F a o) := by
  have hF2 : s2.F a = some o' := t.F a o' upd_same
  have hH2 : H2 a = some o' := ok2.sub a o' hF2
  obtain ⟨ok3, le3⟩ := ok_relock ok2 hF2 ho' ho
  have hH : H a = some o := ok.sub a o h
  refine ⟨hH2, ok3, ⟨t.len, t.phi, fun b u e => ?_, t.frz, fun n h1 h2 => ?_, fun b u e nt k => ?_, fun b e => ?_, fun b e => ?_, t.ex, fun T k hT => ?_, t.tb0⟩, le3⟩
  · by_cases q : b = a
    · subst q; rw [h] at e; cases e; exact upd_same
    · show upd s2.F a o b = _
      rw [upd_ne q]; exact t.F b u (by show upd s.F a o' b = _; rw [upd_ne q]; exact e)
  · have z := t.new n h1 h2
    have ne : s2.φ n ≠ a := fun q => by rw [q] at z; exact z.not upd_same (dk_nt ho').1
    exact fun u y => z u (by rw [upd_ne ne]; exact y)
  · by_cases q : b = a
    · subst q; rw [hH] at e; cases e; exact upd_same
    · rw [upd_ne q]; exact t.keep b u (by rw [upd_ne q]; exact e) nt k
  · by_cases q : b = a
    · subst q; exact (e.not upd_same (dk_nt ho).1).elim
    · exact fun u y => t.dom b (fun u y => e u (by rw [upd_ne q]; exact y)) u (by rw [upd_ne q]; exact y)
  · have e : upd s2.F a o b ≠ none := e
    by_cases q : b = a
    · subst q; exact .inl (by rw [h]; simp)
    · rw [upd_ne q] at e
      rcases t.fnew b e with z | z | z
      · have z : upd s.F a o' b ≠ none := z
        rw [upd_ne q] at z; exact .inl z
      · exact .inr (.inl fun u y => z u (by rw [upd_ne q]; exact y))
      · exact .inr (.inr z)
  · exact tabs_put hH2 (dk_nt ho').1 (dk_nt ho').2 (t.tab T k (tabs_put hH (dk_nt ho).1 (dk_nt ho).2 hT))
end

/-! ### dicts -/
def kD : Key → D
  | .inl i => .int i
  | .inr x => .str x
theorem kD_ok {K : PySem.W.Frag} {F : Hp} : ∀ k : Key, Rp K F (kD k) (kV k)
  | .inl i => by simp [kD, kV, Rp]
  | .inr i => by simp [kD, kV, Rp]
section
variable {K : PySem.W.Frag} {s : Wd} {a : Addr}
theorem rpK_len {F : Hp} : ∀ {kvs : List (Key × D)} {ps : List (Key × V)}, RpK K F kvs ps → kvs.length = ps.length
  | [], ps, h => by simp only [RpK] at h; subst h; rfl
  | (k, x) :: r, ps, h => by
    simp only [RpK] at h
    obtain ⟨v, q, rfl, _, h2⟩ := h
    simp [rpK_len h2]
theorem rpK_some {F : Hp} : ∀ {kvs : List (Key × D)} {ps : List (Key × V)} {i : Nat} {p : Key × D}, RpK K F kvs ps → kvs[i]? = some p → ∃ v, ps[i]? = some (p.1, v) ∧ Rp K F p.2 v
  | [], ps, i, p, h, e => by simp at e
  | (k, x) :: r, ps, 0, p, h, e => by
    simp only [RpK] at h
    obtain ⟨v, q, rfl, h1, h2⟩ := h
    simp at e
    subst e
    exact ⟨v, rfl, h1⟩
  | (k, x) :: r, ps, i + 1, p, h, e => by
    simp only [RpK] at h
    obtain ⟨v, q, rfl, h1, h2⟩ := h
    simp at e
    simpa using rpK_some h2 e
theorem relI_keys {od : Obj} {ps : List (Key × V)} {kvs : List (Key × D)} (e : s.F a = some (.frz od (.dK ps))) (r : RpK K s.F kvs ps) : RelI K s (.st (kvs.map fun p => one (kD p.1))) (Itk a od ps) := by
  refine relI_dat (n := ps.length) (by rw [List.length_map, rpK_len r]) fun s' H lw ok i => ?_
  have q : H a = some (.frz od (.dK ps)) := ok.sub _ _ (lw.F _ _ e)
  refine ⟨fun x hx => ?_, fun hi => ⟨q, hi⟩⟩
  rw [List.getElem?_map] at hx
  obtain ⟨d, e1, rfl⟩ := Option.map_eq_some_iff.mp hx
  obtain ⟨v, e2, r2⟩ := rpK_some r e1
  refine ⟨⟨q, (List.getElem?_eq_some_iff.mp e2).1⟩, fun u H' y => ?_⟩
  obtain ⟨rfl, k, v', e3, rfl⟩ := y
  rw [e2] at e3
  cases e3
  exact ⟨ok, .refl _ _, kD_ok _⟩
end
/-- [.. for k in d], d the name of a dict -/
def mLcK (fz : Bool) (i : Nat) (t : Tgt) (vs : List Nat) (tt : Tx) (el : Ex) : Ex := fun ρ st => match ρ[i]? with
  | some (some (.d (.dct kvs))) => noEx ((lcL t tt el (wipeE ρ vs) (kvs.map fun p => one (kD p.1)) st).bind fun ws st2 => if ws.length ≤ sizeLine then R.of (mkS fz false ws st2) else .bad)
  | _ => .bad
section
variable {X : Cx} {Wx : WX} {t : Tgt} {tt : Tx} {el : Ex}
theorem post_swap {α β : Type} {rel : Rel α β} {K : PySem.W.Frag} {mg : Str → Option Value} {Wx Wy : WX} {σ : L2.St} {s : Wd} {H : Hp} {r : R α} {Q : β → Hp → Prop} (h : PostG rel K mg Wx σ s H (noEx r) Q) : PostG rel K mg Wy σ s H (noEx r) Q := by
  cases r with
  | ok w st' => exact h
  | ex c f w st' => exact h
  | bad => exact h
theorem fe_lcK (fz : Bool) {i : Nat} {x : Str} {py : Pos} {elt tg : Expr} {ifs : List Expr} {scope : Scope} {own : List (Str × Nat)} {pos : Pos} (hc : X.calm = true) (hN : X.N.Nodup) (hi : X.N[i]? = some x) (hv : Vis X.env.scope x) (ok : BlkOk X.N X.env.scope scope own)
    (hg : ∀ (s : Shared) (H : Hp) (C : Addr) (cl : List (Str × Addr)) (fp : List Addr), FG (X.blk s H scope (compEnvC scope cl C X.env) fp) tg t)
    (ht : ∀ (s : Shared) (H : Hp) (C : Addr) (cl : List (Str × Addr)) (fp : List Addr), PTs (X.blk s H scope (compEnvC scope cl C X.env) fp) ifs (tG RelB X.K X.mg W0 tt))
    (he : ∀ (s : Shared) (H : Hp) (C : Addr) (cl : List (Str × Addr)) (fp : List Addr), FE (X.blk s H scope (compEnvC scope cl C X.env) fp) W0 elt el) (hsl : ∀ i ∈ t.slots, i ∈ own.map (·.2) := by decide)
    (hd : (x == ("__debug__" : Str)) = false := by decide) (hcd : (x == ("__classdict__" : Str)) = false := by decide) (hs : ∀ y, foldedSetIterable (.Name x py) X.env y = pure y := by intro _; rfl) :
    FE X Wx (.ListComp elt [⟨tg, .Name x py, ifs, 0⟩] scope pos) (mLcK fz i t (own.map (·.2)) tt el) := by
  have base := pe_lc (g := gOf X.K t) (tt := tG RelB X.K X.mg W0 tt) (te := tG (RelW X.K) X.K X.mg W0 el) (pos := pos) hc hN (pi_keys (tg := tg) (pe_var (pos := py) hi hv hd hcd)) ok hg ht he hs
  refine ⟨fun pins s σ H Q I h => ?_⟩
  obtain ⟨ρ, s1, o1, en, h⟩ := h
  unfold mLcK at h
  split at h
  · rename_i kvs ev
    obtain ⟨v, e1, r1⟩ := en.get i _ ev
    have r1 : Rp X.K s1.F (.dct kvs) v := r1
    simp only [Rp] at r1
    obtain ⟨a, ps, rfl, rd, rk⟩ := r1
    rcases rd with rd | ⟨u, rd⟩
    · refine (pe_lock base).run pins s σ H Q I ⟨a, .dK ps, o1.sub _ _ rd, trivial, fun od => ?_⟩
      obtain ⟨o2, le⟩ := ok_relock (o' := .frz od (.dK ps)) o1 rd (.inl rfl) (.inr ⟨od, rfl⟩)
      refine ⟨.ref a, e1, a, od, rfl, .inl ⟨ps, upd_same, ?_⟩⟩
      show LcW X.K (gOf X.K t) (tG RelB X.K X.mg W0 tt) (tG (RelW X.K) X.K X.mg W0 el) (own.map (·.2)) σ (fun v H' => H' a = some (.frz od (.dK ps)) ∧ Q v (upd H' a (.dK ps))) (Itk a od ps) (upd H a (.frz od (.dK ps)))
      refine lc_step (fz := fz) (s1 := { s1 with F := upd s1.F a (.frz od (.dK ps)) }) (ρ := ρ) (Wx := W0) hsl o2 ⟨en.len, fun j w hj => let ⟨v, h1, h2⟩ := en.get j w hj; ⟨v, h1, RelW.le (s := s1) (s' := { s1 with F := upd s1.F a (.frz od (.dK ps)) }) le rfl rfl h2⟩⟩ (relI_keys (kvs := kvs) upd_same (RpK.le le _ _ rk)) ?_
      show PostG _ _ _ _ _ _ _ ((lcL t tt el (wipeE ρ (own.map (·.2))) (kvs.map fun p => one (kD p.1)) s1.st).bind _) _
      revert h
      generalize ((lcL t tt el (wipeE ρ (own.map (·.2))) (kvs.map fun p => one (kD p.1)) s1.st).bind fun ws st2 => if ws.length ≤ sizeLine then R.of (mkS fz false ws st2) else .bad) = r
      intro h
      cases r with
      | bad => exact h.elim
      | ex c f w st' => exact h.elim
      | ok w st' =>
        intro v H' s' es o t2 rv
        obtain ⟨z1, z2, z3, z4⟩ := tr_relock (o := .dK ps) (o' := .frz od (.dK ps)) o1 rd (.inl rfl) (.inr ⟨od, rfl⟩) t2 o
        exact ⟨z1, h v _ { s' with F := upd s'.F a (.dK ps) } es z2 z3 (RelW.le (s := s') (s' := { s' with F := upd s'.F a (.dK ps) }) z4 rfl rfl rv)⟩
    · refine base.run pins s σ H Q I ⟨.ref a, e1, a, u, rfl, .inl ⟨ps, o1.sub _ _ rd, ?_⟩⟩
      exact lc_step (s1 := s1) (ρ := ρ) (Wx := W0) hsl o1 en (relI_keys (kvs := kvs) rd rk) (post_noEx h)
  · exact h.elim
end
end IL

set_option maxHeartbeats 4000007
namespace IL
open PySem PySem.Spec
open PyProof.Rows L2

/-! ### dicts: put, make -/
section
variable {κ : Type} [DecidableEq κ]
def putG {α : Type} (kvs : List (κ × α)) (k : κ) (v : α) : List (κ × α) :=
  if (kvs.any fun kv => decide (kv.1 = k)) = true then kvs.map (fun kv => if kv.1 = k then (kv.1, v) else kv) else kvs ++ [(k, v)]
theorem relKs_any {K : PySem.W.Frag} {s : Wd} {ws : List (κ × W)} {vs : List (κ × V)} {k : κ} (r : RelKs K s ws vs) : (ws.any fun kv => decide (kv.1 = k)) = vs.any fun kv => decide (kv.1 = k) := by
  induction r with
  | nil => rfl
  | cons r1 r2 ih => rw [List.any_cons, List.any_cons, ih, r1.1]
theorem relKs_append {K : PySem.W.Frag} {s : Wd} {ws us : List (κ × W)} {vs xs : List (κ × V)} (r : RelKs K s ws vs) (q : RelKs K s us xs) : RelKs K s (ws ++ us) (vs ++ xs) := by
  induction r with
  | nil => exact q
  | cons r1 r2 ih => exact .cons r1 ih
theorem relKs_put {K : PySem.W.Frag} {s : Wd} {ws : List (κ × W)} {vs : List (κ × V)} {k : κ} {w : W} {v : V} (r : RelKs K s ws vs) (q : RelW K s w v) : RelKs K s (putG ws k w) (putK vs k v) := by
  unfold putG putK
  rw [relKs_any r]
  split
  · induction r with
    | nil => exact .nil
    | cons r1 r2 ih =>
      rename_i a b _ _ hh
      clear hh ih
      have go : ∀ {ws : List (κ × W)} {vs : List (κ × V)}, RelKs K s ws vs → RelKs K s (ws.map fun kv => if kv.1 = k then (kv.1, w) else kv) (vs.map fun kv => if kv.1 = k then (kv.1, v) else kv) := by
        intro ws vs r
        induction r with
        | nil => exact .nil
        | cons r1 r2 ih =>
          rename_i a b _ _
          refine .cons ?_ ih
          have e1 := r1.1
          by_cases hk : a.1 = k
          · have hk' : b.1 = k := e1 ▸ hk
            simp only [hk, hk', if_true]
            exact ⟨trivial, q⟩
          · have hk' : ¬ b.1 = k := e1 ▸ hk
            simp only [hk, hk', if_false]
            exact r1
      exact go (.cons r1 r2)
  · exact relKs_append r (.cons ⟨rfl, q⟩ .nil)
end
def mergeG (kvs more : List (Key × W)) : List (Key × W) := more.foldl (fun acc kv => putG acc kv.1 kv.2) kvs
theorem relKs_merge {K : PySem.W.Frag} {s : Wd} : ∀ {more : List (Key × W)} {mv : List (Key × V)} {kvs : List (Key × W)} {vs : List (Key × V)}, RelKs K s more mv → RelKs K s kvs vs → RelKs K s (mergeG kvs more) (mergeK vs mv)
  | [], _, _, _, .nil, r => r
  | (k, w) :: more, (k', v) :: mv, kvs, vs, .cons r1 r2, r => by
    have e : k = k' := r1.1
    subst e
    exact relKs_merge (kvs := putG kvs k w) (vs := putK vs k v) r2 (relKs_put r r1.2)
def allDK {κ : Type} : List (κ × W) → Option (List (κ × D))
  | [] => some []
  | (k, .d x) :: r => (allDK r).map ((k, x) :: ·)
  | _ :: _ => none
theorem allDK_rel {K : PySem.W.Frag} {s : Wd} : ∀ {ws : List (Key × W)} {xs : List (Key × D)} {vs : List (Key × V)}, allDK ws = some xs → RelKs K s ws vs → RpK K s.F xs vs
  | [], xs, vs, h, r => by cases h; cases r; simp [RpK]
  | (k, .d x) :: r, xs, vs, h, q => by
    cases q with
    | cons h1 h2 =>
      rename_i b _
      obtain ⟨b1, b2⟩ := b
      cases e : allDK r with
      | none => rw [allDK, e] at h; cases h
      | some ys =>
        rw [allDK, e] at h; cases h
        simp only [RpK]
        have e1 : k = b1 := h1.1
        exact ⟨b2, _, by rw [e1], h1.2, allDK_rel e h2⟩
  | (_, .loc _) :: _, _, _, h, _ => by cases h
  | (_, .v _) :: _, _, _, h, _ => by cases h
def mkDK (fz : Bool) (kvs : List (Key × W)) (st : Store) : O := match (if fz = true then allDK kvs else none) with
  | some xs => some (.d (.dct xs), st)
  | none => some (.loc st.length, st ++ [.dK kvs])
theorem postO_dk {K : PySem.W.Frag} {s : Wd} {H : Hp} {p : Addr} {Q : V → Hp → Prop} {fz : Bool} {kvs : List (Key × W)} {ps : List (Key × V)} (h : PostO K s H (mkDK fz kvs s.st) Q) (ok : OkW K s H) (r : RelKs K s kvs ps) (hp : H p = none) :
    Q (.ref p) (upd H p (.dK ps)) := by
  have loc : PostO K s H (some (.loc s.st.length, s.st ++ [.dK kvs])) Q → Q (.ref p) (upd H p (.dK ps)) := fun h => by
    have tr : Tr s H (ext s p (.dK kvs)) (upd H p (.dK ps)) := tr_ext ok hp
    refine h (.ref p) _ (ext s p (.dK kvs)) rfl (ok_ext ok hp rfl ?_) tr ⟨by simp [ext], by rw [ext_new]⟩
    exact ⟨ps, by rw [ext_new]; exact upd_same, by rw [ext_new]; exact ok.free hp, r.tr tr⟩
  unfold mkDK at h
  cases fz with
  | false => exact loc h
  | true =>
    cases e : allDK kvs with
    | none => simp only [e, if_true] at h; exact loc h
    | some xs =>
      simp only [e, if_true] at h
      have tr : Tr s H (frzAt s p (.dK ps)) (upd H p (.dK ps)) := tr_frz _ ok hp
      refine h (.ref p) _ (frzAt s p (.dK ps)) rfl (ok_frz _ ok hp) tr ?_
      show Rp K _ (.dct xs) _
      simp only [Rp]
      exact ⟨p, ps, rfl, .inl upd_same, RpK.mono tr.F xs ps (allDK_rel e r)⟩
def mDict0 (fz : Bool) : Ex := fun _ st => R.of (mkDK fz [] st)
theorem fe_dict0 {X : Cx} {Wx : WX} {pos : Pos} (fz : Bool) : FE X Wx (.Dict [] [] pos) (mDict0 fz) :=
  PE.imp pe_dnewK fun σ H Q ⟨ρ, s, ok, en, h⟩ p hp => postO_dk (ps := []) (postO_of h) ok .nil hp

/-! ### o[i] = v -/
def oSet (o i v : W) (st : Store) : Option Store := match o with
  | .loc n => match st[n]? with
    | some (.lst ws) => match vw st i with
      | .int k => (ixN ws.length k).map fun j => st.set n (.lst (ws.set j v))
      | _ => none
    | some (.dK kvs) => match keyOf (vw st i) with
      | some k => if kvs.length < sizeLine then some (st.set n (.dK (putG kvs k v))) else none
      | none => none
    | _ => none
  | _ => none
def SetPost (K : PySem.W.Frag) (s : Wd) (H : Hp) (Q : Hp → Prop) : Option Store → Prop
  | some st' => ∀ H' s', s'.st = st' → OkW K s' H' → Tr s H s' H' → Q H'
  | none => False
def tSetW (K : PySem.W.Frag) (f : W → W → W → Store → Option Store) : TSet := fun o i v H Q => ∃ s a b c, OkW K s H ∧ RelW K s a o ∧ RelW K s b i ∧ RelW K s c v ∧ SetPost K s H Q (f a b c s.st)
theorem relWs_set {K : PySem.W.Frag} {s : Wd} {w : W} {v : V} (q : RelW K s w v) : ∀ {ws : List W} {vs : List V} (_ : RelWs K s ws vs) (j : Nat), RelWs K s (ws.set j w) (vs.set j v)
  | _, _, .nil, j => .nil
  | _, _, .cons r t, 0 => .cons q t
  | _, _, .cons r t, j + 1 => .cons r (relWs_set q t j)
theorem set_W {X : Cx} (hu : X.A.units + 1 < cLine) : PSet X (tSetW X.K oSet) := by
  intro pins s σ H o i v ov iv u Q I ro ri rv h
  obtain ⟨w, a, b, c, ok, ra, rb, rc, h⟩ := h
  unfold oSet at h
  split at h
  · rename_i n
    have ra : n < w.st.length ∧ o = .ref (w.φ n) := ra
    obtain ⟨hn, rfl⟩ := ra
    split at h
    · rename_i ws hw
      obtain ⟨vs, h1, h2, h3⟩ := ok.obj n _ hw
      have pb := vw_ok ok rb
      split at h
      · rename_i k ek
        rw [ek] at pb
        cases ej : ixN ws.length k with
        | none => rw [ej] at h; exact h.elim
        | some j =>
          rw [ej] at h
          refine set_list pins s σ H _ _ _ ov iv u Q I ro ri rv ⟨_, vs, k, j, rfl, pb, h1, by rw [← h3.length]; exact ej, ?_⟩
          have tr : Tr w H (wrt w n (.lst (ws.set j c))) (upd H (w.φ n) (.lst (vs.set j v))) := tr_wrt ok hw rfl
          exact h _ (wrt w n (.lst (ws.set j c))) rfl (ok_wrt ok hw rfl rfl ⟨vs.set j v, upd_same, h2, (relWs_set rc h3 j).tr tr⟩) tr
      · exact h.elim
    · rename_i kvs hw
      obtain ⟨vs, h1, h2, h3⟩ := ok.obj n _ hw
      have pb := vw_ok ok rb
      split at h
      · rename_i k ek
        split at h
        · rename_i hl
          refine set_dict hu pins s σ H _ _ _ ov iv u Q I ro ri rv ⟨_, upd H (w.φ n) (.dK (putK vs k v)), rfl, .inl ⟨vs, k, h1, keyOf_ok pb ek, by rw [← Paired.length h3]; exact hl, rfl⟩, ?_⟩
          have tr : Tr w H (wrt w n (.dK (putG kvs k c))) (upd H (w.φ n) (.dK (putK vs k v))) := tr_wrt ok hw rfl
          exact h _ (wrt w n (.dK (putG kvs k c))) rfl (ok_wrt ok hw rfl rfl ⟨putK vs k v, upd_same, h2, RelKs.tr tr (relKs_put h3 rc)⟩) tr
        · exact h.elim
      · exact h.elim
    · exact h.elim
  · exact h.elim
def sSet (mo mi me : Ex) : Sx := fun ρ st => (me ρ st).bindS ρ fun v st1 => (mo ρ st1).bindS ρ fun o st2 => (mi ρ st2).bindS ρ fun i st3 => match oSet o i v st3 with
  | some st4 => .ok .nx ρ st4
  | none => .bad
section
variable {X : Cx} {Wx : WX} {pos tpos : Pos} {o i e : Expr} {mo mi me : Ex}
theorem fs_set (hu : X.A.units + 1 < cLine) (ho : FE X Wx o mo) (hi : FE X Wx i mi) (he : FE X Wx e me)
    (ha : ∀ v, assign (.Subscript o i tpos) X.env v = (do
      let ov ← holding [v] (eval o X.env)
      let iv ← holding [v, ov] (eval i X.env)
      standAt tpos
      holding [v, ov, iv] (setItem ov iv v)
      release [v, ov, iv] []) := by intro _; rfl)
    (hs : swapsWithSole [.Subscript o i tpos] e pos.line X.env = pure false := by rfl) (hw : swappedStores [.Subscript o i tpos] e X.env = pure none := by rfl)
    (h1 : (assignEach [.Subscript o i tpos] X.env).map (·.2) = [assign (.Subscript o i tpos) X.env] := by rfl) : FS X Wx (.Assign [.Subscript o i tpos] e pos) (sSet mo mi me) := by
  refine PS.imp (ps_asg he (pg_sub ho hi (set_W hu) ha) hs hw h1) fun D σ H ⟨ρ, s, ok, en, h⟩ => (tgS_bind (rel := RelW X.K) ok en h).mono fun v H1 ⟨w, s1, o1, t1, r1, e1, p1⟩ => ?_
  refine (tgS_bind (rel := RelW X.K) o1 e1 p1).mono fun a H2 ⟨wa, s2, o2, t2, r2, e2, p2⟩ => (tgS_bind (rel := RelW X.K) o2 e2 p2).mono fun b H3 ⟨wb, s3, o3, t3, r3, e3, p3⟩ => ?_
  refine ⟨s3, wa, wb, w, o3, r2.tr t3, r3, (r1.tr t2).tr t3, ?_⟩
  cases e4 : oSet wa wb w s3.st with
  | none => rw [e4] at p3; exact p3.elim
  | some st4 =>
    rw [e4] at p3
    exact fun H' s' es o' t' => p3 σ H' s' es o' t' (e3.tr t')
end

/-! ### a, b = x, y -/
def sPar2 (i j : Nat) (ms : Ax) : Sx := fun ρ st => (ms ρ st).bindS ρ fun ws st1 => match ws with
  | [a, b] => .ok .nx ((ρ.set i (some a)).set j (some b)) st1
  | _ => .bad
def sPar3 (i j l : Nat) (ms : Ax) : Sx := fun ρ st => (ms ρ st).bindS ρ fun ws st1 => match ws with
  | [a, b, c] => .ok .nx (((ρ.set i (some a)).set j (some b)).set l (some c)) st1
  | _ => .bad
section
variable {X : Cx} {Wx : WX} {pos : Pos} {ms : Ax}
theorem fs_par2 {i j : Nat} {x y : Str} {a b : Expr} {px py pt : Pos} {kt k2 pt2} (hc : X.calm = true) (hN : X.N.Nodup) (hi : X.N[i]? = some x) (hj : X.N[j]? = some y) (hij : i ≠ j)
    (hx : X.env.scope.names.lookup x = some .local) (hy : X.env.scope.names.lookup y = some .local) (ha : FA X Wx [a, b] ms)
    (hw : swappedStores [.Tuple [.Name x px, .Name y py] kt pt] (.Tuple [a, b] k2 pt2) X.env = pure (some [x, y]))
    (hs : swapsWithSole [.Tuple [.Name x px, .Name y py] kt pt] (.Tuple [a, b] k2 pt2) pos.line X.env = pure false := by rfl) :
    FS X Wx (.Assign [.Tuple [.Name x px, .Name y py] kt pt] (.Tuple [a, b] k2 pt2) pos) (sPar2 i j ms) :=
  PS.imp (ps_par hc hN hi hj hij hx hy ha hw hs) fun D σ H ⟨ρ, s, ok, en, h⟩ => (tgS_bind (rel := RelWs X.K) ok en h).mono fun vs H1 ⟨ws, s1, o1, t1, r1, e1, p1⟩ => by
    split at p1
    · cases r1 with
      | cons r1 rr =>
        cases rr with
        | cons r2 rr =>
          cases rr
          exact ⟨_, _, rfl, p1 _ H1 s1 rfl o1 (.refl _ _) ((e1.set i r1).set j r2)⟩
    · exact p1.elim
theorem fs_par3 {i j l : Nat} {x y z : Str} {a b c : Expr} {px py pz pt : Pos} {kt k2 pt2} (hc : X.calm = true) (hN : X.N.Nodup) (hi : X.N[i]? = some x) (hj : X.N[j]? = some y) (hl : X.N[l]? = some z) (hij : i ≠ j) (hil : i ≠ l) (hjl : j ≠ l)
    (hx : X.env.scope.names.lookup x = some .local) (hy : X.env.scope.names.lookup y = some .local) (hz : X.env.scope.names.lookup z = some .local) (ha : FA X Wx [a, b, c] ms)
    (hw : swappedStores [.Tuple [.Name x px, .Name y py, .Name z pz] kt pt] (.Tuple [a, b, c] k2 pt2) X.env = pure (some [x, y, z]))
    (hs : swapsWithSole [.Tuple [.Name x px, .Name y py, .Name z pz] kt pt] (.Tuple [a, b, c] k2 pt2) pos.line X.env = pure false := by rfl) :
    FS X Wx (.Assign [.Tuple [.Name x px, .Name y py, .Name z pz] kt pt] (.Tuple [a, b, c] k2 pt2) pos) (sPar3 i j l ms) :=
  PS.imp (ps_par3 hc hN hi hj hl hij hil hjl hx hy hz ha hw hs) fun D σ H ⟨ρ, s, ok, en, h⟩ => (tgS_bind (rel := RelWs X.K) ok en h).mono fun vs H1 ⟨ws, s1, o1, t1, r1, e1, p1⟩ => by
    split at p1
    · cases r1 with
      | cons r1 rr =>
        cases rr with
        | cons r2 rr =>
          cases rr with
          | cons r3 rr =>
            cases rr
            exact ⟨_, _, _, rfl, p1 _ H1 s1 rfl o1 (.refl _ _) (((e1.set i r1).set j r2).set l r3)⟩
    · exact p1.elim
end

/-! ### a[::-1] of a list -/
def oRev (fz : Bool) (a : W) (st : Store) : O := match vw st a with
  | .sq false ws => mkS fz false ws.reverse st
  | _ => none
theorem relWs_rev {K : PySem.W.Frag} {s : Wd} : ∀ {ws : List W} {vs : List V}, RelWs K s ws vs → RelWs K s ws.reverse vs.reverse
  | _, _, .nil => .nil
  | _, _, .cons r t => by rw [List.reverse_cons, List.reverse_cons]; exact relWs_append (relWs_rev t) (.cons r .nil)
theorem fe_rev {X : Cx} {Wx : WX} {e : Expr} {m : Ex} {k : Nat} {p1 p2 p3 pos : Pos} (fz : Bool) (he : FE X Wx e m) : FE X Wx (.Subscript e (.Slice none none (some (.UnaryOp .USub (.Constant (.int 1) k p1) p2)) p3) pos) (mUn (oRev fz) m) :=
  PE.imp (pe_revL he) fun σ H Q ⟨ρ, s, ok, en, h⟩ => (tg_bind (rel := RelW X.K) ok en h).mono fun v H1 ⟨w, s1, o1, t1, r1, e1, p1⟩ => by
    have pw := vw_ok o1 r1
    have p1 := postO_of p1
    unfold oRev at p1
    split at p1
    · rename_i ws ew
      rw [ew] at pw
      obtain ⟨q, vs, ev, h1, r⟩ := pw
      exact ⟨q, vs, ev, .inl (.inl h1), fun p hp => postO_seq (t := false) p1 o1 (relWs_rev r) hp⟩
    · exact p1.elim
end IL

set_option maxHeartbeats 4000007
namespace IL
open PySem PySem.Spec
open PyProof.Rows L2

/-! ### exceptions of one's own: made, raised -/
def spInit (K : PySem.W.Frag) (f : Str) : Sp := fun vs H Q _ => ∃ (a C : Addr) (v : V), vs = [.ref a, v] ∧ H a = some (exo a C none) ∧ OexC K C ∧ PySem.W.findIn K (.ref C) f = some none ∧
  ∀ dx, H dx = none → dx ≠ a → Q .non (upd (upd H dx (exd dx [(f, v)])) a (exo a C (some dx)))
section
variable {P : Program} {w : World} {K : PySem.W.Frag} {mg : Str → Option Value} {base : Heap}
/-- __init__(self, fld): self.fld = fld -/
theorem init_ok {qual n0 n1 f : Str} {st : Stmt} {fa : Addr} {fd : FuncData} {k0 : Nat} {p1 p2 p3 p4 : Pos} (F : Fun K "__init__" qual st fa fd) (S : FnScope [n0, n1] [n0, n1] (defScope st))
    (hb : defBody st = [.Assign [.Attribute (.Name n0 p1) f p2] (.Name n1 p3) p4]) (h0 : (defScope st).names.lookup n0 = some .local) (h1 : (defScope st).names.lookup n1 = some .local)
    (d0 : (n0 == ("__debug__" : Str)) = false := by decide) (d1 : (n1 == ("__debug__" : Str)) = false := by decide) (c0 : (n0 == ("__classdict__" : Str)) = false := by decide) (c1 : (n1 == ("__classdict__" : Str)) = false := by decide) :
    FnOk P w K mg base (L2.CX P w) (k0 + 1) fa fd [n0, n1] (spInit K f) := by
  refine F.okX S (fun vs H Q E ⟨a, C, v, e, _⟩ => by rw [e]; rfl) fun cdv A outer s H vs Q E hr ⟨a, C, v, e, hH, hC, hf, hq⟩ => ?_
  subst e
  rw [hb]
  refine ⟨_, pss_one (ps_ost (pe_var (i := 0) rfl (.inl h0) d0 c0) (pe_var (i := 1) rfl (.inl h1) d1 c1)), ?_⟩
  exact ⟨v, rfl, .ref a, rfl, a, C, rfl, hC, hf, .inl ⟨hH, fun dx hd hne => hq dx hd hne⟩⟩
/-- what is known of an exception class: its name, its field -/
def ExcC (P : Program) (w : World) (K : PySem.W.Frag) (mg : Str → Option Value) (base : Heap) (c f : Str) : Prop :=
  ∃ (C fI : Addr) (fd : FuncData) (ps : List Str), mg c = some (.ref C) ∧ OexC K C ∧ PySem.W.findIn K (.ref C) f = some none ∧ PySem.W.findIn K (.ref C) "__init__" = some (some (.ref fI)) ∧ PySem.W.typeIn K (.ref fI) = some (.type "function") ∧
    FnOk P w K mg base (L2.CX P w) 1 fI fd ps (spInit K f) ∧ L2.Binds K fd ps []
end
def sRaise (c f : Str) (ms : Ax) : Sx := fun ρ st => (ms ρ st).bindS ρ fun ws st1 => match ws with
  | [w] => .ex c f w ρ st1
  | _ => .bad
theorem heap_exc {H : Hp} {a dx C : Addr} {f : Str} {v : V} (ha : H a = none) (hne : dx ≠ a) : upd (L2.del (upd (upd (upd H a (exo a C none)) dx (exd dx [(f, v)])) a (exo a C (some dx))) a) dx (.xd [(f, v)]) = upd H dx (.xd [(f, v)]) := by
  funext b
  by_cases e : b = dx
  · subst e; rw [upd_same, upd_same]
  · rw [upd_ne e, upd_ne e]
    by_cases q : b = a
    · subst q; rw [L2.del_same, ha]
    · rw [L2.del_ne q, upd_ne q, upd_ne e, upd_ne q]
section
variable {X : Cx} {Wx : WX} {x c f : Str} {e : Expr} {es : List Expr} {ms : Ax} {p pos pos2 : Pos}
theorem fs_raise (hc : X.calm = true) (T : ExcC X.prog X.w X.K X.mg X.base c f) (hr : Room 2 X.A) (tk : Takes X Wx) (ha : FA X Wx (e :: es) ms) (hg : Gl X c := by rfl) (hdb : (c == ("__debug__" : Str)) = false := by decide)
    (he : starEach (e :: es) X.env = (false, eval e X.env) :: starEach es X.env := by rfl) (hpl : (backTo pos (starEach es X.env)).any (·.1) = false := by rfl) :
    FS X Wx (.Raise (some (.Call (.Name c p) (e :: es) [] pos)) none pos2) (sRaise c f ms) := by
  obtain ⟨C, fI, fd, ps, hm, hO, hf, iC, tI, F, hb⟩ := T
  refine PS.imp (ps_raise hc tk (pmk_oex hO iC tI F hr hb .nil passL hg hm ha hdb he hpl)) fun D σ H ⟨ρ, s, ok, en, h⟩ => ?_
  refine (tgS_bind (rel := RelWs X.K) ok en h).mono fun vs H1 ⟨ws, s1, o1, t1, r1, e1, p1⟩ => ?_
  split at p1
  · rename_i w
    obtain ⟨v, rfl, rw1⟩ := relWs1' r1
    refine ⟨by show 1 ≤ 1000; decide, fun a ha' => ⟨a, C, v, rfl, upd_same, hO, hf, fun dx hd hne => ?_⟩⟩
    have hd1 : H1 dx = none := by rw [upd_ne hne] at hd; exact hd
    refine ⟨rfl, dx, [(f, v)], upd_same, by rw [upd_ne hne]; exact upd_same, hd1, ?_⟩
    rw [heap_exc ha' hne]
    have le : HLe s1.F (upd s1.F dx (.xd [(f, v)])) := HLe.upd (o1.free hd1)
    obtain ⟨o2, t2⟩ := ext_world (F' := upd s1.F dx (.xd [(f, v)])) (H' := upd H1 dx (.xd [(f, v)])) o1 le (fun b o q => by
        by_cases z : b = dx
        · subst z; rw [upd_same] at q ⊢; exact q
        · rw [upd_ne z] at q ⊢; exact o1.sub _ _ q) (LamX.ExtN.of (HLe.upd hd1)) (fun b z => Fr.back hd1 z) (fun T hT => hT.ext (HLe.upd hd1)) (fun b z => by
        by_cases q : b = dx
        · subst q; exact .inr (Fr.of hd1)
        · rw [upd_ne q] at z; exact .inl z) fun b ps z => by
        by_cases q : b = dx
        · subst q; rw [upd_same] at z; cases z
        · rw [upd_ne q] at z; exact o1.nt b ps z
    exact p1 C v dx σ _ { s1 with F := upd s1.F dx (.xd [(f, v)]) } hm rfl o2 t2 (e1.tr t2) (rw1.tr t2) (Fr.of hd1) upd_same
  · exact p1.elim
end

/-! ### calls with keywords -/
def permL {α : Type} (l : List α) (pi : List Nat) : List α := pi.filterMap fun i => l[i]?
theorem perm_rel {α β : Type} {R : α → β → Prop} {as : List α} {bs : List β} (h : Paired R as bs) : ∀ pi : List Nat, Paired R (permL as pi) (permL bs pi)
  | [] => .nil
  | i :: pi => by
    have ih := perm_rel h pi
    unfold permL at ih ⊢
    simp only [List.filterMap_cons]
    cases e : as[i]? with
    | none =>
      have : bs[i]? = none := by
        rw [List.getElem?_eq_none_iff] at e ⊢
        have := Paired.length h
        omega
      rw [this]; exact ih
    | some a =>
      obtain ⟨b, e2, r⟩ := paired_some h e
      rw [e2]
      exact .cons r ih
theorem paired_app {α β : Type} {R : α → β → Prop} : ∀ {as : List α} {bs : List β} {cs : List α} {ds : List β}, Paired R as bs → Paired R cs ds → Paired R (as ++ cs) (bs ++ ds)
  | _, _, _, _, .nil, q => q
  | _, _, _, _, .cons r t, q => .cons r (paired_app t q)
/-- binding by keywords: n positional values, then the keywords' ones in the parameters' order -/
structure KwB (K : PySem.W.Frag) (fd : FuncData) (ps : List Str) (n : Nat) (ks : List Str) (pi : List Nat) : Prop where
  to : ∀ (s : Shared) (us ws : List Value), K.In s.heap → us.length = n → ws.length = ks.length → BindsTo s fd ⟨us, ks.zip ws⟩ (ps.zip (us ++ permL ws pi))
theorem kwb {K : PySem.W.Frag} {x qual : Str} {st : Stmt} {f : Addr} {fd : FuncData} {ps ks : List Str} {n : Nat} {pi : List Nat} (F : Fun K x qual st f fd)
    (h : ∀ (kV doc pm : Value) (an : Option Addr) (cdv ct : Value) (us ws : List Value), us.length = n → ws.length = ks.length → bindArgs (PySem.W.fnOf x qual (defArgs st) (defBody st) (defScope st) .none kV doc pm an cdv ct) ⟨us, ks.zip ws⟩ = pure (ps.zip (us ++ permL ws pi))) : KwB K fd ps n ks pi := by
  obtain ⟨oc, od, kV, doc, pm, an, cdv, ct, osl, rfl, lk, hcd⟩ := F.ex
  exact ⟨fun s us ws _ h1 h2 => BindsTo.of_eq (h kV doc pm an cdv ct us ws h1 h2)⟩
section
variable {X : Cx} {Wx : WX} {k n : Nat} {f : Addr} {fd : FuncData} {ps ks : List Str} {pi : List Nat} {x : Str} {p pos kpos : Pos} {e : Expr} {es : List Expr} {kws : List Keyword} {ms mk : Ax} {nm : Option Str} {sp : Sp} {t tk : TA}
def tCallKw (sp : Sp) (E : L2.St → XK) (n : Nat) (m : Nat) (pi : List Nat) (t tk : TA) : TE := fun σ H Q => t σ H fun vs H1 => tk σ H1 fun zs H2 => vs.length = n ∧ zs.length = m ∧ sp (vs ++ permL zs pi) H2 Q (E σ)
theorem run_kw {CX : CXT} {E : L2.St → XK} {pins : List (Addr × Obj)} {σ : L2.St} {H : Hp} {s : Shared} {Q : VK} {us ws : List Value} {vs zs : List V} (F : FnOk X.prog X.w X.K X.mg X.base CX k f fd ps sp) (hr : Room k X.A) (hb : KwB X.K fd ps n ks pi) (hx : PassesAt CX X σ (E σ))
    (I : Inv X pins σ H s) (r : Vals vs us) (rz : Vals zs ws) (h1 : vs.length = n) (h2 : zs.length = ks.length) (h : sp (vs ++ permL zs pi) H Q (E σ)) : wpAny (model X.prog X.w) X.A (call (.ref f) us (ks.zip ws)) (EP X pins σ Q) X.xe s := by
  have b := hb.to s us ws I.kIn (by rw [← r.length, h1]) (by rw [← rz.length, h2])
  have rr : Vals (vs ++ permL zs pi) (us ++ permL ws pi) := paired_app r (perm_rel rz pi)
  refine wpAny_call (codeAny_mono (F.run X.A X.stack s H ⟨us, ks.zip ws⟩ (us ++ permL ws pi) (vs ++ permL zs pi) Q (E σ) hr I.env0 b rr h) fun r s' hq => ?_)
  cases r with
  | error e => exact hx pins H s e s' I hq
  | ok fl =>
    cases fl with
    | ret u => exact I.after hq
    | next => exact False.elim hq
    | brk => exact False.elim hq
    | cont => exact False.elim hq
theorem pe_kw {CX : CXT} {E : L2.St → XK} (F : FnOk X.prog X.w X.K X.mg X.base CX k f fd ps sp) (hr : Room k X.A) (hg : Gl X x) (hm : X.mg x = some (.ref f)) (hk : PySem.W.keepIn X.K (.ref f) = true) (hb : KwB X.K fd ps n ks pi) (hx : ∀ σ, PassesAt CX X σ (E σ))
    (ha : PA X (e :: es) t) (hkw : PK X kws tk) (hall : (backToKw pos (keywordEach kws X.env)).all (·.1.isSome) = true) (hks : (backToKw pos (keywordEach kws X.env)).filterMap (·.1) = ks)
    (hdb : (x == ("__debug__" : Str)) = false) (he : starEach (e :: es) X.env = (false, eval e X.env) :: starEach es X.env)
    (hpl : ((backTo pos (starEach (e :: es) X.env)).any (·.1) || (backToKw pos (keywordEach kws X.env)).any (·.1.isNone)) = false) :
    PE X (.Call (.Name x p) (e :: es) kws pos) (tCallKw sp E n ks.length pi t tk) := by
  refine ⟨fun pins s σ H Q I h => wpAny_Call_Name_kw (ld_glob I hg hm ?_ hdb)⟩
  refine PySem.W.callWith_KW (h₀ := X.base) I.ok.mod.kin hk hall (thn (ha.run pos pins s σ H _ I h) fun us s1 ⟨vs, H1, I1, r, q⟩ => ?_) hpl he
  refine thn (hkw.run pos pins s1 σ H1 _ I1 q) fun ws s2 ⟨zs, H2, I2, rz, q1, q2, q3⟩ => ⟨I2.kIn, ?_⟩
  rw [hks]
  exact run_kw F hr hb (hx σ) I2 r rz q1 q2 q3
theorem pe_kw0 {CX : CXT} {E : L2.St → XK} (F : FnOk X.prog X.w X.K X.mg X.base CX k f fd ps sp) (hr : Room k X.A) (hg : Gl X x) (hm : X.mg x = some (.ref f)) (hk : PySem.W.keepIn X.K (.ref f) = true) (hb : KwB X.K fd ps 0 ks pi) (hx : ∀ σ, PassesAt CX X σ (E σ))
    (hkw : PK X kws tk) (hall : (backToKw pos (keywordEach kws X.env)).all (·.1.isSome) = true) (hks : (backToKw pos (keywordEach kws X.env)).filterMap (·.1) = ks)
    (hdb : (x == ("__debug__" : Str)) = false) (hpl : ((backTo pos (starEach [] X.env)).any (·.1) || (backToKw pos (keywordEach kws X.env)).any (·.1.isNone)) = false) :
    PE X (.Call (.Name x p) [] kws pos) (tCallKw sp E 0 ks.length pi tNil tk) := by
  refine ⟨fun pins s σ H Q I h => wpAny_Call_Name_kw (ld_glob I hg hm ?_ hdb)⟩
  refine PySem.W.callWith_KW0 (h₀ := X.base) I.ok.mod.kin hk hall (thn (hkw.run pos pins s σ H _ I h) fun ws s2 ⟨zs, H2, I2, rz, q1, q2, q3⟩ => ⟨I2.kIn, ?_⟩) hpl
  rw [hks]
  exact run_kw (us := []) F hr hb (hx σ) I2 .nil rz q1 q2 q3
/-- the keywords' values -/
def FK (X : Cx) (Wx : WX) (kws : List Keyword) (m : Ax) : Prop := PK X kws (tG (RelWs X.K) X.K X.mg Wx m)
theorem PK.imp {t t' : TA} (h : PK X kws t) (k : ∀ σ H Q, t' σ H Q → t σ H Q) : PK X kws t' := ⟨fun pos pins s σ H Q I q => h.run pos pins s σ H Q I (k σ H Q q)⟩
theorem fk_nil : FK X Wx [] mNil := PK.imp pk_nil fun σ H Q ⟨ρ, s, ok, en, h⟩ => h.here ok .nil
theorem fk_cons {m : Ex} (he : FE X Wx e m) (hr : FK X Wx kws ms) : FK X Wx (⟨nm, e, kpos⟩ :: kws) (mCons m ms) :=
  PK.imp (pk_cons he hr) fun σ H Q ⟨ρ, s, ok, en, h⟩ => (tg_bind (rel := RelW X.K) ok en h).mono fun x H1 ⟨w, s1, o1, t1, r1, e1, p1⟩ =>
    (tg_bind (rel := RelWs X.K) o1 e1 p1).mono fun xs H2 ⟨ws, s2, o2, t2, r2, e2, p2⟩ => p2.here o2 (.cons (r1.tr t2) r2)
def mKw (m : Nat) (pi : List Nat) (n : Nat) (G : List W → Store → R W) (ms mk : Ax) : Ex := fun ρ st => (ms ρ st).bind fun ws st1 => (mk ρ st1).bind fun zs st2 => if ws.length = n ∧ zs.length = m then G (ws ++ permL zs pi) st2 else .bad
def rawN (G : FnW) (n : Nat) : List W → Store → R W := fun ws st => if ws.length = n then G ws st else .bad
theorem rawN_post {K : PySem.W.Frag} {mg : Str → Option Value} {G : FnW} {n : Nat} {s : Wd} {H : Hp} {σ : L2.St} {ws : List W} {vs : List V} {Q : VK} (h : PostG (RelW K) K mg Wx σ s H (rawN G n ws s.st) Q) (ok : OkW K s H) (r : RelWs K s ws vs) : spW K mg n G vs H Q (WE Wx σ) := by
  unfold rawN at h
  split at h
  · rename_i hl
    refine ⟨ws, s, ok, r, by rw [← r.length, hl], ?_⟩
    revert h
    cases G ws s.st with
    | ok w st' => exact fun p1 => p1
    | ex c f w st' => exact fun p1 => p1
    | bad => exact fun p1 => p1
  · exact h.elim
theorem kw_of {m : Nat} {G : List W → Store → R W} (hsp : ∀ {s : Wd} {H : Hp} {σ : L2.St} {ws : List W} {vs : List V} {Q : VK}, PostG (RelW X.K) X.K X.mg Wx σ s H (G ws s.st) Q → OkW X.K s H → RelWs X.K s ws vs → sp vs H Q (WE Wx σ))
    {σ : L2.St} {H : Hp} {Q : VK} (h : tG (RelW X.K) X.K X.mg Wx (mKw m pi n G ms mk) σ H Q) : tCallKw sp (WE Wx) n m pi (tG (RelWs X.K) X.K X.mg Wx ms) (tG (RelWs X.K) X.K X.mg Wx mk) σ H Q := by
  obtain ⟨ρ, s, ok, en, h⟩ := h
  refine (tg_bind (rel := RelWs X.K) ok en h).mono fun vs H1 ⟨ws, s1, o1, t1, r1, e1, p1⟩ => (tg_bind (rel := RelWs X.K) o1 e1 p1).mono fun zs H2 ⟨us, s2, o2, t2, r2, e2, p2⟩ => ?_
  split at p2
  · rename_i hl
    exact ⟨by rw [← r1.length, hl.1], by rw [← r2.length, hl.2], hsp p2 o2 (paired_app (r1.tr t2) (perm_rel r2 pi))⟩
  · exact p2.elim
end
section
variable {X : Cx} {Wx : WX} {k n m : Nat} {f : Addr} {fd : FuncData} {ps ks : List Str} {pi : List Nat} {x : Str} {p pos : Pos} {e : Expr} {es : List Expr} {kws : List Keyword} {ms mk : Ax} {P : List D → Pr} {G : FnW}
theorem fe_pureK (F : FnOk X.prog X.w X.K X.mg X.base (L2.CX X.prog X.w) k f fd ps (spP X.K X.mg m P)) (hr : Room k X.A) (hm : X.mg x = some (.ref f)) (hk : PySem.W.keepIn X.K (.ref f) = true) (hb : KwB X.K fd ps n ks pi) (tk : Takes X Wx)
    (ha : FA X Wx (e :: es) ms) (hkw : FK X Wx kws mk) (hg : Gl X x := by rfl) (hall : (backToKw pos (keywordEach kws X.env)).all (·.1.isSome) = true := by rfl) (hks : (backToKw pos (keywordEach kws X.env)).filterMap (·.1) = ks := by rfl)
    (hdb : (x == ("__debug__" : Str)) = false := by decide) (he : starEach (e :: es) X.env = (false, eval e X.env) :: starEach es X.env := by rfl)
    (hpl : ((backTo pos (starEach (e :: es) X.env)).any (·.1) || (backToKw pos (keywordEach kws X.env)).any (·.1.isNone)) = false := by rfl) :
    FE X Wx (.Call (.Name x p) (e :: es) kws pos) (mKw ks.length pi n (callP P m) ms mk) :=
  PE.imp (pe_kw (E := WE Wx) F hr hg hm hk hb (passAt tk) ha hkw hall hks hdb he hpl) fun σ H Q h => kw_of (fun h o r => callP_post h o r) h
theorem fe_pureK0 (F : FnOk X.prog X.w X.K X.mg X.base (L2.CX X.prog X.w) k f fd ps (spP X.K X.mg m P)) (hr : Room k X.A) (hm : X.mg x = some (.ref f)) (hk : PySem.W.keepIn X.K (.ref f) = true) (hb : KwB X.K fd ps 0 ks pi) (tk : Takes X Wx)
    (hkw : FK X Wx kws mk) (hg : Gl X x := by rfl) (hall : (backToKw pos (keywordEach kws X.env)).all (·.1.isSome) = true := by rfl) (hks : (backToKw pos (keywordEach kws X.env)).filterMap (·.1) = ks := by rfl)
    (hdb : (x == ("__debug__" : Str)) = false := by decide) (hpl : ((backTo pos (starEach [] X.env)).any (·.1) || (backToKw pos (keywordEach kws X.env)).any (·.1.isNone)) = false := by rfl) :
    FE X Wx (.Call (.Name x p) [] kws pos) (mKw ks.length pi 0 (callP P m) mNil mk) :=
  PE.imp (pe_kw0 (E := WE Wx) F hr hg hm hk hb (passAt tk) hkw hall hks hdb hpl) fun σ H Q h => (kw_of (sp := spP X.K X.mg m P) (fun h o r => callP_post h o r) h : tCallKw (spP X.K X.mg m P) (WE Wx) 0 ks.length pi (tG (RelWs X.K) X.K X.mg Wx mNil) _ σ H Q) |> fun ⟨ρ, s, ok, en, h⟩ => h.here ok .nil
theorem fe_rawK (F : FnOk X.prog X.w X.K X.mg X.base (L2.CX X.prog X.w) k f fd ps (spW X.K X.mg m G)) (hr : Room k X.A) (hm : X.mg x = some (.ref f)) (hk : PySem.W.keepIn X.K (.ref f) = true) (hb : KwB X.K fd ps n ks pi) (tk : Takes X Wx)
    (ha : FA X Wx (e :: es) ms) (hkw : FK X Wx kws mk) (hg : Gl X x := by rfl) (hall : (backToKw pos (keywordEach kws X.env)).all (·.1.isSome) = true := by rfl) (hks : (backToKw pos (keywordEach kws X.env)).filterMap (·.1) = ks := by rfl)
    (hdb : (x == ("__debug__" : Str)) = false := by decide) (he : starEach (e :: es) X.env = (false, eval e X.env) :: starEach es X.env := by rfl)
    (hpl : ((backTo pos (starEach (e :: es) X.env)).any (·.1) || (backToKw pos (keywordEach kws X.env)).any (·.1.isNone)) = false := by rfl) :
    FE X Wx (.Call (.Name x p) (e :: es) kws pos) (mKw ks.length pi n (rawN G m) ms mk) :=
  PE.imp (pe_kw (E := WE Wx) F hr hg hm hk hb (passAt tk) ha hkw hall hks hdb he hpl) fun σ H Q h => kw_of (fun h o r => rawN_post h o r) h
theorem fe_rawK0 (F : FnOk X.prog X.w X.K X.mg X.base (L2.CX X.prog X.w) k f fd ps (spW X.K X.mg m G)) (hr : Room k X.A) (hm : X.mg x = some (.ref f)) (hk : PySem.W.keepIn X.K (.ref f) = true) (hb : KwB X.K fd ps 0 ks pi) (tk : Takes X Wx)
    (hkw : FK X Wx kws mk) (hg : Gl X x := by rfl) (hall : (backToKw pos (keywordEach kws X.env)).all (·.1.isSome) = true := by rfl) (hks : (backToKw pos (keywordEach kws X.env)).filterMap (·.1) = ks := by rfl)
    (hdb : (x == ("__debug__" : Str)) = false := by decide) (hpl : ((backTo pos (starEach [] X.env)).any (·.1) || (backToKw pos (keywordEach kws X.env)).any (·.1.isNone)) = false := by rfl) :
    FE X Wx (.Call (.Name x p) [] kws pos) (mKw ks.length pi 0 (rawN G m) mNil mk) :=
  PE.imp (pe_kw0 (E := WE Wx) F hr hg hm hk hb (passAt tk) hkw hall hks hdb hpl) fun σ H Q h => (kw_of (sp := spW X.K X.mg m G) (fun h o r => rawN_post h o r) h : tCallKw (spW X.K X.mg m G) (WE Wx) 0 ks.length pi (tG (RelWs X.K) X.K X.mg Wx mNil) _ σ H Q) |> fun ⟨ρ, s, ok, en, h⟩ => h.here ok .nil
end
end IL

set_option maxHeartbeats 4000007
namespace IL
open PySem PySem.Spec
open PyProof.Rows L2

/-! ### dict(ps), dict(d) -/
def pairOf (st : Store) (w : W) : Option (Key × W) := match vw st w with
  | .sq true [k, v] => (keyOf (vw st k)).map fun z => (z, v)
  | _ => none
def oDict (fz : Bool) : List W → Store → O
  | [a], st => match vw st a with
    | .sq false ws => match mapO (pairOf st) ws with
      | some kvs => mkDK fz (mergeG [] kvs) st
      | none => none
    | .dk kvs => mkDK fz kvs st
    | _ => none
  | _, _ => none
section
variable {X : Cx}
theorem pairs_ok {K : PySem.W.Frag} {s : Wd} {H : Hp} (ok : OkW K s H) : ∀ {ws : List W} {kvs : List (Key × W)} {vs : List V}, mapO (pairOf s.st) ws = some kvs → RelWs K s ws vs →
    ∃ (ps : List Addr) (kv : List (Key × V)), vs = ps.map V.ref ∧ Paired (fun p kv => SqT K H p [kV kv.1, kv.2]) ps kv ∧ RelKs K s kvs kv
  | [], kvs, vs, e, r => by cases e; cases r; exact ⟨[], [], rfl, .nil, .nil⟩
  | w :: ws, kvs, vs, e, r => by
    cases r with
    | cons r1 r2 =>
      unfold mapO at e
      cases e1 : pairOf s.st w with
      | none => rw [e1] at e; cases e
      | some b =>
        cases e2 : mapO (pairOf s.st) ws with
        | none => rw [e1, e2] at e; cases e
        | some br =>
          rw [e1, e2] at e
          cases e
          obtain ⟨ps, kv, h1, h2, h3⟩ := pairs_ok ok e2 r2
          have pw := vw_ok ok r1
          unfold pairOf at e1
          split at e1
          · rename_i k v ev
            rw [ev] at pw
            obtain ⟨q, us, eq, hq, ru⟩ := pw
            obtain ⟨z, ez, rfl⟩ := Option.map_eq_some_iff.mp e1
            obtain ⟨u1, u2, rfl, ra, rb⟩ := relWs2' ru
            have ek := keyOf_ok (vw_ok ok ra) ez
            subst ek
            exact ⟨q :: ps, (z, u2) :: kv, by rw [eq, h1]; rfl, .cons (.inl (.inl hq)) h2, .cons ⟨rfl, rb⟩ h3⟩
          · cases e1
theorem call_dictW (hc : X.calm = true) (fz : Bool) : CallR X (.type "dict") (rWs X.K (oDict fz)) := by
  intro pins s σ H xs us Q I r h
  obtain ⟨s', ws, ok, rw, h⟩ := h
  unfold oDict at h
  split at h
  · rename_i a
    obtain ⟨v, rfl, ra⟩ := relWs1' rw
    have pa := vw_ok ok ra
    split at h
    · rename_i zs ea
      rw [ea] at pa
      obtain ⟨p, vs, e, h1, r1⟩ := pa
      split at h
      · rename_i kvs ek
        obtain ⟨ps, kv, rfl, hp, hk⟩ := pairs_ok ok ek r1
        exact call_dictP hc pins s σ H _ us Q I r ⟨p, ps, kv, by rw [e], .inl (.inl h1), hp, fun q hq => postO_dk h ok (relKs_merge hk .nil) hq⟩
      · exact h.elim
    · rename_i kvs ea
      rw [ea] at pa
      obtain ⟨p, ps, e, h1, r1⟩ := pa
      exact call_dictD pins s σ H _ us Q I r ⟨p, ps, by rw [e], h1, fun q hq => postO_dk h ok r1 hq⟩
    · exact h.elim
  · exact h.elim
end

/-! ### list(d.items()) -/
def rItm : V → Hp → VK → Prop := fun x H Q => ∃ (d : Addr) (kvs : List (Key × V)), x = .ref d ∧ Rd H d (.dK kvs) ∧
  ∀ (H' : Hp) (p : Addr) (ts : List Addr), HLe H H' → H p = none → (∀ t ∈ ts, H t = none) → H' p = some (.lst (ts.map V.ref)) → Paired (fun (t : Addr) (q : Key × V) => H' t = some (.tup [kV q.1, q.2])) ts kvs → Q (.ref p) H'
def oItm (w : W) (st : Store) : O := match vw st w with
  | .dk kvs => (allDK kvs).map fun xs => (.d (.seq false (xs.map fun p => .seq true [kD p.1, p.2])), st)
  | _ => none
section
variable {X : Cx} {Wx : WX} {e : Expr} {m : Ex} {p apos cpos pos : Pos}
theorem pe_itm {te : TE} (hc : X.calm = true) (he : PE X e te) (hg : Gl X "list") (hm : X.mg "list" = none) (hv : bootBuiltins "list" = some (.type "list")) (hbase : attributeBase e "items" X.env (eval e X.env) = eval e X.env) (hline : (apos.endLine == cpos.line) = true)
    (hs : starEach [.Call (.Attribute e "items" apos) [] [] cpos] X.env = (false, eval (.Call (.Attribute e "items" apos) [] [] cpos) X.env) :: starEach [] X.env) :
    PE X (.Call (.Name "list" p) [.Call (.Attribute e "items" apos) [] [] cpos] [] pos) (fun σ H Q => te σ H fun x H1 => rItm x H1 Q) := by
  refine ⟨fun pins s σ H Q I hq => wpAny_Call_Name_kw (ld_blt I hg hm hv (PyProof.Rows.callWith_type1 ?_ hs rfl))⟩
  rw [hs]
  show wpAny _ _ (spliced ((false, eval (.Call (.Attribute e "items" apos) [] [] cpos) X.env) :: backTo pos (starEach [] X.env))) _ _ s
  refine Calls.spliced_cons (wpAny_Call_method (T := "dict") (id := "dict.items") hbase rfl hline F.plainAttrs_dict F.slot_dict_items F.type_dict_items (thn (he.run pins s σ H _ I hq) fun u s1 ⟨x, H1, I1, rx, d, kvs, ex, hd, q⟩ => ?_))
  subst ex
  cases (show u = Value.ref d from rx)
  obtain ⟨hz, hs0, vs, kv, hdo⟩ := dk_rd I1.hok hd
  obtain ⟨ep, hat⟩ := hdo.dictAt
  have J2 : Inv X pins σ H1 { s1 with heap := s1.heap.push { cls := .type "dict_items", data := .fields #[.ref d] } } := I1.kept (t' := s1.toks) fun b ob z => Heap.get?_push_of_some _ z
  have lk : kvs.length = vs.length := Paired.length kv
  refine ⟨hdo.typeIs, hdo.mapOf.noDict, ?_⟩
  show wpAny _ _ (callWith cpos (.builtin "dict.items") [.ref d] [] []) _ X.xe s1
  refine method_meetsIn F.slot_dict_items F.entry_dict_items rfl (PySem.evalArgs_none ⟨rfl, hdo.typeIs, F.args_dict_items_1 _, _, meets_dict_items (mixKind X.prog X.w) d hs0, ⟨vs, hdo⟩, Calls.spliced_nil ?_⟩)
  refine PySem.W.kdx_call (knd := mixKind X.prog X.w) (kvs := vs) (ep := ep) (I1.ok.hd hc) ⟨_, Heap.get?_push_size _ rfl, rfl, rfl⟩ (hat.push _) (by omega) fun h' tk acc c as hk hS hl hG hacc => ?_
  obtain ⟨H', k1, k2, k3, _, k5, k6, J⟩ := LiI.items_laid (tk := tk) J2 hz kv hk hS hl hG hacc
  exact ⟨.ref _, H', J, rfl, q H' _ as k1 k2 k3 k5 k6⟩
theorem items_rp {K : PySem.W.Frag} {F H' : Hp} : ∀ {ts : List Addr} {kvs : List (Key × V)} {xs : List (Key × D)}, Paired (fun (t : Addr) (q : Key × V) => F t = some (.tup [kV q.1, q.2])) ts kvs → RpK K F xs kvs → Rps K F (xs.map fun p => D.seq true [kD p.1, p.2]) (ts.map V.ref)
  | _, _, [], .nil, h => by simp [Rps]
  | _, _, _ :: _, .nil, h => by
    rename_i p _
    obtain ⟨k, x⟩ := p
    simp only [RpK] at h
    obtain ⟨_, _, e, _⟩ := h
    cases e
  | t :: ts, q :: kvs, [], .cons r rr, h => by simp only [RpK] at h; cases h
  | t :: ts, q :: kvs, (k, x) :: xs, .cons r rr, h => by
    simp only [RpK] at h
    obtain ⟨v, q', e, h1, h2⟩ := h
    cases e
    simp only [List.map_cons, Rps]
    refine ⟨_, _, rfl, ?_, items_rp (H' := H') rr h2⟩
    simp only [Rp]
    refine ⟨t, _, rfl, (r : F t = some (.tup [kV k, v])), ?_⟩
    simp only [Rps]
    exact ⟨_, _, rfl, kD_ok k, _, _, rfl, h1, rfl⟩
theorem fe_items (hc : X.calm = true) (hm : X.mg "list" = none) (he : FE X Wx e m) (hg : Gl X "list" := by rfl) (hbase : attributeBase e "items" X.env (eval e X.env) = eval e X.env := by rfl) (hline : (apos.endLine == cpos.line) = true := by rfl)
    (hs : starEach [.Call (.Attribute e "items" apos) [] [] cpos] X.env = (false, eval (.Call (.Attribute e "items" apos) [] [] cpos) X.env) :: starEach [] X.env := by rfl) :
    FE X Wx (.Call (.Name "list" p) [.Call (.Attribute e "items" apos) [] [] cpos] [] pos) (mUn oItm m) :=
  PE.imp (pe_itm hc he hg hm (by decide +kernel) hbase hline hs) fun σ H Q ⟨ρ, s, ok, en, h⟩ => (tg_bind (rel := RelW X.K) ok en h).mono fun v H1 ⟨w, s1, o1, t1, r1, e1, p1⟩ => by
    have pw := vw_ok o1 r1
    have p1 := postO_of p1
    unfold oItm at p1
    split at p1
    · rename_i kvs ew
      rw [ew] at pw
      obtain ⟨d, ps, ev, hd, r⟩ := pw
      refine ⟨d, ps, ev, hd, fun H' q ts le hq hts hl hp => ?_⟩
      cases ea : allDK kvs with
      | none => rw [ea] at p1; exact p1.elim
      | some xs =>
        rw [ea] at p1
        have rk := allDK_rel ea r
        have fr : ∀ a, (a = q ∨ a ∈ ts) → H1 a = none := fun a z => z.elim (fun y => by rw [y]; exact hq) (hts a)
        have F1 : HLe s1.F (fun a => if a = q ∨ a ∈ ts then H' a else s1.F a) := fun a o z => by
          simp only
          rw [if_neg (fun y => by have z2 := o1.sub _ _ z; rw [fr a y] at z2; cases z2)]
          exact z
        obtain ⟨o2, t2⟩ := ext_world (F' := fun a => if a = q ∨ a ∈ ts then H' a else s1.F a) (H' := H') o1 F1 (fun a o z => by
            simp only at z
            split at z
            · exact z
            · exact le _ _ (o1.sub _ _ z)) (LamX.ExtN.of le) (fun a z => fun u y => z u (le _ _ y)) (fun T hT => hT.ext le) (fun a z => by
            split at z
            · exact .inr (Fr.of (fr a (by assumption)))
            · exact .inl z) fun a qs z => by
            split at z
            · rename_i hz
              rcases hz with rfl | hz
              · rw [hl] at z; cases z
              · have go : ∀ {l : List Addr} {kvs : List (Key × V)}, a ∈ l → Paired (fun (t : Addr) (q : Key × V) => H' t = some (.tup [kV q.1, q.2])) l kvs → False := by
                  intro l kvs hm hp
                  induction hp with
                  | nil => simp at hm
                  | cons r1 r2 ih =>
                    rcases List.mem_cons.mp hm with rfl | hm
                    · rw [r1] at z; cases z
                    · exact ih hm
                exact go hz hp
            · exact o1.nt a qs z
        refine p1 (.ref q) H' { s1 with F := fun a => if a = q ∨ a ∈ ts then H' a else s1.F a } rfl o2 t2 (?_ : Rp X.K _ (.seq false _) _)
        simp only [Rp]
        refine ⟨q, ts.map V.ref, rfl, by show (if q = q ∨ q ∈ ts then H' q else s1.F q) = _; rw [if_pos (.inl rfl)]; exact hl, items_rp (H' := H') ?_ (RpK.mono F1 _ _ rk)⟩
        have go : ∀ {l : List Addr} {kvs : List (Key × V)}, (∀ t ∈ l, t ∈ ts) → Paired (fun (t : Addr) (q : Key × V) => H' t = some (.tup [kV q.1, q.2])) l kvs → Paired (fun (t : Addr) (z : Key × V) => (fun a => if a = q ∨ a ∈ ts then H' a else s1.F a) t = some (.tup [kV z.1, z.2])) l kvs := by
          intro l kvs hl hp
          induction hp with
          | nil => exact .nil
          | cons r1 r2 ih =>
            refine .cons ?_ (ih fun t ht => hl t (List.mem_cons_of_mem _ ht))
            show (if _ ∨ _ then _ else _) = _
            rw [if_pos (.inr (hl _ List.mem_cons_self))]
            exact r1
        exact go (fun t ht => ht) hp
    · exact p1.elim
end
end IL

set_option maxHeartbeats 4000007
namespace IL
open PySem PySem.Spec
open PyProof.Rows L2

/-! ### try: .. except A as e: .. except B as e: .. -/
def unE (D : Ends) (i : Nat) : Ends where
  nx := fun τ G => D.nx (τ.set i none) G
  rt := D.rt
  bk := fun τ G => D.bk (τ.set i none) G
  ct := fun τ G => D.ct (τ.set i none) G
def wNm (K : PySem.W.Frag) (Wout : WX) (i : Nat) (D : Ends) : List (Value × (Addr → Value → Option Addr → TS)) → WX
  | [] => Wout
  | (c, ts) :: r => fun cl dd τ G => ∃ b, PySem.W.exmOne K cl c = some b ∧ (b = true → i < τ.length → ∀ a, G a = none → ts a cl dd (unE D i) (τ.set i (some (.ref a))) G) ∧ (b = false → wNm K Wout i D r cl dd τ G)
inductive HdN (X : Cx) (n : Str) : List ExceptHandler → List (Value × (Addr → Value → Option Addr → TS)) → Prop
  | nil : HdN X n [] []
  | cons {x : Str} {c : Value} {ts : Addr → Value → Option Addr → TS} {b₀ : Stmt} {suite : List Stmt} {np pos' : Pos} {hds : List ExceptHandler} {l : List (Value × (Addr → Value → Option Addr → TS))} (hc : Names X x c)
      (hsu : ∀ (a : Addr) (oe : Obj) (cl : Value) (dd : Option Addr) (pn : List (Addr × Obj)), Zc cl dd oe → (∃ vs, oe.data = .fields vs) → PSs (X.suite a ((a, oe) :: pn)) (b₀ :: suite) (ts a cl dd)) (r : HdN X n hds l) :
      HdN X n (.ExceptHandler (some (.Name x np)) (some n) (b₀ :: suite) pos' :: hds) ((c, ts) :: l)
section
variable {X : Cx} {n : Str} {i : Nat} {body : List Stmt} {h₀ : ExceptHandler} {hds : List ExceptHandler} {l : List (Value × (Addr → Value → Option Addr → TS))} {pos : Pos} {tb : WX → TS} {Wout : WX}
theorem ps_try_named (hs : X.stack = X.env :: X.outer) (hf : X.env.frame = some X.env.locals) (hN : X.N.Nodup) (hi : X.N[i]? = some n) (hln : X.env.kindOf n = some .local) (tk : Takes X Wout)
    (hb : ∀ (W : WX) (pn : List (Addr × Obj)) (xe : Value → Shared → Prop), Takes (X.tr pn xe) W → PassesOwn (model X.prog X.w) X.A X.env xe → PSs (X.tr pn xe) body (tb W))
    (hh : HdN X n (h₀ :: hds) l) : PS X (.Try body (h₀ :: hds) [] [] pos) (fun D τ G => tb (wNm X.K Wout i D l) D τ G) := by
  refine ⟨fun pins s τ G D I h => ?_⟩
  have okX := I.ok
  have hfr : X.A.frames = some (X.env :: X.outer) := by rw [okX.frames, hs]
  have locN : Loc X.env.scope n := .inl hln
  refine wpAny_Try_except (wpAny_mono ((hb (wNm X.K Wout i D l) (X.pn ++ pins) (fun e z₁ => wpAny (model X.prog X.w) X.A (noteFrame e X.env) (fun _ z₂ => wpAny (model X.prog X.w) X.A (setFlight e none) (fun _ z₃ =>
    wpAny (model X.prog X.w) X.A (handleBy e X.env (h₀ :: hds)) (SP X pins D) X.xe z₃) X.xe z₂) X.xe z₁) (fun u z' xx => ?_) PassesOwn.looking).run [] s τ G D (I.toTry _) h) (fun f z1 hsp => ?_) (fun e z1 he => he))
  · obtain ⟨a, B, sI, pins', τ', G', cl, dd, rfl, J', nb, up, sky, na, os, ag, w⟩ := xx
    have J : Inv X pins τ' G' sI := J'.ofTry okX
    have skyX : Sky B (X.env :: X.outer) a (Zc cl dd) X.env.locals z'.heap := by rw [← hs]; exact sky
    show wpAny (model X.prog X.w) X.A (noteFrame (.ref a) X.env) _ _ _
    refine Sky.land Zc.steady hfr hf skyX fun h3 fl3 up3 => ?_
    have J3 : Inv X pins τ' G' { z' with heap := h3 } := J.landed nb fl3.1 (up.trans up3) os ag
    obtain ⟨oe3, vs3, he3, hz3, hd3⟩ := fl3.there
    have nfr : a ∉ frs (X.env :: X.outer) := fun hm => by
      obtain ⟨_, o', e', hnf⟩ := fl3.2.2.1.mem hm
      rw [he3] at e'
      cases e'
      exact hnf _ hd3
    have nL : a ≠ X.env.locals := fun z => nfr (List.mem_filterMap.mpr ⟨X.env, List.mem_cons_self, by rw [hf, z]⟩)
    have nF : a ∉ X.fs := fun hm => by
      obtain ⟨e, he, q⟩ := List.mem_filterMap.mp hm
      exact nfr (List.mem_filterMap.mpr ⟨e, List.mem_cons_of_mem _ he, q⟩)
    have S3 := J3.suite he3 hd3 na nL nF
    have go : ∀ {hdl : List ExceptHandler} {ll : List (Value × (Addr → Value → Option Addr → TS))}, HdN X n hdl ll → wNm X.K Wout i D ll cl dd τ' G' →
        wpAny (model X.prog X.w) X.A (handleBy (.ref a) X.env hdl) (SP X pins D) X.xe { z' with heap := h3 } := by
      intro hdl ll hk
      induction hk with
      | nil =>
        intro w
        refine wpAny_handleBy_nil ?_
        obtain ⟨k1, k2, k3, oe, vs, T, oT, ts', he, hz, hd, h1, hr⟩ := id fl3
        unfold PySem.passOn
        refine wpAny_bind (wpAny_field he hd h1 ?_)
        rw [if_neg (show ¬ ((Value.ref T == Value.none) = true) from by simp)]
        have last : wpAny (model X.prog X.w) X.A (setFlight (.ref a) X.env.frame) (fun _ z4 => wpAny (model X.prog X.w) X.A (throw (.ref a) : Sem Flow) (SP X pins D) X.xe z4) X.xe { z' with heap := h3 } := by
          rw [hf]
          exact HandSPX.setFlight_upZ fl3 fun h4 hh4 up4 => wpAny_throw (tk _ _ ⟨a, B, sI, pins, τ', G', cl, dd, rfl, J, nb, (up.trans up3).trans up4, .inr (.inr (by rw [hs]; exact hh4)), na, os, ag, w⟩)
        first
          | exact wpAny_bind (wpAny_pure (wpAny_bind last))
          | exact wpAny_bind last
      | @cons x c ts b₀ suite np pos' hds2 l2 hc hsu r ih =>
        intro w
        obtain ⟨b, hb1, hyes, hno⟩ := w
        refine wpAny_handleBy_cons (codeAny_handlers_test ?_) (by intro q; cases q)
        have LM := PySem.W.exm_one (M := model X.prog X.w) (J3.kIn) (fun A Q E s k q => wpAny_typeOf_ref (k _ _ he3) (by rw [hz3.1]; exact q) : PySem.W.Looks (model X.prog X.w) h3 (typeOf (.ref a)) cl) hb1
        have tst : ∀ {Q : Value → Shared → Prop} {E : Value → Shared → Prop}, Q c { z' with heap := h3 } → wpAny (model X.prog X.w) (X.A.mark (some (.ref a))) (eval (.Name x np) X.env) Q E { z' with heap := h3 } := fun {Q E} q => by
          obtain ⟨hg, hdbg, hm | ⟨hm, hv, hnn⟩⟩ := hc
          · exact ld_glob (X := X.suite a ((a, oe3) :: (X.pn ++ pins))) S3 hg hm q hdbg
          · exact ld_blt (X := X.suite a ((a, oe3) :: (X.pn ++ pins))) S3 hg hm hv q hnn hdbg
        refine tst (LM.here ?_)
        cases b with
        | true =>
          refine codeAny_handlers_suite_as (HandSPX.lands_againZ fl3 fun h4 fl4 up4 => ?_)
          have J4 : Inv X pins τ' G' { z' with heap := h4 } := J.landed nb fl4.1 ((up.trans up3).trans up4) os ag
          obtain ⟨oe4, vs4, he4, hz4, hd4⟩ := fl4.there
          have S4 := J4.suite he4 hd4 na nL nF
          refine store_ok (X := X.suite a ((a, oe4) :: (X.pn ++ pins))) (v := .ref a) S4 hN hi locN rfl (fun s5 S5 => ?_) (.inr hln)
          refine wpAny_mono ((hsu a oe4 cl dd (X.pn ++ pins) hz4 ⟨_, hd4⟩).run [] s5 _ G' _ S5 (hyes rfl (by rw [J.len]; exact (List.getElem?_eq_some_iff.mp hi).1) a na)) (fun f s6 hsp => ?_) (fun _ _ z => False.elim z)
          have outS : ∀ {τ6 : L2.St} {G6 : Hp} {Q : Shared → Prop}, Inv (X.suite a ((a, oe4) :: (X.pn ++ pins))) [] τ6 G6 s6 → (∀ s7, Inv X pins (τ6.set i none) G6 s7 → Q s7) →
              wpAny (model X.prog X.w) X.A (do bindName X.env n .none; unbindBehindTheSuite X.env n pos') (fun _ s7 => Q s7) X.xe s6 := fun {τ6 G6 Q} S6 hq => gone_ok (S6.unsuite okX) hN hi hln hq
          cases f with
          | next => let ⟨_, _, S6, q6⟩ := hsp; exact outS S6 fun s7 J7 => ⟨_, _, J7, q6⟩
          | brk => let ⟨_, _, S6, q6⟩ := hsp; exact outS S6 fun s7 J7 => ⟨_, _, J7, q6⟩
          | cont => let ⟨_, _, S6, q6⟩ := hsp; exact outS S6 fun s7 J7 => ⟨_, _, J7, q6⟩
          | ret u => let ⟨_, _, _, S6, r6, q6⟩ := hsp; exact outS S6 fun s7 J7 => ⟨_, _, _, J7, r6, q6⟩
        | false => exact (ih (hno rfl) : wpAny _ X.A (handleBy (.ref a) X.env hds2) _ _ _)
    exact go hh w
  · cases f with
    | next => let ⟨τ', G', J', q⟩ := hsp; exact wpAny_execs_nil ⟨τ', G', J'.ofTry okX, q⟩
    | brk => let ⟨τ', G', J', q⟩ := hsp; exact ⟨τ', G', J'.ofTry okX, q⟩
    | cont => let ⟨τ', G', J', q⟩ := hsp; exact ⟨τ', G', J'.ofTry okX, q⟩
    | ret u => let ⟨v, τ', G', J', r, q⟩ := hsp; exact ⟨v, τ', G', J'.ofTry okX, r, q⟩
end
end IL

set_option maxHeartbeats 4000007
namespace IL
open PySem PySem.Spec
open PyProof.Rows L2

/-! ### met(lambda: ..): what is told, or the exception's field -/
/-- a display of values: a tuple (t) or a list -/
def tDisW (t : Bool) (tA : TA) : TE := fun σ H Q => tA σ H fun xs H1 => xs.length ≤ sizeLine ∧ ∀ p, H1 p = none → Q (.ref p) (upd H1 p (seqO t xs))
def DisE (t : Bool) (es : List Expr) (e : Expr) : Prop := ∀ (Y : Cx) (tA : TA), PA Y es tA → PE Y e (tDisW t tA)
theorem disT {es : List Expr} {k : Nat} {pos : Pos} : DisE true es (.Tuple es k pos) := fun Y tA h => PE.imp (pe_tup h) fun σ H Q q => q
theorem disL {es : List Expr} {pos : Pos} : DisE false es (.List es pos) := fun Y tA h => PE.imp (pe_lst h) fun σ H Q q => q
/-- the classes that are caught: a field each -/
structure MetC (K : PySem.W.Frag) (mg : Str → Option Value) (sc : Scope) (c f : Str) (C : Addr) : Prop where
  gl : sc.names.lookup c = some .globalImplicit
  mg : mg c = some (.ref C)
  db : (c == ("__debug__" : Str)) = false
  xf : XfC K C
  no : PySem.W.findIn K (.ref C) f = some none
inductive MetH (K : PySem.W.Frag) (mg : Str → Option Value) (sc : Scope) (n : Str) (t : Bool) : List ExceptHandler → List (Str × Str × Str × Addr) → Prop
  | nil : MetH K mg sc n t [] []
  | cons {c tag f : Str} {C : Addr} {np p1 p2 p3 p4 p5 : Pos} {j : Nat} {e : Expr} {hds : List ExceptHandler} {l : List (Str × Str × Str × Addr)} (hc : MetC K mg sc c f C)
      (hd : DisE t [.Constant (.str tag) j p1, .Attribute (.Name n p2) f p3] e) (r : MetH K mg sc n t hds l) :
      MetH K mg sc n t (.ExceptHandler (some (.Name c np)) (some n) [.Return (some e) p4] p5 :: hds) ((c, tag, f, C) :: l)
def EM (K : PySem.W.Frag) (t : Bool) (Q : VK) : List (Str × Str × Str × Addr) → XK
  | [] => fun _ _ _ => False
  | (_, tag, f, C) :: r => fun cl d G => ∃ b, PySem.W.exmOne K cl (.ref C) = some b ∧ (b = true → cl = .ref C ∧ ∃ (dd : Addr) (fs : List (Str × V)) (v : V), d = some dd ∧ G dd = some (.xd fs) ∧ fs.lookup f = some v ∧ ∀ p, G p = none → Q (.ref p) (upd G p (seqO t [.str tag, v]))) ∧
    (b = false → EM K t Q r cl d G)
def TTmet (K : PySem.W.Frag) (t0 t : Bool) (tag0 : Str) (l : List (Str × Str × Str × Addr)) : (XK → Hp → VK → Prop) → Hp → VK → Prop := fun tl H Q =>
  tl (EM K t Q l) H fun v G => [V.str tag0, v].length ≤ sizeLine ∧ ∀ p, G p = none → Q (.ref p) (upd G p (seqO t0 [.str tag0, v]))
theorem two_small : 2 ≤ sizeLine := by decide
section
variable {X : Cx}
theorem met_gives {x a n q tag0 : Str} {sg : Scope} {g : Addr} {cdg : Value} {t0 t : Bool} {j : Nat} {p1 p2 p3 p6 p8 : Pos} {e0 : Expr} {h₀ : ExceptHandler} {hds : List ExceptHandler} {l : List (Str × Str × Str × Addr)}
    (hn : [a, n].Nodup) (hl : sg.names.lookup n = some .local) (dn : (n == ("__debug__" : Str)) = false) (cn : (n == ("__classdict__" : Str)) = false)
    (hd : DisE t0 [.Constant (.str tag0) j p1, .Call (.Name a p2) [] [] p3] e0) (hh : MetH X.K X.mg sg n t (h₀ :: hds) l) :
    LamX.GivesTo X [a, n] x sg g cdg [.Try [.Return (some e0) p6] (h₀ :: hds) [] [] p8] a q (TTmet X.K t0 t tag0 l) := by
  intro f c' s H Q tl act hc h
  let Y := (cxOf C8.CX0 X.prog X.w X.K X.mg X.base [a, n] x sg g cdg X.A X.stack s H C8.E0).nox
  let tsOf : Str × Str × Str × Addr → Addr → Value → Option Addr → TS := fun z b cl d => tRet (tDisW t (tCons (tC (.str z.2.1)) (tCons (tXf b cl d z.2.2.2 z.2.2.1 (tVar 1)) tNil)))
  have hN : ∀ {hs : List ExceptHandler} {ll : List (Str × Str × Str × Addr)}, MetH X.K X.mg sg n t hs ll → HdN Y n hs (ll.map fun z => (.ref z.2.2.2, tsOf z)) := by
    intro hs ll hk
    induction hk with
    | nil => exact .nil
    | cons hcc hdd r ih =>
      refine .cons (X := Y) ⟨hcc.gl, hcc.db, .inl hcc.mg⟩ (fun b oe cl d pn hz hf => ?_) ih
      refine pss_one (ps_ret (hdd _ _ (pa_cons pe_str (pa_cons (pe_xf (X := Y) hcc.xf hcc.no hz hf (pe_var (i := 1) rfl (.inl hl) dn cn)) pa_nil))))
  refine ⟨_, pss_one (ps_try_named (X := Y) (i := 1) (n := n) (l := l.map fun z => (.ref z.2.2.2, tsOf z))
      (tb := fun W D σ H => ∃ Ech : XK, (∀ cl d σ' H', Ech cl d H' → W cl d σ' H') ∧ σ[0]? = some (some (.ref f)) ∧ H c' = some (LamX.CodeO c' q) ∧ tl Ech H fun v G => [V.str tag0, v].length ≤ sizeLine ∧ ∀ p, G p = none → D.rt (.ref p) (upd G p (seqO t0 [.str tag0, v])))
      rfl rfl hn rfl hl LamX.takes0 (fun W pn xe tk _ => ?_) (hN hh)), ?_⟩
  · refine ⟨fun pins s' σ H' D I h' => ?_⟩
    obtain ⟨Ech, hW, h1, h2, h3⟩ := h'
    have hp := act W pn xe Ech p2 p3 tk hW
    have hq := pss_one (ps_ret (pos := p6) (hd _ _ (pa_cons (pe_str (x := tag0) (j := j) (pos := p1)) (pa_cons hp pa_nil))))
    exact hq.run pins s' σ H' D I ⟨h1, h2, h3⟩
  · refine ⟨EM X.K t Q l, fun cl d σ' H' he => ?_, rfl, hc, h⟩
    clear hh hN h
    induction l with
    | nil => exact he.elim
    | cons z l ih =>
      obtain ⟨c, tag, fl, C⟩ := z
      obtain ⟨b, e1, e2, e3⟩ := he
      refine ⟨b, e1, fun hb hi a' na => ?_, fun hb => ih (e3 hb)⟩
      obtain ⟨ec, dd, fs, v, ed, hG, hf, hq⟩ := e2 hb
      refine ⟨.ref a', List.getElem?_set_self hi, rfl, ec, dd, fs, v, ed, hG, hf, two_small, hq⟩
/-- the store's tables are T -/
def tabsAre (T : List (Addr × Str)) (st : Store) : Bool := (match st[0]? with
  | some (SO.tabs T') => decide (T' = T)
  | _ => false) && st.all fun so => match so with
  | SO.tabs T' => decide (T' = T)
  | _ => true
def metEx (t : Bool) (l : List (Str × Str × Str)) (c f : Str) (w : W) (st1 : Store) : R W := match l.find? fun z => z.1 == c with
  | some (_, tag, fl) => if fl = f then R.of (mkS true t [.d (.str tag), w] st1) else .bad
  | none => .bad
/-- lambda's reading and the met's answer -/
def mMet (T : List (Addr × Str)) (t0 t : Bool) (tag0 : Str) (l : List (Str × Str × Str)) (m : Ex) : Ex := fun ρ st => if tabsAre T st = true then (match m ρ st with
  | .ok w st1 => R.of (mkS true t0 [.d (.str tag0), w] st1)
  | .ex c f w st1 => metEx t l c f w st1
  | .bad => .bad) else .bad
/-- the classes that may be raised (cs) and the clauses: which takes which -/
def ExTab (K : PySem.W.Frag) (mg : Str → Option Value) (l : List (Str × Str × Str × Addr)) : Prop := ∀ z ∈ l, mg z.1 = some (.ref z.2.2.2) ∧ ∀ y ∈ l, PySem.W.exmOne K (.ref y.2.2.2) (.ref z.2.2.2) = some (y.1 == z.1)
def nm3 (z : Str × Str × Str × Addr) : Str × Str × Str := (z.1, z.2.1, z.2.2.1)
theorem em_of {K : PySem.W.Frag} {mg : Str → Option Value} {t : Bool} {Q : VK} {all : List (Str × Str × Str × Addr)} (T : ExTab K mg all) {c f : Str} {C dd : Addr} {v : V} {G : Hp} {tag fl : Str} (hm : mg c = some (.ref C)) (hG : G dd = some (.xd [(f, v)])) (hq : fl = f ∧ ∀ p, G p = none → Q (.ref p) (upd G p (seqO t [.str tag, v]))) :
    ∀ (l : List (Str × Str × Str × Addr)), (∀ z ∈ l, z ∈ all) → ((l.map nm3).find? fun z => z.1 == c) = some (c, tag, fl) → (∃ y ∈ all, y.1 = c) → EM K t Q l (.ref C) (some dd) G
  | [], _, h, _ => by simp at h
  | (c', tag', fl', C') :: r, hl, h, ⟨y, hy, ey⟩ => by
    have hz := hl _ List.mem_cons_self
    have e1 := (T _ hz).2 y hy
    have ec : y.2.2.2 = C := by
      have z := (T y hy).1
      rw [ey, hm] at z
      cases z; rfl
    rw [ec, ey] at e1
    refine ⟨(c == c'), e1, fun hb => ?_, fun hb => ?_⟩
    · have e2 : c = c' := eq_of_beq hb
      subst e2
      have z := (T _ hz).1
      rw [hm] at z
      simp only [List.map_cons, nm3, List.find?_cons, beq_self_eq_true] at h
      cases h
      refine ⟨Option.some.inj z, dd, [(f, v)], v, rfl, hG, ?_, hq.2⟩
      rw [hq.1]
      simp [List.lookup]
    · refine em_of T hm hG hq r (fun z q => hl z (List.mem_cons_of_mem _ q)) ?_ ⟨y, hy, ey⟩
      have nb : (c' == c) = false := by
        rw [beq_eq_false_iff_ne] at hb ⊢
        exact fun e => hb e.symm
      simpa only [List.map_cons, nm3, List.find?_cons, nb] using h
end
section
variable {X : Cx} {Wx : WX}
theorem tabs_here {K : PySem.W.Frag} {T : List (Addr × Str)} {s : Wd} {H : Hp} (h : tabsAre T s.st = true) (ok : OkW K s H) : LamX.Tabs T H ∧ ∀ (n : Nat) (T' : List (Addr × Str)), s.st[n]? = some (SO.tabs T') → T' = T := by
  unfold tabsAre at h
  rw [Bool.and_eq_true] at h
  obtain ⟨h1, h2⟩ := h
  refine ⟨?_, fun n T' e => ?_⟩
  · split at h1
    · rename_i T' e
      have z : LamX.Tabs T' H := ok.obj 0 _ e
      rwa [of_decide_eq_true h1] at z
    · cases h1
  · have z := List.all_eq_true.mp h2 _ (List.mem_of_getElem? e)
    exact of_decide_eq_true z
/-- the heap with a lambda's function and code laid -/
theorem tr_lam {K : PySem.W.Frag} {T : List (Addr × Str)} {s : Wd} {H H1 : Hp} (h : tabsAre T s.st = true) (ok : OkW K s H) (eN : LamX.ExtN H H1) (T1 : LamX.Tabs T H1) : OkW K s H1 ∧ Tr s H s H1 := by
  obtain ⟨_, hall⟩ := tabs_here h ok
  refine ⟨⟨fun a o e => eN a o (ok.sub a o e) fun ps q => ok.nt a ps (by rw [e, q]), fun n so hn => ?_, ok.inj, ok.nt⟩, ⟨Nat.le_refl _, fun _ _ => rfl, HLe.refl _, fun _ _ h _ => h, fun n h1 h2 => absurd h2 (Nat.not_lt.mpr h1), fun a o e nt _ => eN a o e nt, fun a f o e => ?_, fun a h => .inl h, rfl, fun T' k hT => ?_, fun _ _ h => h⟩⟩
  · have r := ok.obj n so hn
    cases so with
    | frz x => exact r
    | tabs T' => rw [hall n T' hn]; exact T1
    | lst ws => obtain ⟨vs, q1, q2⟩ := r; exact ⟨vs, eN _ _ q1 (fun _ e => by cases e), q2⟩
    | tup ws => obtain ⟨vs, q1, q2⟩ := r; exact ⟨vs, eN _ _ q1 (fun _ e => by cases e), q2⟩
    | dK ws => obtain ⟨vs, q1, q2⟩ := r; exact ⟨vs, eN _ _ q1 (fun _ e => by cases e), q2⟩
    | dT ws => obtain ⟨vs, q1, q2⟩ := r; exact ⟨vs, eN _ _ q1 (fun _ e => by cases e), q2⟩
  · by_cases nt : ∃ ps, o = .tbl ps
    · exact nt
    · obtain ⟨ps, q⟩ := f o (eN a o e fun ps q => nt ⟨ps, q⟩)
      exact ⟨ps, q⟩
  · have h' := h
    unfold tabsAre at h'
    rw [Bool.and_eq_true] at h'
    split at h'
    · rename_i T2 e
      have e1 : T2 = T' := k 0 T2 e
      have e2 : T2 = T := of_decide_eq_true h'.1
      rw [← e1, e2]; exact T1
    · exact absurd h'.1 (by simp)
theorem fe_met {T : List (Addr × Str)} {x a n : Str} {g c P : Addr} {k : Nat} {pg : Arguments} {bg : List Stmt} {sg : Scope} {dV kV doc pm cdv ct oc : Value} {an od : Option Addr} {osl : Array (Option Value)}
    {params : Arguments} {body : Expr} {scope : Scope} {m : Ex} {p lpos pos : Pos} {t0 t : Bool} {tag0 : Str} {l : List (Str × Str × Str × Addr)} (hg : Gl X x) (hm : X.mg x = some (.ref g)) (hk : PySem.W.keepIn X.K (.ref g) = true)
    (lk : X.K.lookup g = some ⟨oc, od, .func (PySem.W.fnOf x x pg bg sg dV kV doc pm an cdv ct), osl⟩) (hcg : PySem.W.codeIn X.K cdv x = true) (hb : L2.Binds X.K (PySem.W.fnOf x x pg bg sg dV kV doc pm an cdv ct) [a] []) (Sg : FnScope [a, n] [a] sg) (hva : Vis sg a)
    (hG : LamX.GivesTo X [a, n] x sg g cdv bg a (X.env.qual ++ "<lambda>") (TTmet X.K t0 t tag0 l)) (ET : ExTab X.K X.mg l)
    (TB : LamX.TabB X.base X.mg c P) (hcode : X.env.code = .ref c) (hmT : (P, X.env.qual ++ "<lambda>") ∈ T) (hu : ∀ p ∈ T, p.1 = P → p.2 = X.env.qual ++ "<lambda>") (hr : Room (k + 2) X.A) (L : LamX.LamS X.env.scope scope) (hdef : defaultsOf params X.env = ([], []))
    (hbind : ∀ (q : Str) (cl : List (Str × Addr)) (pm cv ctv : Value), bindArgs (PySem.W.kla_fn "<lambda>" q params body scope cl pm cv ctv) ⟨[], []⟩ = pure [])
    (hbody : ∀ (A : Around) (outer : List Env) (s : Shared) (H : Hp) (E : XK) (f c' : Addr), Room k (A.deeper (LamX.lamEnv X scope s.heap.objs.size f c')) → FE (LamX.lamCx X A outer s H E scope f c') (WF E) body m)
    (hdb : (x == ("__debug__" : Str)) = false := by decide) (hd : (a == ("__debug__" : Str)) = false := by decide) (hcd : (a == ("__classdict__" : Str)) = false := by decide) :
    FE X Wx (.Call (.Name x p) [.Lambda params body scope lpos] [] pos) (mMet T t0 t tag0 (l.map nm3) m) := by
  refine PE.imp (LamX.pe_lamcall (T := T) (t := fun E => tG (RelW X.K) X.K X.mg (WF E) m) hg hm hk lk hcg hb Sg rfl hva hG TB hcode hmT hu hr L hdef hbind hbody hdb hd hcd) fun σ H Q ⟨ρ, s, ok, en, h⟩ => ?_
  unfold mMet at h
  split at h
  · rename_i ht
    refine ⟨(tabs_here ht ok).1, fun H1 eN T1 => ?_⟩
    obtain ⟨o1, t1⟩ := tr_lam ht ok eN T1
    have h := PostG.later t1 h
    refine ⟨ρ, s, o1, en.tr t1, ?_⟩
    cases em : m ρ s.st with
    | bad => rw [em] at h; exact h.elim
    | ok w st' =>
      rw [em] at h
      intro v H' s' es o' t' rv
      subst es
      have h := PostG.later t' h
      exact ⟨two_small, fun p hp => postO_seq (t := t0) (ws := [.d (.str tag0), w]) (postO_of h) o' (.cons (rl_str _) (.cons rv .nil)) hp⟩
    | ex c' f w st' =>
      rw [em] at h
      intro C v dd H' s' hc es o' t' rv hdd hF
      subst es
      have hx : PostG (RelW X.K) X.K X.mg Wx σ s' H' (metEx t (l.map nm3) c' f w s'.st) Q := PostG.later t' h
      clear h
      unfold metEx at hx
      cases ef : (l.map nm3).find? (fun z => z.1 == c') with
      | none => rw [ef] at hx; exact hx.elim
      | some y =>
        obtain ⟨y, tag, fl⟩ := y
        rw [ef] at hx
        dsimp only at hx
        have ey : y = c' := eq_of_beq (by simpa using List.find?_some ef : (y == c') = true)
        subst ey
        by_cases hfl : fl = f
        · rw [if_pos hfl] at hx
          have hmem := List.mem_of_find?_eq_some ef
          obtain ⟨z, hz, ez⟩ := List.mem_map.mp hmem
          exact em_of ET (f := f) hc (o'.sub _ _ hF) ⟨hfl, fun p hp => postO_seq (t := t) (ws := [.d (.str tag), w]) (postO_of hx) o' (.cons (rl_str _) (.cons rv .nil)) hp⟩ l (fun z hz => hz) ef ⟨z, hz, congrArg Prod.fst ez⟩
        · rw [if_neg hfl] at hx
          exact hx.elim
  · exact h.elim
end
end IL

set_option maxHeartbeats 4000007
namespace IL
open PySem PySem.Spec
open PyProof.Rows L2

section
variable {X : Cx} {Wx : WX} {pos p p2 p3 p4 p5 : Pos} {e : Expr} {m : Ex}
theorem fe_is3 {x y z : Str} {x1} (b c d : Ty) (hm : X.mg "isinstance" = none) (hx : X.mg x = none) (hv : bootBuiltins x = some (.type b.nm)) (hy : X.mg y = none) (hw : bootBuiltins y = some (.type c.nm)) (hz : X.mg z = none) (hq : bootBuiltins z = some (.type d.nm)) (he : FE X Wx e m)
    (hg : Gl X "isinstance" := by rfl) (hgx : Gl X x := by rfl) (hgy : Gl X y := by rfl) (hgz : Gl X z := by rfl)
    (hn : x ≠ "__name__" := by decide) (hdb : (x == ("__debug__" : Str)) = false := by decide) (hn2 : y ≠ "__name__" := by decide) (hdb2 : (y == ("__debug__" : Str)) = false := by decide) (hn3 : z ≠ "__name__" := by decide) (hdb3 : (z == ("__debug__" : Str)) = false := by decide)
    (hs : starEach (e :: [.Tuple [.Name x p2, .Name y p3, .Name z p5] x1 p4]) X.env = (false, eval e X.env) :: starEach [.Tuple [.Name x p2, .Name y p3, .Name z p5] x1 p4] X.env := by rfl) (hpl : (backTo pos (starEach [.Tuple [.Name x p2, .Name y p3, .Name z p5] x1 p4] X.env)).any (·.1) = false := by rfl) :
    FE X Wx (.Call (.Name "isinstance" p) [e, .Tuple [.Name x p2, .Name y p3, .Name z p5] x1 p4] [] pos) (mIs [b, c, d] m) :=
  PE.imp (pe_callB call_isiT hg hm (by decide +kernel) (pa_cons he (pa_cons (pe_tup (pa_cons (pe_bltn (v := .ty b.nm) hgx hx hv rfl hn hdb) (pa_cons (pe_bltn (v := .ty c.nm) hgy hy hw rfl hn2 hdb2) (pa_cons (pe_bltn (v := .ty d.nm) hgz hz hq rfl hn3 hdb3) pa_nil (by rfl)) (by rfl)) (by rfl))) pa_nil (by rfl)) hs) (by decide) (by decide) hs hpl)
    fun σ H Q ⟨ρ, s, ok, en, h⟩ => (tg_bind (rel := RelW X.K) ok en h).mono fun v H1 ⟨w, s1, o1, t1, r1, e1, p1⟩ => by
      refine ⟨by show 3 ≤ sizeLine; decide, fun q hq => ?_⟩
      have o2 : OkW X.K s1 (upd H1 q (.tup [.ty b.nm, .ty c.nm, .ty d.nm])) := ok_more o1 hq
      have pw := vw_ok o2 r1
      rw [vtyIs_eq] at p1
      cases ew : vty (vw s1.st w) with
      | none => rw [ew] at p1; exact p1.elim
      | some a =>
        rw [ew] at p1
        refine ⟨v, q, [.ty b.nm, .ty c.nm, .ty d.nm], .type a.nm, [.type b.nm, .type c.nm, .type d.nm], [b, c, d].any (tyIs a), rfl, upd_same, .cons (.ty _) (.cons (.ty _) (.cons (.ty _) .nil)), tyX_of pw ew, tyAny_ok a [b, c, d], ?_⟩
        exact (p1.later (tr_more hq)).here o2 (rl_bl _)
end
/-! ### a text's defs, packed -/
def PureOk (P : Program) (w : World) (K : PySem.W.Frag) (mg : Str → Option Value) (base : Heap) (x : Str) (st : Stmt) (ps : List Str) (k : Nat) (G : List D → Pr) : Prop :=
  ∃ f fd, mg x = some (.ref f) ∧ Fun K x x st f fd ∧ L2.Binds K fd ps [] ∧ FnOk P w K mg base (L2.CX P w) k f fd ps (spP K mg ps.length G)
def RawOk (P : Program) (w : World) (K : PySem.W.Frag) (mg : Str → Option Value) (base : Heap) (x : Str) (st : Stmt) (ps : List Str) (k : Nat) (G : FnW) : Prop :=
  ∃ f fd, mg x = some (.ref f) ∧ Fun K x x st f fd ∧ L2.Binds K fd ps [] ∧ FnOk P w K mg base (L2.CX P w) k f fd ps (spW K mg ps.length G)
def Def (K : PySem.W.Frag) (mg : Str → Option Value) (x : Str) (st : Stmt) (ps : List Str) : Prop := ∃ f fd, mg x = some (.ref f) ∧ Fun K x x st f fd ∧ L2.Binds K fd ps []
section
variable {P : Program} {w : World} {K : PySem.W.Frag} {mg : Str → Option Value} {base : Heap} {x : Str} {st : Stmt} {ps N : List Str} {k : Nat}
theorem pure_mk {m : Sx} (D : Def K mg x st ps) (S : FnScope N ps (defScope st)) (hb : ∀ f : Addr, Body P w K mg base x st f N k m) : PureOk P w K mg base x st ps (k + 1) (pureOf N.length m) :=
  let ⟨f, fd, h1, h2, h3⟩ := D; ⟨f, fd, h1, h2, h3, fn_pure h2 S (hb f)⟩
theorem raw_mk {m : Sx} (D : Def K mg x st ps) (S : FnScope N ps (defScope st)) (hb : ∀ f : Addr, Body P w K mg base x st f N k m) : RawOk P w K mg base x st ps (k + 1) (rawOf N.length m) :=
  let ⟨f, fd, h1, h2, h3⟩ := D; ⟨f, fd, h1, h2, h3, fn_raw h2 S (hb f)⟩
theorem RawOk.norm {G : FnW} (h : RawOk P w K mg base x st ps k G) : RawOk P w K mg base x st ps k (normF G) := let ⟨f, fd, h1, h2, h3, h4⟩ := h; ⟨f, fd, h1, h2, h3, FnOk.norm h4⟩
theorem pure_bad (D : Def K mg x st ps) : PureOk P w K mg base x st ps k fun _ => .bad :=
  let ⟨f, fd, h1, h2, h3⟩ := D; ⟨f, fd, h1, h2, h3, ⟨fun _ _ _ _ ⟨_, _, _, _, _, _, z⟩ => z.elim, fun _ _ _ _ _ _ _ _ _ _ _ _ _ ⟨_, _, _, _, _, _, z⟩ => z.elim⟩⟩
theorem raw_bad (D : Def K mg x st ps) : RawOk P w K mg base x st ps k fun _ _ => .bad :=
  let ⟨f, fd, h1, h2, h3⟩ := D; ⟨f, fd, h1, h2, h3, ⟨fun _ _ _ _ ⟨_, _, _, _, _, z⟩ => z.elim, fun _ _ _ _ _ _ _ _ _ _ _ _ _ ⟨_, _, _, _, _, z⟩ => z.elim⟩⟩
theorem PureOk.up {G : List D → Pr} (h : PureOk P w K mg base x st ps k G) {k' : Nat} (hk : k ≤ k') : PureOk P w K mg base x st ps k' G := let ⟨f, fd, h1, h2, h3, h4⟩ := h; ⟨f, fd, h1, h2, h3, h4.mono hk⟩
theorem RawOk.up {G : FnW} (h : RawOk P w K mg base x st ps k G) {k' : Nat} (hk : k ≤ k') : RawOk P w K mg base x st ps k' G := let ⟨f, fd, h1, h2, h3, h4⟩ := h; ⟨f, fd, h1, h2, h3, h4.mono hk⟩
end
section
variable {X : Cx} {Wx : WX} {k n : Nat} {x : Str} {st : Stmt} {ps ks : List Str} {pi : List Nat} {p pos : Pos} {e : Expr} {es : List Expr} {kws : List Keyword} {ms mk : Ax} {G : List D → Pr} {R : FnW}
theorem fe_cP (h : PureOk X.prog X.w X.K X.mg X.base x st ps k G) (hr : Room k X.A) (tk : Takes X Wx) (ha : FA X Wx (e :: es) ms) (hg : Gl X x := by rfl) (hdb : (x == ("__debug__" : Str)) = false := by decide)
    (he : starEach (e :: es) X.env = (false, eval e X.env) :: starEach es X.env := by rfl) (hpl : (backTo pos (starEach es X.env)).any (·.1) = false := by rfl) (hn : ps.length = n := by rfl) : FE X Wx (.Call (.Name x p) (e :: es) [] pos) (mPure G n ms) := by
  subst hn
  exact let ⟨_, _, h1, h2, h3, h4⟩ := h; fe_pure h4 hr h1 h2.kp h3 tk ha hg hdb he hpl
theorem fe_cR (h : RawOk X.prog X.w X.K X.mg X.base x st ps k R) (hr : Room k X.A) (tk : Takes X Wx) (ha : FA X Wx (e :: es) ms) (hg : Gl X x := by rfl) (hdb : (x == ("__debug__" : Str)) = false := by decide)
    (he : starEach (e :: es) X.env = (false, eval e X.env) :: starEach es X.env := by rfl) (hpl : (backTo pos (starEach es X.env)).any (·.1) = false := by rfl) (hn : ps.length = n := by rfl) : FE X Wx (.Call (.Name x p) (e :: es) [] pos) (mRaw R n ms) := by
  subst hn
  exact let ⟨_, _, h1, h2, h3, h4⟩ := h; fe_raw h4 hr h1 h2.kp h3 tk ha hg hdb he hpl
/-- the binding, as a fact of the def's text -/
def KwT (x : Str) (st : Stmt) (ps : List Str) (n : Nat) (ks : List Str) (pi : List Nat) : Prop := ∀ (kV doc pm : Value) (an : Option Addr) (cdv ct : Value) (us ws : List Value), us.length = n → ws.length = ks.length →
  bindArgs (PySem.W.fnOf x x (defArgs st) (defBody st) (defScope st) .none kV doc pm an cdv ct) ⟨us, ks.zip ws⟩ = pure (ps.zip (us ++ permL ws pi))
theorem fe_cPK (h : PureOk X.prog X.w X.K X.mg X.base x st ps k G) (hr : Room k X.A) (hb : KwT x st ps n ks pi) (tk : Takes X Wx) (ha : FA X Wx (e :: es) ms) (hkw : FK X Wx kws mk) (hg : Gl X x := by rfl) (hall : (backToKw pos (keywordEach kws X.env)).all (·.1.isSome) = true := by rfl)
    (hks : (backToKw pos (keywordEach kws X.env)).filterMap (·.1) = ks := by rfl) (hdb : (x == ("__debug__" : Str)) = false := by decide) (he : starEach (e :: es) X.env = (false, eval e X.env) :: starEach es X.env := by rfl)
    (hpl : ((backTo pos (starEach (e :: es) X.env)).any (·.1) || (backToKw pos (keywordEach kws X.env)).any (·.1.isNone)) = false := by rfl) {kl np : Nat} (hkl : ks.length = kl := by rfl) (hnp : ps.length = np := by rfl) : FE X Wx (.Call (.Name x p) (e :: es) kws pos) (mKw kl pi n (callP G np) ms mk) := by
  subst hkl hnp
  exact let ⟨_, _, h1, h2, h3, h4⟩ := h; fe_pureK h4 hr h1 h2.kp (kwb h2 hb) tk ha hkw hg hall hks hdb he hpl
theorem fe_cPK0 (h : PureOk X.prog X.w X.K X.mg X.base x st ps k G) (hr : Room k X.A) (hb : KwT x st ps 0 ks pi) (tk : Takes X Wx) (hkw : FK X Wx kws mk) (hg : Gl X x := by rfl) (hall : (backToKw pos (keywordEach kws X.env)).all (·.1.isSome) = true := by rfl)
    (hks : (backToKw pos (keywordEach kws X.env)).filterMap (·.1) = ks := by rfl) (hdb : (x == ("__debug__" : Str)) = false := by decide)
    (hpl : ((backTo pos (starEach [] X.env)).any (·.1) || (backToKw pos (keywordEach kws X.env)).any (·.1.isNone)) = false := by rfl) {kl np : Nat} (hkl : ks.length = kl := by rfl) (hnp : ps.length = np := by rfl) : FE X Wx (.Call (.Name x p) [] kws pos) (mKw kl pi 0 (callP G np) mNil mk) := by
  subst hkl hnp
  exact let ⟨_, _, h1, h2, h3, h4⟩ := h; fe_pureK0 h4 hr h1 h2.kp (kwb h2 hb) tk hkw hg hall hks hdb hpl
theorem fe_cRK (h : RawOk X.prog X.w X.K X.mg X.base x st ps k R) (hr : Room k X.A) (hb : KwT x st ps n ks pi) (tk : Takes X Wx) (ha : FA X Wx (e :: es) ms) (hkw : FK X Wx kws mk) (hg : Gl X x := by rfl) (hall : (backToKw pos (keywordEach kws X.env)).all (·.1.isSome) = true := by rfl)
    (hks : (backToKw pos (keywordEach kws X.env)).filterMap (·.1) = ks := by rfl) (hdb : (x == ("__debug__" : Str)) = false := by decide) (he : starEach (e :: es) X.env = (false, eval e X.env) :: starEach es X.env := by rfl)
    (hpl : ((backTo pos (starEach (e :: es) X.env)).any (·.1) || (backToKw pos (keywordEach kws X.env)).any (·.1.isNone)) = false := by rfl) {kl np : Nat} (hkl : ks.length = kl := by rfl) (hnp : ps.length = np := by rfl) : FE X Wx (.Call (.Name x p) (e :: es) kws pos) (mKw kl pi n (rawN R np) ms mk) := by
  subst hkl hnp
  exact let ⟨_, _, h1, h2, h3, h4⟩ := h; fe_rawK h4 hr h1 h2.kp (kwb h2 hb) tk ha hkw hg hall hks hdb he hpl
theorem fe_cRK0 (h : RawOk X.prog X.w X.K X.mg X.base x st ps k R) (hr : Room k X.A) (hb : KwT x st ps 0 ks pi) (tk : Takes X Wx) (hkw : FK X Wx kws mk) (hg : Gl X x := by rfl) (hall : (backToKw pos (keywordEach kws X.env)).all (·.1.isSome) = true := by rfl)
    (hks : (backToKw pos (keywordEach kws X.env)).filterMap (·.1) = ks := by rfl) (hdb : (x == ("__debug__" : Str)) = false := by decide)
    (hpl : ((backTo pos (starEach [] X.env)).any (·.1) || (backToKw pos (keywordEach kws X.env)).any (·.1.isNone)) = false := by rfl) {kl np : Nat} (hkl : ks.length = kl := by rfl) (hnp : ps.length = np := by rfl) : FE X Wx (.Call (.Name x p) [] kws pos) (mKw kl pi 0 (rawN R np) mNil mk) := by
  subst hkl hnp
  exact let ⟨_, _, h1, h2, h3, h4⟩ := h; fe_rawK0 h4 hr h1 h2.kp (kwb h2 hb) tk hkw hg hall hks hdb hpl
end
end IL

set_option maxHeartbeats 4000007
namespace IL
open PySem PySem.Spec
open PyProof.Rows L2

/-! ### the def that is handed a lambda; the def whose code object is known -/
def MetDef (K : PySem.W.Frag) (mg : Str → Option Value) (x a : Str) (st : Stmt) : Prop := ∃ (g : Addr) (oc : Value) (od an : Option Addr) (osl : Array (Option Value)) (dV kV doc pm cdv ct : Value), mg x = some (.ref g) ∧ PySem.W.keepIn K (.ref g) = true ∧
  K.lookup g = some ⟨oc, od, .func (PySem.W.fnOf x x (defArgs st) (defBody st) (defScope st) dV kV doc pm an cdv ct), osl⟩ ∧ PySem.W.codeIn K cdv x = true ∧ L2.Binds K (PySem.W.fnOf x x (defArgs st) (defBody st) (defScope st) dV kV doc pm an cdv ct) [a] []
def ExcX (K : PySem.W.Frag) (mg : Str → Option Value) (c f : Str) (C : Addr) : Prop := mg c = some (.ref C) ∧ XfC K C ∧ PySem.W.findIn K (.ref C) f = some none
section
variable {X : Cx} {Wx : WX}
theorem fe_metD {T : List (Addr × Str)} (qual : Str) {x a n : Str} {st : Stmt} {c P : Addr} {k : Nat} {params : Arguments} {body : Expr} {scope : Scope} {m : Ex} {p lpos pos : Pos} {t0 t : Bool} {tag0 : Str} {l : List (Str × Str × Str × Addr)} (M : MetDef X.K X.mg x a st)
    (Sg : FnScope [a, n] [a] (defScope st)) (hva : Vis (defScope st) a) (hG : ∀ (g : Addr) (cdg : Value) (q : Str), LamX.GivesTo X [a, n] x (defScope st) g cdg (defBody st) a q (TTmet X.K t0 t tag0 l)) (ET : ExTab X.K X.mg l)
    (TB : LamX.TabB X.base X.mg c P) (hcode : X.env.code = .ref c) (hq : X.env.qual = qual) (hT : T = [(P, qual ++ "<lambda>")]) (hr : Room (k + 2) X.A) (L : LamX.lamSB X.env.scope scope = true)
    (hbody : ∀ (A : Around) (outer : List Env) (s : Shared) (H : Hp) (E : XK) (f c' : Addr), Room k (A.deeper (LamX.lamEnv X scope s.heap.objs.size f c')) → FE (LamX.lamCx X A outer s H E scope f c') (WF E) body m)
    (hg : Gl X x := by rfl) (hdef : defaultsOf params X.env = ([], []) := by rfl)
    (hbind : ∀ (q : Str) (cl : List (Str × Addr)) (pm cv ctv : Value), bindArgs (PySem.W.kla_fn "<lambda>" q params body scope cl pm cv ctv) ⟨[], []⟩ = pure [] := by exact fun _ _ _ _ _ => rfl)
    (hdb : (x == ("__debug__" : Str)) = false := by decide) (hd : (a == ("__debug__" : Str)) = false := by decide) (hcd : (a == ("__classdict__" : Str)) = false := by decide) {l' : List (Str × Str × Str)} (hl : l' = l.map nm3 := by rfl) :
    FE X Wx (.Call (.Name x p) [.Lambda params body scope lpos] [] pos) (mMet T t0 t tag0 l' m) := by
  obtain ⟨g, oc, od, an, osl, dV, kV, doc, pm, cdv, ct, h1, h2, h3, h4, h5⟩ := M
  subst hl
  subst hq
  subst hT
  exact fe_met hg h1 h2 h3 h4 h5 Sg hva (hG _ _ _) ET TB hcode List.mem_cons_self (fun p hp _ => by rw [List.mem_singleton.mp hp]) hr (LamX.lamS_by L) hdef hbind hbody hdb hd hcd
end
section
variable {P : Program} {w : World} {K : PySem.W.Frag} {mg : Str → Option Value} {base : Heap} {N ps : List Str} {k : Nat}
/-- as fn_raw, the code object told -/
theorem fn_rawC {f : Addr} {x : Str} {st : Stmt} {oc kV doc pm cdv ct : Value} {od an : Option Addr} {osl : Array (Option Value)} {m : Sx} (lk : K.lookup f = some ⟨oc, od, .func (PySem.W.fnOf x x (defArgs st) (defBody st) (defScope st) .none kV doc pm an cdv ct), osl⟩) (hcd : PySem.W.codeIn K cdv x = true) (S : FnScope N ps (defScope st))
    (hb : ∀ (A : Around) (outer : List Env) (s : Shared) (H : Hp) (E : XK), Room k (A.deeper (envOfC x (defScope st) s.heap.objs.size f cdv)) → FSs (cxOf (L2.CX P w) P w K mg base N x (defScope st) f cdv A outer s H E) (WF E) (defBody st) m) :
    FnOk P w K mg base (L2.CX P w) (k + 1) f (PySem.W.fnOf x x (defArgs st) (defBody st) (defScope st) .none kV doc pm an cdv ct) ps (spW K mg ps.length (rawOf N.length m)) := by
  refine fn_of lk hcd S (fun vs H Q E ⟨_, _, _, _, l, _⟩ => l) fun A outer s H vs Q E hr ⟨ws, s0, o0, hr2, hl, hp⟩ => ⟨_, hb A outer s H E hr, ?_⟩
  refine ⟨initE N.length ws, s0, o0, start_env hr2, ?_⟩
  show PostS K mg (WF E) s0 H (m (initE N.length ws) s0.st) _
  unfold rawOf at hp
  cases e : m (initE N.length ws) s0.st with
  | bad => rw [e] at hp; exact hp.elim
  | ok fl ρ st' =>
    rw [e] at hp
    intro σ' H' s' es o t en
    cases fl with
    | nx => exact hp .non H' s' es o t rl_non
    | bk => exact hp.elim
    | ct => exact hp.elim
    | rt w => exact fun v r => hp v H' s' es o t r
  | ex c f' w ρ st' =>
    rw [e] at hp
    intro C v dd σ' H' s' hc es o t en r hd hF
    exact hp C v dd H' s' hc es o t r hd hF
/-- the law's answer, from plain Lean -/
theorem law_sp {a : Addr} {ns : List Int} {T : List (Addr × Str)} {st : Store} {G : FnW} {E : XK} (hS : SqL K H a (ns.map V.int)) (hst : st = [] ∨ st = [.tabs T]) (hT : LamX.Tabs T H) (h : ∃ st', G [.d (.scr ns)] st = .ok (.d (.bl true)) st') :
    spW K mg 1 G [.ref a] H (fun v _ => v = .bl true) E := by
  obtain ⟨st', h⟩ := h
  let F : Hp := fun b => match H b with
    | some (.lst vs) => if b = a then some (.lst vs) else none
    | some (.frz o (.lst vs)) => if b = a then some (.frz o (.lst vs)) else none
    | _ => none
  have hF : HLe F H := fun b o e => by
    simp only [F] at e
    split at e
    · rename_i q; split at e
      · rw [q, ← e]
      · cases e
    · rename_i q; split at e
      · rw [q, ← e]
      · cases e
    · cases e
  have hSF : SqL K F a (ns.map V.int) := by
    rcases hS with (q | ⟨o, q⟩) | q
    · exact .inl (.inl (by simp only [F]; rw [q]; simp))
    · exact .inl (.inr ⟨o, by simp only [F]; rw [q]; simp⟩)
    · exact .inr q
  have nt : ∀ b ps, F b ≠ some (.tbl ps) := fun b ps e => by
    simp only [F] at e
    split at e
    · split at e <;> cases e
    · split at e <;> cases e
    · cases e
  have ok : OkW K ⟨fun _ => 0, F, st, none⟩ H := by
    refine ⟨hF, fun n so hn => ?_, fun n m so so' h1 h2 m1 => ?_, nt⟩
    · rcases hst with rfl | rfl
      · simp at hn
      · have : so = .tabs T := by
          cases n with
          | zero => simpa using hn.symm
          | succ n => simp at hn
        rw [this]; exact hT
    · rcases hst with rfl | rfl
      · simp at h1
      · have : so = .tabs T := by
          cases n with
          | zero => simpa using h1.symm
          | succ n => simp at h1
        rw [this] at m1; cases m1
  refine ⟨[.d (.scr ns)], ⟨fun _ => 0, F, st, none⟩, ok, .cons ?_ .nil, rfl, ?_⟩
  · show Rp K F (.scr ns) (.ref a)
    simp only [Rp]
    exact ⟨a, rfl, hSF⟩
  · show PostG _ _ _ _ _ _ _ (G [.d (.scr ns)] st) _
    rw [h]
    intro v H' s' _ _ _ r
    have r : Rp K s'.F (.bl true) v := r
    simpa only [Rp] using r
end
open PySem.W in
/-- the end of a law's row, with what the top knows of tables -/
theorem walk_ofTT {l : PySem.W.OpenLaw} {n k : Nat} {q : Program} {loose : List Str} {XP : (Str → Option Value) → Heap → Prop} {YP : World → Heap → Prop} {d : DefRec} {K : Params → PySem.W.Frag} {CX : World → CXT} {x : Str}
    (hn : l.most = some n) (hn2 : n ≤ sizeLine) (hdf : d.params.defaults = []) (hr : Room k callerA) (hY : ∀ (w : World) (h : Heap), YP w h → (K w.params).In h)
    (F : ∀ (w : World) (mg : Str → Option Value) (fa : Addr) (h : Heap), (∀ (e : DefRec) (y : Str) (c P : Addr), (recsOf q).find? (fun z => z.name == y) = some e → tabIn (K w.params) y = some (c, P) → CodeHd h c P ∧ h.get? P = some (tabObj #[])) →
      (K w.params).In h → h.Ns mainGlobals mg → mg d.name = some (.ref fa) → LamX.LawAtS l w (K w.params) (CX w) k n x mg fa h)
    (hCX : ∀ (w : World) (H : Hp) (s : Shared) (e : Value) (s' : Shared), CX w [] H s (fun _ _ _ => False) e s' → False) :
    PySem.W.WalkO q loose XP YP l.row.toRowW d [] (fun f vs => PySem.call f vs) := by
  refine Att.attach_callB hn hdf fun w s₀ s₁ mg mb fa o pm cd doc a vs ns G Y ho hd hcd hmg hobj hints hlen hbits hg => ?_
  have KX := hY w _ Y
  obtain ⟨fd, cs, sp, hT, nT, C, hb, hsp, hF⟩ := F w mg fa _ (fun e y c P h1 h2 => tab_of G.T KX h1 h2) KX G.T.g hmg
  exact LamX.law_callTs KX G.T.g G.T.b G.T.builtins G.T.nolimit hg hT nT C G.T.bmain hobj hints (Nat.le_trans hlen hn2) hr hF hb (fun H hH hS => hsp H a ns hlen hbits hH hS) fun H e s' => hCX w H s₁ e s'
theorem cx_false {P : Program} {w : World} {H : Hp} {s : Shared} {e : Value} {s' : Shared} (h : L2.CX P w [] H s (fun _ _ _ => False) e s') : False := by
  obtain ⟨_, _, _, _, _, _, _, _, _, _, _, _, z⟩ := h
  exact z.elim
section
variable {P : Program} {w : World} {K : PySem.W.Frag} {h : Heap} {mg : Str → Option Value}
theorem def_mk {x : Str} {st : Stmt} {ps : List Str} {f : Addr} {oc kV dc pm cd ct : Value} {od an : Option Addr} {sl : Array (Option Value)} (X : K.In h) (G : h.Ns mainGlobals mg) (a : PySem.W.nsIn K mainGlobals x = some (some (.ref f)))
    (l : K.lookup f = some ⟨oc, od, .func (PySem.W.fnOf x x (defArgs st) (defBody st) (defScope st) .none kV dc pm an cd ct), sl⟩) (c : PySem.W.codeIn K cd x = true) (k : PySem.W.keepIn K (.ref f) = true)
    (hb : ∀ (kV doc pm : Value) (an : Option Addr) (cdv ct : Value) (us : List Value), us.length = ps.length → bindArgs (PySem.W.fnOf x x (defArgs st) (defBody st) (defScope st) .none kV doc pm an cdv ct) ⟨us, []⟩ = pure (ps.zip us)) : Def K mg x st ps :=
  ⟨f, _, PySem.W.mg_of X G a, fun_mk l c k, (fun_mk l c k).binds hb⟩
theorem met_mk {x a0 : Str} {st : Stmt} {f : Addr} {oc kV dc pm cd ct : Value} {od an : Option Addr} {sl : Array (Option Value)} (X : K.In h) (G : h.Ns mainGlobals mg) (a : PySem.W.nsIn K mainGlobals x = some (some (.ref f)))
    (l : K.lookup f = some ⟨oc, od, .func (PySem.W.fnOf x x (defArgs st) (defBody st) (defScope st) .none kV dc pm an cd ct), sl⟩) (c : PySem.W.codeIn K cd x = true) (k : PySem.W.keepIn K (.ref f) = true)
    (hb : ∀ (kV doc pm : Value) (an : Option Addr) (cdv ct : Value) (us : List Value), us.length = [a0].length → bindArgs (PySem.W.fnOf x x (defArgs st) (defBody st) (defScope st) .none kV doc pm an cdv ct) ⟨us, []⟩ = pure ([a0].zip us)) : MetDef K mg x a0 st :=
  ⟨f, oc, od, an, sl, _, kV, dc, pm, cd, ct, PySem.W.mg_of X G a, k, l, c, (fun_mk l c k).binds hb⟩
theorem exc_mk {c f n0 n1 qual : Str} {st : Stmt} {C fI : Addr} {bm : List Value} {nm q : Str} {N : Addr} {bs : List Value} {sn : List Str} {sub : List Value} {ab : Bool} {col : Option Bool} {dd : Option Addr} {m0 m1 m2 m3 m5 : Option Value} {oc kV dc pm cd ct : Value} {od an : Option Addr} {sl : Array (Option Value)} (X : K.In h) (G : h.Ns mainGlobals mg)
    (a : PySem.W.nsIn K mainGlobals c = some (some (.ref C))) (xL : K.lookup C = some (excClassObj nm q C N bs bm true sn sub ab col dd m0 m1 m2 m3 m5 "ValueError.__new__")) (xb : PySem.HandSPX.refsVE bm = true)
    (sa : PySem.W.findIn K (.ref C) "__setattr__" = some (some (.builtin "object.__setattr__"))) (eC : PySem.W.subIn K (.ref C) (.type "BaseException") = some true) (tC : PySem.W.typeIn K (.ref C) = some (.type "type")) (kC : PySem.W.keepIn K (.ref C) = true) (nf : PySem.W.findIn K (.ref C) f = some none)
    (iC : PySem.W.findIn K (.ref C) "__init__" = some (some (.ref fI))) (tI : PySem.W.typeIn K (.ref fI) = some (.type "function"))
    (l : K.lookup fI = some ⟨oc, od, .func (PySem.W.fnOf "__init__" qual (defArgs st) (defBody st) (defScope st) .none kV dc pm an cd ct), sl⟩) (cc : PySem.W.codeIn K cd qual = true) (kI : PySem.W.keepIn K (.ref fI) = true)
    (S : FnScope [n0, n1] [n0, n1] (defScope st)) {p1 p2 p3 p4 : Pos} (hb : defBody st = [.Assign [.Attribute (.Name n0 p1) f p2] (.Name n1 p3) p4]) (h0 : (defScope st).names.lookup n0 = some .local) (h1 : (defScope st).names.lookup n1 = some .local)
    (hbi : ∀ (kV doc pm : Value) (an : Option Addr) (cdv ct : Value) (us : List Value), us.length = [n0, n1].length → bindArgs (PySem.W.fnOf "__init__" qual (defArgs st) (defBody st) (defScope st) .none kV doc pm an cdv ct) ⟨us, []⟩ = pure ([n0, n1].zip us))
    (d0 : (n0 == ("__debug__" : Str)) = false := by decide) (d1 : (n1 == ("__debug__" : Str)) = false := by decide) (c0 : (n0 == ("__classdict__" : Str)) = false := by decide) (c1 : (n1 == ("__classdict__" : Str)) = false := by decide) (base : Heap) : ExcC P w K mg base c f :=
  ⟨C, fI, _, _, PySem.W.mg_of X G a, ⟨⟨nm, q, N, bs, bm, sn, sub, ab, col, dd, m0, m1, m2, m3, m5, xL, xb⟩, sa, eC, tC, kC⟩, nf, iC, tI, init_ok (fun_mk l cc kI) S hb h0 h1 d0 d1 c0 c1, (fun_mk l cc kI).binds hbi⟩
end
theorem exm_mk {K : PySem.W.Frag} {C1 C2 : Addr} {b : Bool} (h1 : PySem.W.subIn K (.ref C2) (.type "BaseException") = some true) (h2 : PySem.W.isClsIn K C2 = true) (h3 : PySem.W.typeIn K (.ref C2) = some (.type "type")) (h4 : PySem.W.subIn K (.ref C1) (.ref C2) = some b) : PySem.W.exmOne K (.ref C1) (.ref C2) = some b := by
  have a1 : (PySem.W.subIn K (.ref C2) (.type "BaseException") == some true) = true := by rw [h1]; rfl
  have a2 : ((PySem.W.clsIn K C2).isSome && PySem.W.typeIn K (.ref C2) == some (.type "type")) = true := by
    rw [show (PySem.W.clsIn K C2).isSome = true from h2, h3]; rfl
  unfold PySem.W.exmOne PySem.W.kitCls
  rw [if_pos a1]
  simp only
  rw [if_pos a2]
  exact h4
theorem tab_mk {K : PySem.W.Frag} {x : Str} {f c P : Addr} {st : Stmt} {oc kV dc pm cd ct occ : Value} {od an odc : Option Addr} {sl slc : Array (Option Value)} {vsc : Array Value} (a : PySem.W.nsIn K mainGlobals x = some (some (.ref f)))
    (l : K.lookup f = some ⟨oc, od, .func (PySem.W.fnOf x x (defArgs st) (defBody st) (defScope st) .none kV dc pm an cd ct), sl⟩) (cv : cd = .ref c) (lc : K.lookup c = some ⟨occ, odc, .fields vsc, slc⟩) (h11 : (vsc[11]? : Option Value) = some (.ref P)) : PySem.W.tabIn K x = some (c, P) := by
  subst cv
  unfold PySem.W.tabIn
  rw [a]
  simp only
  rw [l]
  simp only [PySem.W.fnOf]
  rw [lc]
  simp only
  rw [h11]
end IL

set_option maxHeartbeats 0
namespace IL
open PySem PySem.Spec
open PyProof.Rows L2
/-! ### the text -/
def topS (i : Nat) : Stmt := PySem.Challenge.pw_leadsthere_k11_whole_main_plans_replayed.main.body.getD i (.Pass ⟨0, 0, 0, 0⟩)
abbrev s_is_list : Stmt := topS 1
abbrev s_is_whole : Stmt := topS 2
abbrev s_is_number : Stmt := topS 3
abbrev s_is_row : Stmt := topS 4
abbrev s_is_name : Stmt := topS 10
abbrev s_first_bad_name : Stmt := topS 11
abbrev s_are_facts : Stmt := topS 12
abbrev s_is_deed : Stmt := topS 13
abbrev s_fault_of : Stmt := topS 14
abbrev s_check_task : Stmt := topS 15
abbrev s_first_lack : Stmt := topS 16
abbrev s_done : Stmt := topS 17
abbrev s_fault_along : Stmt := topS 19
abbrev s_fault_of_plan : Stmt := topS 20
abbrev s_plan_fault : Stmt := topS 21
abbrev s_check_along : Stmt := topS 22
abbrev s_states_along : Stmt := topS 23
abbrev s_run : Stmt := topS 24
abbrev s_cost_of : Stmt := topS 25
abbrev s_cost : Stmt := topS 26
abbrev s_L_stream : Stmt := topS 28
abbrev s_L_draw : Stmt := topS 29
abbrev s_L_pick : Stmt := topS 30
abbrev s_L_same : Stmt := topS 31
abbrev s_L_loose : Stmt := topS 32
abbrev s_L_copied : Stmt := topS 33
abbrev s_L_spoilt : Stmt := topS 34
abbrev s_L_is_whole : Stmt := topS 35
abbrev s_L_some : Stmt := topS 36
abbrev s_L_task : Stmt := topS 37
abbrev s_L_handed : Stmt := topS 38
abbrev s_L_open : Stmt := topS 39
abbrev s_L_after : Stmt := topS 40
abbrev s_L_along : Stmt := topS 41
abbrev s_L_plan_fault : Stmt := topS 42
abbrev s_L_cost : Stmt := topS 43
abbrev s_L_drawn_row : Stmt := topS 44
abbrev s_L_bad_task : Stmt := topS 45
abbrev s_L_met : Stmt := topS 46
abbrev s_law : Stmt := topS 47
abbrev s_LeadError : Stmt := topS 6
abbrev s_BadTask : Stmt := topS 7
abbrev s_BadPlan : Stmt := topS 8
def blts : List Str := ["abs", "all", "bool", "dict", "enumerate", "int", "isinstance", "len", "list", "range", "sorted", "str", "sum", "tuple", "zip"]
section
variable {P : Program} {w : World} {K : PySem.W.Frag} {mg : Str → Option Value} {base : Heap}
theorem sc_is_list : FnScope ["thing"] ["thing"] (defScope s_is_list) := ⟨rfl, rfl, rfl, by decide +kernel, rfl, by decide +kernel, by decide +kernel⟩
def m_is_list : Sx := (sRet (mIs [.l, .t] (eV 0)))
def f_is_list : List D → Pr := pureOf 1 (m_is_list)
theorem ok_is_list (B : ∀ x ∈ blts, mg x = none) (D : Def K mg "is_list" s_is_list ["thing"]) : PureOk P w K mg base "is_list" s_is_list ["thing"] 1 f_is_list :=
  pure_mk (k := 0) D sc_is_list fun f cdv A outer s H E hr =>
  (fs_one (fs_ret (fe_is2 .l .t (B "isinstance" (by decide)) (B "list" (by decide)) (by decide +kernel) (B "tuple" (by decide)) (by decide +kernel) (fe_v 0))))
theorem sc_is_whole : FnScope ["thing"] ["thing"] (defScope s_is_whole) := ⟨rfl, rfl, rfl, by decide +kernel, rfl, by decide +kernel, by decide +kernel⟩
def m_is_whole : Sx := (sRet (mAndV (mIs [.i] (eV 0)) (mNotV (mIs [.b] (eV 0)))))
def f_is_whole : List D → Pr := pureOf 1 (m_is_whole)
theorem ok_is_whole (B : ∀ x ∈ blts, mg x = none) (D : Def K mg "is_whole" s_is_whole ["thing"]) : PureOk P w K mg base "is_whole" s_is_whole ["thing"] 1 f_is_whole :=
  pure_mk (k := 0) D sc_is_whole fun f cdv A outer s H E hr =>
  (fs_one (fs_ret (fe_and (fe_is1 .i (B "isinstance" (by decide)) (B "int" (by decide)) (by decide +kernel) (fe_v 0)) (fe_one (fe_not (fe_is1 .b (B "isinstance" (by decide)) (B "bool" (by decide)) (by decide +kernel) (fe_v 0)))))))
theorem sc_is_number : FnScope ["thing"] ["thing"] (defScope s_is_number) := ⟨rfl, rfl, rfl, by decide +kernel, rfl, by decide +kernel, by decide +kernel⟩
def m_is_number : Sx := (sRet (mAndV (mPure f_is_whole 1 (mCons (eV 0) mNil)) (mOp oGe (eV 0) (eC (.int 0)))))
def f_is_number : List D → Pr := pureOf 1 (m_is_number)
theorem ok_is_number (B : ∀ x ∈ blts, mg x = none) (D : Def K mg "is_number" s_is_number ["thing"]) (h_is_whole : PureOk P w K mg base "is_whole" s_is_whole ["thing"] 1 f_is_whole) : PureOk P w K mg base "is_number" s_is_number ["thing"] 2 f_is_number :=
  pure_mk (k := 1) D sc_is_number fun f cdv A outer s H E hr =>
  (fs_one (fs_ret (fe_and (fe_cP h_is_whole (hr.mono (by omega)) (takes_of rfl rfl rfl rfl) (fa_cons (fe_v 0) fa_nil)) (fe_one (fe_cmp (op_geW (un_of hr)) (fe_v 0) fe_int)))))
theorem sc_is_row : FnScope ["thing", "many"] ["thing", "many"] (defScope s_is_row) := ⟨rfl, rfl, rfl, by decide +kernel, rfl, by decide +kernel, by decide +kernel⟩
def m_is_row : Sx := (sRet (mAndV (mPure f_is_list 1 (mCons (eV 0) mNil)) (mOp oEq (mCall oLen (mCons (eV 0) mNil)) (eV 1))))
def f_is_row : List D → Pr := pureOf 2 (m_is_row)
theorem ok_is_row (B : ∀ x ∈ blts, mg x = none) (D : Def K mg "is_row" s_is_row ["thing", "many"]) (h_is_list : PureOk P w K mg base "is_list" s_is_list ["thing"] 1 f_is_list) : PureOk P w K mg base "is_row" s_is_row ["thing", "many"] 2 f_is_row :=
  pure_mk (k := 1) D sc_is_row fun f cdv A outer s H E hr =>
  (fs_one (fs_ret (fe_and (fe_cP h_is_list (hr.mono (by omega)) (takes_of rfl rfl rfl rfl) (fa_cons (fe_v 0) fa_nil)) (fe_one (fe_cmp (op_eqW (un_of hr)) (fe_callB call_lenW (B "len" (by decide)) (by decide +kernel) (fa_cons (fe_v 0) fa_nil)) (fe_v 1))))))
theorem sc_is_name : FnScope ["thing", "sign"] ["thing"] (defScope s_is_name) := ⟨rfl, rfl, rfl, by decide +kernel, rfl, by decide +kernel, by decide +kernel⟩
def m_is_name : Sx := (sSeq (sIf (mOr (mNot (mT (mIs [.s] (eV 0)))) (mNot (mT (mChain oLe oLe (eC (.int 1)) (mCall oLen (mCons (eV 0) mNil)) (eC (.int 30)))))) (sRet (eC (.bl false))) sNext)
  (sSeq (sIf (mNot (mT (mCall oAll (mCons (mLc true (srSeq (eV 0)) (.nm 1) [1] tYesX (mOp (oIn false) (eV 1) (eC (.str "abcdefghijklmnopqrstuvwxyz_")))) mNil)))) (sRet (eC (.bl false))) sNext)
  (sRet (mAndV (mOp oNe (mOp oIx (eV 0) (eC (.int 0))) (eC (.str "_"))) (mAndV (mOp oNe (mOp oIx (eV 0) (mUn oNeg (eC (.int 1)))) (eC (.str "_"))) (mOp (oIn true) (eC (.str "__")) (eV 0)))))))
def f_is_name : List D → Pr := pureOf 2 (m_is_name)
theorem ok_is_name (B : ∀ x ∈ blts, mg x = none) (D : Def K mg "is_name" s_is_name ["thing"]) : PureOk P w K mg base "is_name" s_is_name ["thing"] 1 f_is_name :=
  pure_mk (k := 0) D sc_is_name fun f cdv A outer s H E hr =>
  (fs_cons (fs_if (FW.ft (fw_or (ft_not (ft_v (fe_is1 .s (B "isinstance" (by decide)) (B "str" (by decide)) (by decide +kernel) (fe_v 0)))) (fw_or1 (ft_not (ft_chain (op_leW (un_of hr)) (op_leW (un_of hr)) fe_int (fe_callB call_lenW (B "len" (by decide)) (by decide +kernel) (fa_cons (fe_v 0) fa_nil)) fe_int))))) (fs_one (fs_ret fe_bl)) fs_nil)
  (fs_cons (fs_if (ft_not (ft_v (fe_callB (call_allW rfl) (B "all" (by decide)) (by decide +kernel) (fa_cons (fe_lc (own := [("sign", 1)]) true rfl sc_is_name.nd (fi_seq (fe_v 0)) (blkOk_by (by rfl)) (fun _ _ _ _ _ => (fg_nm 1 sc_is_name.nd rfl (by first | exact .inl rfl | exact .inr rfl) (by first | exact .inr rfl | exact .inl rfl))) (fun _ _ _ _ _ => fts_nil) (fun _ _ _ _ _ => (fe_cmp (op_inW (un_of hr)) (fe_v 1) fe_str))) fa_nil)))) (fs_one (fs_ret fe_bl)) fs_nil)
  (fs_one (fs_ret (fe_and (fe_cmp (op_neW (un_of hr)) (fe_ix (un_of hr) (fe_v 0) fe_int) fe_str) (fe_and (fe_cmp (op_neW (un_of hr)) (fe_ix (un_of hr) (fe_v 0) (fe_un un_negW fe_int)) fe_str) (fe_one (fe_cmp (op_notInW (un_of hr)) fe_str (fe_v 0)))))))))
theorem sc_first_bad_name : FnScope ["thing", "index", "name"] ["thing"] (defScope s_first_bad_name) := ⟨rfl, rfl, rfl, by decide +kernel, rfl, by decide +kernel, by decide +kernel⟩
def m_first_bad_name : Sx := (sSeq (sFor (srEnum (eV 0)) (.tp [(.nm 1), (.nm 2)]) (sIf (mOr (mNot (mT (mPure f_is_name 1 (mCons (eV 2) mNil)))) (mAnd (mT (mOp oGt (eV 1) (eC (.int 0)))) (mT (mOp oLe (eV 2) (mOp oIx (eV 0) (mOp oSub (eV 1) (eC (.int 1)))))))) (sRet (eV 1)) sNext))
  (sRet (eC .non)))
def f_first_bad_name : List D → Pr := pureOf 3 (m_first_bad_name)
theorem ok_first_bad_name (B : ∀ x ∈ blts, mg x = none) (D : Def K mg "first_bad_name" s_first_bad_name ["thing"]) (h_is_name : PureOk P w K mg base "is_name" s_is_name ["thing"] 1 f_is_name) : PureOk P w K mg base "first_bad_name" s_first_bad_name ["thing"] 2 f_first_bad_name :=
  pure_mk (k := 1) D sc_first_bad_name fun f cdv A outer s H E hr =>
  (fs_cons (fs_for PassesOwn.leaving rfl (fi_enum (B "enumerate" (by decide)) (fe_v 0)) (fg_tp rfl (fgs_cons (fg_nm 1 sc_first_bad_name.nd rfl (.inl rfl) (.inl rfl)) (fgs_cons (fg_nm 2 sc_first_bad_name.nd rfl (.inl rfl) (.inl rfl)) fgs_nil))) (fs_one (fs_if (FW.ft (fw_or (ft_not (ft_v (fe_cP h_is_name (hr.mono (by omega)) (takes_of rfl rfl rfl rfl) (fa_cons (fe_v 2) fa_nil)))) (fw_or1 (FW.ft (fw_and (ft_cmp (op_gtW (un_of hr)) (fe_v 1) fe_int) (fw_and1 (ft_cmp (op_leW (un_of hr)) (fe_v 2) (fe_ix (un_of hr) (fe_v 0) (fe_op op_subW (fe_v 1) fe_int))))))))) (fs_one (fs_ret (fe_v 1))) fs_nil)))
  (fs_one (fs_ret fe_non)))
theorem sc_are_facts : FnScope ["facts", "thing", "name"] ["facts", "thing"] (defScope s_are_facts) := ⟨rfl, rfl, rfl, by decide +kernel, rfl, by decide +kernel, by decide +kernel⟩
def m_are_facts : Sx := (sSeq (sIf (mOr (mNot (mT (mPure f_is_list 1 (mCons (eV 1) mNil)))) (mT (mOp (oIsN true) (mPure f_first_bad_name 1 (mCons (eV 1) mNil)) (eC .non)))) (sRet (eC (.bl false))) sNext)
  (sRet (mCall oAll (mCons (mLc true (srSeq (eV 1)) (.nm 2) [2] tYesX (mOp (oIn false) (eV 2) (eV 0))) mNil))))
def f_are_facts : List D → Pr := pureOf 3 (m_are_facts)
theorem ok_are_facts (B : ∀ x ∈ blts, mg x = none) (D : Def K mg "are_facts" s_are_facts ["facts", "thing"]) (h_is_list : PureOk P w K mg base "is_list" s_is_list ["thing"] 1 f_is_list) (h_first_bad_name : PureOk P w K mg base "first_bad_name" s_first_bad_name ["thing"] 2 f_first_bad_name) : PureOk P w K mg base "are_facts" s_are_facts ["facts", "thing"] 3 f_are_facts :=
  pure_mk (k := 2) D sc_are_facts fun f cdv A outer s H E hr =>
  (fs_cons (fs_if (FW.ft (fw_or (ft_not (ft_v (fe_cP h_is_list (hr.mono (by omega)) (takes_of rfl rfl rfl rfl) (fa_cons (fe_v 1) fa_nil)))) (fw_or1 (ft_cmp op_notNW (fe_cP h_first_bad_name (hr.mono (by omega)) (takes_of rfl rfl rfl rfl) (fa_cons (fe_v 1) fa_nil)) fe_non)))) (fs_one (fs_ret fe_bl)) fs_nil)
  (fs_one (fs_ret (fe_callB (call_allW rfl) (B "all" (by decide)) (by decide +kernel) (fa_cons (fe_lc (own := [("name", 2)]) true rfl sc_are_facts.nd (fi_seq (fe_v 1)) (blkOk_by (by rfl)) (fun _ _ _ _ _ => (fg_nm 2 sc_are_facts.nd rfl (by first | exact .inl rfl | exact .inr rfl) (by first | exact .inr rfl | exact .inl rfl))) (fun _ _ _ _ _ => fts_nil) (fun _ _ _ _ _ => (fe_cmp (op_inW (un_of hr)) (fe_v 2) (fe_v 0)))) fa_nil)))))
theorem sc_is_deed : FnScope ["facts", "thing", "some"] ["facts", "thing"] (defScope s_is_deed) := ⟨rfl, rfl, rfl, by decide +kernel, rfl, by decide +kernel, by decide +kernel⟩
def m_is_deed : Sx := (sSeq (sIf (mOr (mNot (mT (mPure f_is_row 2 (mCons (eV 1) (mCons (eC (.int 5)) mNil))))) (mOr (mNot (mT (mPure f_is_name 1 (mCons (mOp oIx (eV 1) (eC (.int 0))) mNil)))) (mNot (mT (mPure f_is_number 1 (mCons (mOp oIx (eV 1) (eC (.int 4))) mNil)))))) (sRet (eC (.bl false))) sNext)
  (sRet (mCall oAll (mCons (mLc true (srSeq (mSl true (eV 1) (mP (eC (.int 1))) (mP (eC (.int 4))))) (.nm 2) [2] tYesX (mPure f_are_facts 2 (mCons (eV 0) (mCons (eV 2) mNil)))) mNil))))
def f_is_deed : List D → Pr := pureOf 3 (m_is_deed)
theorem ok_is_deed (B : ∀ x ∈ blts, mg x = none) (D : Def K mg "is_deed" s_is_deed ["facts", "thing"]) (h_is_row : PureOk P w K mg base "is_row" s_is_row ["thing", "many"] 2 f_is_row) (h_is_name : PureOk P w K mg base "is_name" s_is_name ["thing"] 1 f_is_name) (h_is_number : PureOk P w K mg base "is_number" s_is_number ["thing"] 2 f_is_number) (h_are_facts : PureOk P w K mg base "are_facts" s_are_facts ["facts", "thing"] 3 f_are_facts) : PureOk P w K mg base "is_deed" s_is_deed ["facts", "thing"] 4 f_is_deed :=
  pure_mk (k := 3) D sc_is_deed fun f cdv A outer s H E hr =>
  (fs_cons (fs_if (FW.ft (fw_or (ft_not (ft_v (fe_cP h_is_row (hr.mono (by omega)) (takes_of rfl rfl rfl rfl) (fa_cons (fe_v 1) (fa_cons fe_int fa_nil))))) (fw_or (ft_not (ft_v (fe_cP h_is_name (hr.mono (by omega)) (takes_of rfl rfl rfl rfl) (fa_cons (fe_ix (un_of hr) (fe_v 1) fe_int) fa_nil)))) (fw_or1 (ft_not (ft_v (fe_cP h_is_number (hr.mono (by omega)) (takes_of rfl rfl rfl rfl) (fa_cons (fe_ix (un_of hr) (fe_v 1) fe_int) fa_nil)))))))) (fs_one (fs_ret fe_bl)) fs_nil)
  (fs_one (fs_ret (fe_callB (call_allW rfl) (B "all" (by decide)) (by decide +kernel) (fa_cons (fe_lc (own := [("some", 2)]) true rfl sc_is_deed.nd (fi_seq (fe_sl true (fe_v 1) (fo_1 fe_int) (fo_1 fe_int))) (blkOk_by (by rfl)) (fun _ _ _ _ _ => (fg_nm 2 sc_is_deed.nd rfl (by first | exact .inl rfl | exact .inr rfl) (by first | exact .inr rfl | exact .inl rfl))) (fun _ _ _ _ _ => fts_nil) (fun _ _ _ _ _ => (fe_cP h_are_facts (hr.mono (by omega)) takes0 (fa_cons (fe_v 0) (fa_cons (fe_v 2) fa_nil))))) fa_nil)))))
theorem sc_fault_of : FnScope ["thing", "wrong", "names", "index", "deed"] ["thing"] (defScope s_fault_of) := ⟨rfl, rfl, rfl, by decide +kernel, rfl, by decide +kernel, by decide +kernel⟩
def m_fault_of : Sx := (sSeq (sIf (mOr (mNot (mT (mPure f_is_row 2 (mCons (eV 0) (mCons (eC (.int 4)) mNil))))) (mOr (mNot (mT (mPure f_is_list 1 (mCons (mOp oIx (eV 0) (eC (.int 0))) mNil)))) (mNot (mT (mPure f_is_list 1 (mCons (mOp oIx (eV 0) (eC (.int 1))) mNil)))))) (sRet (mSeq true true (mCons (eC (.str "form")) mNil))) sNext)
  (sSeq (sAsg (.nm 1) (mPure f_first_bad_name 1 (mCons (mOp oIx (eV 0) (eC (.int 0))) mNil)))
  (sSeq (sIf (mT (mOp (oIsN true) (eV 1) (eC .non))) (sRet (mSeq true true (mCons (eC (.str "facts")) (mCons (eV 1) mNil)))) sNext)
  (sSeq (sAsg (.nm 2) (mSeq false false mNil))
  (sSeq (sFor (srEnum (mOp oIx (eV 0) (eC (.int 1)))) (.tp [(.nm 3), (.nm 4)]) (sSeq (sIf (mOr (mNot (mT (mPure f_is_deed 2 (mCons (mOp oIx (eV 0) (eC (.int 0))) (mCons (eV 4) mNil))))) (mT (mOp (oIn false) (mOp oIx (eV 4) (eC (.int 0))) (eV 2)))) (sRet (mSeq true true (mCons (eC (.str "deeds")) (mCons (eV 3) mNil)))) sNext)
  (sDrop (mMeth oAppend (eV 2) (mCons (mOp oIx (eV 4) (eC (.int 0))) mNil)))))
  (sSeq (sIf (mNot (mT (mPure f_are_facts 2 (mCons (mOp oIx (eV 0) (eC (.int 0))) (mCons (mOp oIx (eV 0) (eC (.int 2))) mNil))))) (sRet (mSeq true true (mCons (eC (.str "start")) mNil))) sNext)
  (sRet (mIf (mT (mPure f_are_facts 2 (mCons (mOp oIx (eV 0) (eC (.int 0))) (mCons (mOp oIx (eV 0) (eC (.int 3))) mNil)))) (eC .non) (mSeq true true (mCons (eC (.str "goal")) mNil))))))))))
def f_fault_of : List D → Pr := pureOf 5 (m_fault_of)
theorem ok_fault_of (B : ∀ x ∈ blts, mg x = none) (D : Def K mg "fault_of" s_fault_of ["thing"]) (h_is_row : PureOk P w K mg base "is_row" s_is_row ["thing", "many"] 2 f_is_row) (h_is_list : PureOk P w K mg base "is_list" s_is_list ["thing"] 1 f_is_list) (h_first_bad_name : PureOk P w K mg base "first_bad_name" s_first_bad_name ["thing"] 2 f_first_bad_name) (h_is_deed : PureOk P w K mg base "is_deed" s_is_deed ["facts", "thing"] 4 f_is_deed) (h_are_facts : PureOk P w K mg base "are_facts" s_are_facts ["facts", "thing"] 3 f_are_facts) : PureOk P w K mg base "fault_of" s_fault_of ["thing"] 5 f_fault_of :=
  pure_mk (k := 4) D sc_fault_of fun f cdv A outer s H E hr =>
  (fs_cons (fs_if (FW.ft (fw_or (ft_not (ft_v (fe_cP h_is_row (hr.mono (by omega)) (takes_of rfl rfl rfl rfl) (fa_cons (fe_v 0) (fa_cons fe_int fa_nil))))) (fw_or (ft_not (ft_v (fe_cP h_is_list (hr.mono (by omega)) (takes_of rfl rfl rfl rfl) (fa_cons (fe_ix (un_of hr) (fe_v 0) fe_int) fa_nil)))) (fw_or1 (ft_not (ft_v (fe_cP h_is_list (hr.mono (by omega)) (takes_of rfl rfl rfl rfl) (fa_cons (fe_ix (un_of hr) (fe_v 0) fe_int) fa_nil)))))))) (fs_one (fs_ret (fe_seqT true (fa_cons fe_str fa_nil)))) fs_nil)
  (fs_cons (fs_asg (fe_cP h_first_bad_name (hr.mono (by omega)) (takes_of rfl rfl rfl rfl) (fa_cons (fe_ix (un_of hr) (fe_v 0) fe_int) fa_nil)) (fg_nm 1 sc_fault_of.nd rfl (.inl rfl) (.inl rfl)))
  (fs_cons (fs_if (ft_cmp op_notNW (fe_v 1) fe_non) (fs_one (fs_ret (fe_seqT true (fa_cons fe_str (fa_cons (fe_v 1) fa_nil))))) fs_nil)
  (fs_cons (fs_asg (fe_seqL false fa_nil) (fg_nm 2 sc_fault_of.nd rfl (.inl rfl) (.inl rfl)))
  (fs_cons (fs_for PassesOwn.leaving rfl (fi_enum (B "enumerate" (by decide)) (fe_ix (un_of hr) (fe_v 0) fe_int)) (fg_tp rfl (fgs_cons (fg_nm 3 sc_fault_of.nd rfl (.inl rfl) (.inl rfl)) (fgs_cons (fg_nm 4 sc_fault_of.nd rfl (.inl rfl) (.inl rfl)) fgs_nil))) (fs_cons (fs_if (FW.ft (fw_or (ft_not (ft_v (fe_cP h_is_deed (hr.mono (by omega)) (takes_of rfl rfl rfl rfl) (fa_cons (fe_ix (un_of hr) (fe_v 0) fe_int) (fa_cons (fe_v 4) fa_nil))))) (fw_or1 (ft_cmp (op_inW (un_of hr)) (fe_ix (un_of hr) (fe_v 4) fe_int) (fe_v 2))))) (fs_one (fs_ret (fe_seqT true (fa_cons fe_str (fa_cons (fe_v 3) fa_nil))))) fs_nil)
  (fs_one (fs_expr (fe_append (fe_v 2) (fa_cons (fe_ix (un_of hr) (fe_v 4) fe_int) fa_nil))))))
  (fs_cons (fs_if (ft_not (ft_v (fe_cP h_are_facts (hr.mono (by omega)) (takes_of rfl rfl rfl rfl) (fa_cons (fe_ix (un_of hr) (fe_v 0) fe_int) (fa_cons (fe_ix (un_of hr) (fe_v 0) fe_int) fa_nil))))) (fs_one (fs_ret (fe_seqT true (fa_cons fe_str fa_nil)))) fs_nil)
  (fs_one (fs_ret (fe_if (ft_v (fe_cP h_are_facts (hr.mono (by omega)) (takes_of rfl rfl rfl rfl) (fa_cons (fe_ix (un_of hr) (fe_v 0) fe_int) (fa_cons (fe_ix (un_of hr) (fe_v 0) fe_int) fa_nil)))) fe_non (fe_seqT true (fa_cons fe_str fa_nil)))))))))))
theorem sc_check_task : FnScope ["task", "fault"] ["task"] (defScope s_check_task) := ⟨rfl, rfl, rfl, by decide +kernel, rfl, by decide +kernel, by decide +kernel⟩
def m_check_task : Sx := (sSeq (sAsg (.nm 1) (mPure f_fault_of 1 (mCons (eV 0) mNil)))
  (sIf (mT (mOp (oIsN true) (eV 1) (eC .non))) (sRaise "BadTask" "fault" (mCons (eV 1) mNil)) sNext))
def f_check_task : List D → Pr := pureOf 2 (m_check_task)
theorem ok_check_task (B : ∀ x ∈ blts, mg x = none) (D : Def K mg "check_task" s_check_task ["task"]) (h_fault_of : PureOk P w K mg base "fault_of" s_fault_of ["thing"] 5 f_fault_of) (x_BadTask : ExcC P w K mg base "BadTask" "fault") : PureOk P w K mg base "check_task" s_check_task ["task"] 6 f_check_task :=
  pure_mk (k := 5) D sc_check_task fun f cdv A outer s H E hr =>
  (fs_cons (fs_asg (fe_cP h_fault_of (hr.mono (by omega)) (takes_of rfl rfl rfl rfl) (fa_cons (fe_v 0) fa_nil)) (fg_nm 1 sc_check_task.nd rfl (.inl rfl) (.inl rfl)))
  (fs_one (fs_if (ft_cmp op_notNW (fe_v 1) fe_non) (fs_one (fs_raise rfl x_BadTask (hr.mono (by omega)) (takes_of rfl rfl rfl rfl) (fa_cons (fe_v 1) fa_nil))) fs_nil)))
theorem sc_first_lack : FnScope ["needs", "state", "fact"] ["needs", "state"] (defScope s_first_lack) := ⟨rfl, rfl, rfl, by decide +kernel, rfl, by decide +kernel, by decide +kernel⟩
def m_first_lack : Sx := (sSeq (sFor (srSeq (eV 0)) (.nm 2) (sIf (mT (mOp (oIn true) (eV 2) (eV 1))) (sRet (eV 2)) sNext))
  (sRet (eC .non)))
def f_first_lack : List D → Pr := pureOf 3 (m_first_lack)
theorem ok_first_lack (B : ∀ x ∈ blts, mg x = none) (D : Def K mg "first_lack" s_first_lack ["needs", "state"]) : PureOk P w K mg base "first_lack" s_first_lack ["needs", "state"] 1 f_first_lack :=
  pure_mk (k := 0) D sc_first_lack fun f cdv A outer s H E hr =>
  (fs_cons (fs_for PassesOwn.leaving rfl (fi_seq (fe_v 0)) (fg_nm 2 sc_first_lack.nd rfl (.inl rfl) (.inl rfl)) (fs_one (fs_if (ft_cmp (op_notInW (un_of hr)) (fe_v 2) (fe_v 1)) (fs_one (fs_ret (fe_v 2))) fs_nil)))
  (fs_one (fs_ret fe_non)))
theorem sc_done : FnScope ["deed", "state", "kept", "fact"] ["deed", "state"] (defScope s_done) := ⟨rfl, rfl, rfl, by decide +kernel, rfl, by decide +kernel, by decide +kernel⟩
def m_done : Sx := (sSeq (sAsg (.nm 2) (mLc true (srSeq (eV 1)) (.nm 3) [3] (mAnd (mT (mOp (oIn true) (eV 3) (mOp oIx (eV 0) (eC (.int 3))))) (mT (mOp (oIn true) (eV 3) (mOp oIx (eV 0) (eC (.int 2)))))) (eV 3)))
  (sRet (mCall (oSorted true) (mCons (mOp (oAdd true) (eV 2) (mCall (oList true) (mCons (mOp oIx (eV 0) (eC (.int 2))) mNil))) mNil))))
def f_done : List D → Pr := pureOf 4 (m_done)
theorem ok_done (B : ∀ x ∈ blts, mg x = none) (D : Def K mg "done" s_done ["deed", "state"]) : PureOk P w K mg base "done" s_done ["deed", "state"] 1 f_done :=
  pure_mk (k := 0) D sc_done fun f cdv A outer s H E hr =>
  (fs_cons (fs_setLc (own := [("fact", 3)]) true rfl sc_done.nd rfl rfl (sw_true rfl rfl rfl rfl) (fi_seq (fe_v 1)) (blkOk_by (by rfl)) (fun _ _ _ _ _ => (fg_nm 3 sc_done.nd rfl (by first | exact .inl rfl | exact .inr rfl) (by first | exact .inr rfl | exact .inl rfl))) (fun _ _ _ _ _ => (fts_one (FW.ft (fw_and (ft_cmp (op_notInW (un_of hr)) (fe_v 3) (fe_ix (un_of hr) (fe_v 0) fe_int)) (fw_and1 (ft_cmp (op_notInW (un_of hr)) (fe_v 3) (fe_ix (un_of hr) (fe_v 0) fe_int))))))) (fun _ _ _ _ _ => (fe_v 3)))
  (fs_one (fs_ret (fe_callB (call_sortedW (un_of hr)) (B "sorted" (by decide)) (by decide +kernel) (fa_cons (fe_op op_addW (fe_v 2) (fe_callTy call_listW (B "list" (by decide)) (by decide +kernel) (fa_cons (fe_ix (un_of hr) (fe_v 0) fe_int) fa_nil))) fa_nil)))))
def m_doneM : Sx := (sSeq (sAsg (.nm 2) (mLc true (srSeq (eV 1)) (.nm 3) [3] (mAnd (mT (mOp (oIn true) (eV 3) (mOp oIx (eV 0) (eC (.int 3))))) (mT (mOp (oIn true) (eV 3) (mOp oIx (eV 0) (eC (.int 2)))))) (eV 3)))
  (sRet (mCall (oSorted false) (mCons (mOp (oAdd true) (eV 2) (mCall (oList true) (mCons (mOp oIx (eV 0) (eC (.int 2))) mNil))) mNil))))
def f_doneM : FnW := rawOf 4 (m_doneM)
theorem ok_doneM (B : ∀ x ∈ blts, mg x = none) (D : Def K mg "done" s_done ["deed", "state"]) : RawOk P w K mg base "done" s_done ["deed", "state"] 1 f_doneM :=
  raw_mk (k := 0) D sc_done fun f cdv A outer s H E hr =>
  (fs_cons (fs_setLc (own := [("fact", 3)]) true rfl sc_done.nd rfl rfl (sw_true rfl rfl rfl rfl) (fi_seq (fe_v 1)) (blkOk_by (by rfl)) (fun _ _ _ _ _ => (fg_nm 3 sc_done.nd rfl (by first | exact .inl rfl | exact .inr rfl) (by first | exact .inr rfl | exact .inl rfl))) (fun _ _ _ _ _ => (fts_one (FW.ft (fw_and (ft_cmp (op_notInW (un_of hr)) (fe_v 3) (fe_ix (un_of hr) (fe_v 0) fe_int)) (fw_and1 (ft_cmp (op_notInW (un_of hr)) (fe_v 3) (fe_ix (un_of hr) (fe_v 0) fe_int))))))) (fun _ _ _ _ _ => (fe_v 3)))
  (fs_one (fs_ret (fe_callB (call_sortedW (un_of hr)) (B "sorted" (by decide)) (by decide +kernel) (fa_cons (fe_op op_addW (fe_v 2) (fe_callTy call_listW (B "list" (by decide)) (by decide +kernel) (fa_cons (fe_ix (un_of hr) (fe_v 0) fe_int) fa_nil))) fa_nil)))))
theorem sc_fault_along : FnScope ["task", "thing", "state", "place", "index", "lack"] ["task", "thing"] (defScope s_fault_along) := ⟨rfl, rfl, rfl, by decide +kernel, rfl, by decide +kernel, by decide +kernel⟩
def m_fault_along : Sx := (sSeq (sIf (mOr (mNot (mT (mPure f_is_list 1 (mCons (eV 1) mNil)))) (mNot (mT (mCall oAll (mCons (mLc true (srSeq (eV 1)) (.nm 4) [4] tYesX (mPure f_is_number 1 (mCons (eV 4) mNil))) mNil))))) (sRet (mSeq true true (mCons (mSeq true true (mCons (eC (.str "form")) mNil)) (mCons (eC .non) mNil)))) sNext)
  (sSeq (sAsg (.nm 2) (mCall (oList true) (mCons (mOp oIx (eV 0) (eC (.int 2))) mNil)))
  (sSeq (sFor (srEnum (eV 1)) (.tp [(.nm 3), (.nm 4)]) (sSeq (sIf (mT (mOp oGe (eV 4) (mCall oLen (mCons (mOp oIx (eV 0) (eC (.int 1))) mNil)))) (sRet (mSeq true true (mCons (mSeq true true (mCons (eC (.str "deed")) (mCons (eV 3) mNil))) (mCons (eC .non) mNil)))) sNext)
  (sSeq (sAsg (.nm 5) (mPure f_first_lack 2 (mCons (mOp oIx (mOp oIx (mOp oIx (eV 0) (eC (.int 1))) (eV 4)) (eC (.int 1))) (mCons (eV 2) mNil))))
  (sSeq (sIf (mT (mOp (oIsN true) (eV 5) (eC .non))) (sRet (mSeq true true (mCons (mSeq true true (mCons (eC (.str "needs")) (mCons (eV 3) (mCons (eV 5) mNil)))) (mCons (eC .non) mNil)))) sNext)
  (sAsg (.nm 2) (mPure f_done 2 (mCons (mOp oIx (mOp oIx (eV 0) (eC (.int 1))) (eV 4)) (mCons (eV 2) mNil))))))))
  (sRet (mSeq true true (mCons (eC .non) (mCons (eV 2) mNil)))))))
def f_fault_along : List D → Pr := pureOf 6 (m_fault_along)
theorem ok_fault_along (B : ∀ x ∈ blts, mg x = none) (D : Def K mg "fault_along" s_fault_along ["task", "thing"]) (h_is_list : PureOk P w K mg base "is_list" s_is_list ["thing"] 1 f_is_list) (h_is_number : PureOk P w K mg base "is_number" s_is_number ["thing"] 2 f_is_number) (h_first_lack : PureOk P w K mg base "first_lack" s_first_lack ["needs", "state"] 1 f_first_lack) (h_done : PureOk P w K mg base "done" s_done ["deed", "state"] 1 f_done) : PureOk P w K mg base "fault_along" s_fault_along ["task", "thing"] 3 f_fault_along :=
  pure_mk (k := 2) D sc_fault_along fun f cdv A outer s H E hr =>
  (fs_cons (fs_if (FW.ft (fw_or (ft_not (ft_v (fe_cP h_is_list (hr.mono (by omega)) (takes_of rfl rfl rfl rfl) (fa_cons (fe_v 1) fa_nil)))) (fw_or1 (ft_not (ft_v (fe_callB (call_allW rfl) (B "all" (by decide)) (by decide +kernel) (fa_cons (fe_lc (own := [("index", 4)]) true rfl sc_fault_along.nd (fi_seq (fe_v 1)) (blkOk_by (by rfl)) (fun _ _ _ _ _ => (fg_nm 4 sc_fault_along.nd rfl (by first | exact .inl rfl | exact .inr rfl) (by first | exact .inr rfl | exact .inl rfl))) (fun _ _ _ _ _ => fts_nil) (fun _ _ _ _ _ => (fe_cP h_is_number (hr.mono (by omega)) takes0 (fa_cons (fe_v 4) fa_nil)))) fa_nil))))))) (fs_one (fs_ret (fe_seqT true (fa_cons (fe_seqT true (fa_cons fe_str fa_nil)) (fa_cons fe_non fa_nil))))) fs_nil)
  (fs_cons (fs_asg (fe_callTy call_listW (B "list" (by decide)) (by decide +kernel) (fa_cons (fe_ix (un_of hr) (fe_v 0) fe_int) fa_nil)) (fg_nm 2 sc_fault_along.nd rfl (.inl rfl) (.inl rfl)))
  (fs_cons (fs_for PassesOwn.leaving rfl (fi_enum (B "enumerate" (by decide)) (fe_v 1)) (fg_tp rfl (fgs_cons (fg_nm 3 sc_fault_along.nd rfl (.inl rfl) (.inl rfl)) (fgs_cons (fg_nm 4 sc_fault_along.nd rfl (.inl rfl) (.inl rfl)) fgs_nil))) (fs_cons (fs_if (ft_cmp (op_geW (un_of hr)) (fe_v 4) (fe_callB call_lenW (B "len" (by decide)) (by decide +kernel) (fa_cons (fe_ix (un_of hr) (fe_v 0) fe_int) fa_nil))) (fs_one (fs_ret (fe_seqT true (fa_cons (fe_seqT true (fa_cons fe_str (fa_cons (fe_v 3) fa_nil))) (fa_cons fe_non fa_nil))))) fs_nil)
  (fs_cons (fs_asg (fe_cP h_first_lack (hr.mono (by omega)) (takes_of rfl rfl rfl rfl) (fa_cons (fe_ix (un_of hr) (fe_ix (un_of hr) (fe_ix (un_of hr) (fe_v 0) fe_int) (fe_v 4)) fe_int) (fa_cons (fe_v 2) fa_nil))) (fg_nm 5 sc_fault_along.nd rfl (.inl rfl) (.inl rfl)))
  (fs_cons (fs_if (ft_cmp op_notNW (fe_v 5) fe_non) (fs_one (fs_ret (fe_seqT true (fa_cons (fe_seqT true (fa_cons fe_str (fa_cons (fe_v 3) (fa_cons (fe_v 5) fa_nil)))) (fa_cons fe_non fa_nil))))) fs_nil)
  (fs_one (fs_asg (fe_cP h_done (hr.mono (by omega)) (takes_of rfl rfl rfl rfl) (fa_cons (fe_ix (un_of hr) (fe_ix (un_of hr) (fe_v 0) fe_int) (fe_v 4)) (fa_cons (fe_v 2) fa_nil))) (fg_nm 2 sc_fault_along.nd rfl (.inl rfl) (.inl rfl))))))))
  (fs_one (fs_ret (fe_seqT true (fa_cons fe_non (fa_cons (fe_v 2) fa_nil))))))))
theorem sc_fault_of_plan : FnScope ["task", "thing", "fault", "state", "lack"] ["task", "thing"] (defScope s_fault_of_plan) := ⟨rfl, rfl, rfl, by decide +kernel, rfl, by decide +kernel, by decide +kernel⟩
def m_fault_of_plan : Sx := (sSeq (sAsg (.tp [(.nm 2), (.nm 3)]) (mPure f_fault_along 2 (mCons (eV 0) (mCons (eV 1) mNil))))
  (sSeq (sIf (mT (mOp (oIsN true) (eV 2) (eC .non))) (sRet (eV 2)) sNext)
  (sSeq (sAsg (.nm 4) (mPure f_first_lack 2 (mCons (mOp oIx (eV 0) (eC (.int 3))) (mCons (eV 3) mNil))))
  (sRet (mIf (mT (mOp (oIsN true) (eV 4) (eC .non))) (mSeq true true (mCons (eC (.str "goal")) (mCons (eV 4) mNil))) (eC .non))))))
def f_fault_of_plan : List D → Pr := pureOf 5 (m_fault_of_plan)
theorem ok_fault_of_plan (B : ∀ x ∈ blts, mg x = none) (D : Def K mg "fault_of_plan" s_fault_of_plan ["task", "thing"]) (h_fault_along : PureOk P w K mg base "fault_along" s_fault_along ["task", "thing"] 3 f_fault_along) (h_first_lack : PureOk P w K mg base "first_lack" s_first_lack ["needs", "state"] 1 f_first_lack) : PureOk P w K mg base "fault_of_plan" s_fault_of_plan ["task", "thing"] 4 f_fault_of_plan :=
  pure_mk (k := 3) D sc_fault_of_plan fun f cdv A outer s H E hr =>
  (fs_cons (fs_asg (fe_cP h_fault_along (hr.mono (by omega)) (takes_of rfl rfl rfl rfl) (fa_cons (fe_v 0) (fa_cons (fe_v 1) fa_nil))) (fg_tp rfl (fgs_cons (fg_nm 2 sc_fault_of_plan.nd rfl (.inl rfl) (.inl rfl)) (fgs_cons (fg_nm 3 sc_fault_of_plan.nd rfl (.inl rfl) (.inl rfl)) fgs_nil))))
  (fs_cons (fs_if (ft_cmp op_notNW (fe_v 2) fe_non) (fs_one (fs_ret (fe_v 2))) fs_nil)
  (fs_cons (fs_asg (fe_cP h_first_lack (hr.mono (by omega)) (takes_of rfl rfl rfl rfl) (fa_cons (fe_ix (un_of hr) (fe_v 0) fe_int) (fa_cons (fe_v 3) fa_nil))) (fg_nm 4 sc_fault_of_plan.nd rfl (.inl rfl) (.inl rfl)))
  (fs_one (fs_ret (fe_if (ft_cmp op_notNW (fe_v 4) fe_non) (fe_seqT true (fa_cons fe_str (fa_cons (fe_v 4) fa_nil))) fe_non))))))
theorem sc_plan_fault : FnScope ["task", "thing"] ["task", "thing"] (defScope s_plan_fault) := ⟨rfl, rfl, rfl, by decide +kernel, rfl, by decide +kernel, by decide +kernel⟩
def m_plan_fault : Sx := (sSeq (sDrop (mPure f_check_task 1 (mCons (eV 0) mNil)))
  (sRet (mPure f_fault_of_plan 2 (mCons (eV 0) (mCons (eV 1) mNil)))))
def f_plan_fault : List D → Pr := pureOf 2 (m_plan_fault)
theorem ok_plan_fault (B : ∀ x ∈ blts, mg x = none) (D : Def K mg "plan_fault" s_plan_fault ["task", "thing"]) (h_check_task : PureOk P w K mg base "check_task" s_check_task ["task"] 6 f_check_task) (h_fault_of_plan : PureOk P w K mg base "fault_of_plan" s_fault_of_plan ["task", "thing"] 4 f_fault_of_plan) : PureOk P w K mg base "plan_fault" s_plan_fault ["task", "thing"] 7 f_plan_fault :=
  pure_mk (k := 6) D sc_plan_fault fun f cdv A outer s H E hr =>
  (fs_cons (fs_expr (fe_cP h_check_task (hr.mono (by omega)) (takes_of rfl rfl rfl rfl) (fa_cons (fe_v 0) fa_nil)))
  (fs_one (fs_ret (fe_cP h_fault_of_plan (hr.mono (by omega)) (takes_of rfl rfl rfl rfl) (fa_cons (fe_v 0) (fa_cons (fe_v 1) fa_nil))))))
theorem sc_check_along : FnScope ["task", "indexes", "fault", "_"] ["task", "indexes"] (defScope s_check_along) := ⟨rfl, rfl, rfl, by decide +kernel, rfl, by decide +kernel, by decide +kernel⟩
def m_check_along : Sx := (sSeq (sDrop (mPure f_check_task 1 (mCons (eV 0) mNil)))
  (sSeq (sAsg (.tp [(.nm 2), (.nm 3)]) (mPure f_fault_along 2 (mCons (eV 0) (mCons (eV 1) mNil))))
  (sIf (mT (mOp (oIsN true) (eV 2) (eC .non))) (sRaise "BadPlan" "fault" (mCons (eV 2) mNil)) sNext)))
def f_check_along : List D → Pr := pureOf 4 (m_check_along)
theorem ok_check_along (B : ∀ x ∈ blts, mg x = none) (D : Def K mg "check_along" s_check_along ["task", "indexes"]) (h_check_task : PureOk P w K mg base "check_task" s_check_task ["task"] 6 f_check_task) (h_fault_along : PureOk P w K mg base "fault_along" s_fault_along ["task", "thing"] 3 f_fault_along) (x_BadPlan : ExcC P w K mg base "BadPlan" "fault") : PureOk P w K mg base "check_along" s_check_along ["task", "indexes"] 7 f_check_along :=
  pure_mk (k := 6) D sc_check_along fun f cdv A outer s H E hr =>
  (fs_cons (fs_expr (fe_cP h_check_task (hr.mono (by omega)) (takes_of rfl rfl rfl rfl) (fa_cons (fe_v 0) fa_nil)))
  (fs_cons (fs_asg (fe_cP h_fault_along (hr.mono (by omega)) (takes_of rfl rfl rfl rfl) (fa_cons (fe_v 0) (fa_cons (fe_v 1) fa_nil))) (fg_tp rfl (fgs_cons (fg_nm 2 sc_check_along.nd rfl (.inl rfl) (.inl rfl)) (fgs_cons (fg_nm 3 sc_check_along.nd rfl (.inl rfl) (.inl rfl)) fgs_nil))))
  (fs_one (fs_if (ft_cmp op_notNW (fe_v 2) fe_non) (fs_one (fs_raise rfl x_BadPlan (hr.mono (by omega)) (takes_of rfl rfl rfl rfl) (fa_cons (fe_v 2) fa_nil))) fs_nil))))
theorem sc_states_along : FnScope ["task", "indexes", "found", "index"] ["task", "indexes"] (defScope s_states_along) := ⟨rfl, rfl, rfl, by decide +kernel, rfl, by decide +kernel, by decide +kernel⟩
def m_states_along : Sx := (sSeq (sAsg (.nm 2) (mSeq false false (mCons (mCall (oList true) (mCons (mOp oIx (eV 0) (eC (.int 2))) mNil)) mNil)))
  (sSeq (sFor (srSeq (eV 1)) (.nm 3) (sDrop (mMeth oAppend (eV 2) (mCons (mPure f_done 2 (mCons (mOp oIx (mOp oIx (eV 0) (eC (.int 1))) (eV 3)) (mCons (mOp oIx (eV 2) (mUn oNeg (eC (.int 1)))) mNil))) mNil))))
  (sRet (eV 2))))
def f_states_along : List D → Pr := pureOf 4 (m_states_along)
theorem ok_states_along (B : ∀ x ∈ blts, mg x = none) (D : Def K mg "states_along" s_states_along ["task", "indexes"]) (h_done : PureOk P w K mg base "done" s_done ["deed", "state"] 1 f_done) : PureOk P w K mg base "states_along" s_states_along ["task", "indexes"] 2 f_states_along :=
  pure_mk (k := 1) D sc_states_along fun f cdv A outer s H E hr =>
  (fs_cons (fs_asg (fe_seqL false (fa_cons (fe_callTy call_listW (B "list" (by decide)) (by decide +kernel) (fa_cons (fe_ix (un_of hr) (fe_v 0) fe_int) fa_nil)) fa_nil)) (fg_nm 2 sc_states_along.nd rfl (.inl rfl) (.inl rfl)))
  (fs_cons (fs_for PassesOwn.leaving rfl (fi_seq (fe_v 1)) (fg_nm 3 sc_states_along.nd rfl (.inl rfl) (.inl rfl)) (fs_one (fs_expr (fe_append (fe_v 2) (fa_cons (fe_cP h_done (hr.mono (by omega)) (takes_of rfl rfl rfl rfl) (fa_cons (fe_ix (un_of hr) (fe_ix (un_of hr) (fe_v 0) fe_int) (fe_v 3)) (fa_cons (fe_ix (un_of hr) (fe_v 2) (fe_un un_negW fe_int)) fa_nil))) fa_nil)))))
  (fs_one (fs_ret (fe_v 2)))))
def m_states_alongM : Sx := (sSeq (sAsg (.nm 2) (mSeq false false (mCons (mCall (oList false) (mCons (mOp oIx (eV 0) (eC (.int 2))) mNil)) mNil)))
  (sSeq (sFor (srSeq (eV 1)) (.nm 3) (sDrop (mMeth oAppend (eV 2) (mCons (mRaw f_doneM 2 (mCons (mOp oIx (mOp oIx (eV 0) (eC (.int 1))) (eV 3)) (mCons (mOp oIx (eV 2) (mUn oNeg (eC (.int 1)))) mNil))) mNil))))
  (sRet (eV 2))))
def f_states_alongM : FnW := rawOf 4 (m_states_alongM)
theorem ok_states_alongM (B : ∀ x ∈ blts, mg x = none) (D : Def K mg "states_along" s_states_along ["task", "indexes"]) (h_doneM : RawOk P w K mg base "done" s_done ["deed", "state"] 1 f_doneM) : RawOk P w K mg base "states_along" s_states_along ["task", "indexes"] 2 f_states_alongM :=
  raw_mk (k := 1) D sc_states_along fun f cdv A outer s H E hr =>
  (fs_cons (fs_asg (fe_seqL false (fa_cons (fe_callTy call_listW (B "list" (by decide)) (by decide +kernel) (fa_cons (fe_ix (un_of hr) (fe_v 0) fe_int) fa_nil)) fa_nil)) (fg_nm 2 sc_states_along.nd rfl (.inl rfl) (.inl rfl)))
  (fs_cons (fs_for PassesOwn.leaving rfl (fi_seq (fe_v 1)) (fg_nm 3 sc_states_along.nd rfl (.inl rfl) (.inl rfl)) (fs_one (fs_expr (fe_append (fe_v 2) (fa_cons (fe_cR h_doneM (hr.mono (by omega)) (takes_of rfl rfl rfl rfl) (fa_cons (fe_ix (un_of hr) (fe_ix (un_of hr) (fe_v 0) fe_int) (fe_v 3)) (fa_cons (fe_ix (un_of hr) (fe_v 2) (fe_un un_negW fe_int)) fa_nil))) fa_nil)))))
  (fs_one (fs_ret (fe_v 2)))))
theorem sc_run : FnScope ["task", "indexes"] ["task", "indexes"] (defScope s_run) := ⟨rfl, rfl, rfl, by decide +kernel, rfl, by decide +kernel, by decide +kernel⟩
def m_run : Sx := (sSeq (sDrop (mPure f_check_along 2 (mCons (eV 0) (mCons (eV 1) mNil))))
  (sRet (mPure f_states_along 2 (mCons (eV 0) (mCons (eV 1) mNil)))))
def f_run : List D → Pr := pureOf 2 (m_run)
theorem ok_run (B : ∀ x ∈ blts, mg x = none) (D : Def K mg "run" s_run ["task", "indexes"]) (h_check_along : PureOk P w K mg base "check_along" s_check_along ["task", "indexes"] 7 f_check_along) (h_states_along : PureOk P w K mg base "states_along" s_states_along ["task", "indexes"] 2 f_states_along) : PureOk P w K mg base "run" s_run ["task", "indexes"] 8 f_run :=
  pure_mk (k := 7) D sc_run fun f cdv A outer s H E hr =>
  (fs_cons (fs_expr (fe_cP h_check_along (hr.mono (by omega)) (takes_of rfl rfl rfl rfl) (fa_cons (fe_v 0) (fa_cons (fe_v 1) fa_nil))))
  (fs_one (fs_ret (fe_cP h_states_along (hr.mono (by omega)) (takes_of rfl rfl rfl rfl) (fa_cons (fe_v 0) (fa_cons (fe_v 1) fa_nil))))))
def m_runM : Sx := (sSeq (sDrop (mPure f_check_along 2 (mCons (eV 0) (mCons (eV 1) mNil))))
  (sRet (mRaw f_states_alongM 2 (mCons (eV 0) (mCons (eV 1) mNil)))))
def f_runM : FnW := rawOf 2 (m_runM)
theorem ok_runM (B : ∀ x ∈ blts, mg x = none) (D : Def K mg "run" s_run ["task", "indexes"]) (h_check_along : PureOk P w K mg base "check_along" s_check_along ["task", "indexes"] 7 f_check_along) (h_states_alongM : RawOk P w K mg base "states_along" s_states_along ["task", "indexes"] 2 f_states_alongM) : RawOk P w K mg base "run" s_run ["task", "indexes"] 8 f_runM :=
  raw_mk (k := 7) D sc_run fun f cdv A outer s H E hr =>
  (fs_cons (fs_expr (fe_cP h_check_along (hr.mono (by omega)) (takes_of rfl rfl rfl rfl) (fa_cons (fe_v 0) (fa_cons (fe_v 1) fa_nil))))
  (fs_one (fs_ret (fe_cR h_states_alongM (hr.mono (by omega)) (takes_of rfl rfl rfl rfl) (fa_cons (fe_v 0) (fa_cons (fe_v 1) fa_nil))))))
theorem sc_cost_of : FnScope ["task", "indexes", "index"] ["task", "indexes"] (defScope s_cost_of) := ⟨rfl, rfl, rfl, by decide +kernel, rfl, by decide +kernel, by decide +kernel⟩
def m_cost_of : Sx := (sRet (mCall oSum (mCons (mLc true (srSeq (eV 1)) (.nm 2) [2] tYesX (mOp oIx (mOp oIx (mOp oIx (eV 0) (eC (.int 1))) (eV 2)) (eC (.int 4)))) mNil)))
def f_cost_of : List D → Pr := pureOf 3 (m_cost_of)
theorem ok_cost_of (B : ∀ x ∈ blts, mg x = none) (D : Def K mg "cost_of" s_cost_of ["task", "indexes"]) : PureOk P w K mg base "cost_of" s_cost_of ["task", "indexes"] 1 f_cost_of :=
  pure_mk (k := 0) D sc_cost_of fun f cdv A outer s H E hr =>
  (fs_one (fs_ret (fe_callB (call_sumW rfl) (B "sum" (by decide)) (by decide +kernel) (fa_cons (fe_lc (own := [("index", 2)]) true rfl sc_cost_of.nd (fi_seq (fe_v 1)) (blkOk_by (by rfl)) (fun _ _ _ _ _ => (fg_nm 2 sc_cost_of.nd rfl (by first | exact .inl rfl | exact .inr rfl) (by first | exact .inr rfl | exact .inl rfl))) (fun _ _ _ _ _ => fts_nil) (fun _ _ _ _ _ => (fe_ix (un_of hr) (fe_ix (un_of hr) (fe_ix (un_of hr) (fe_v 0) fe_int) (fe_v 2)) fe_int))) fa_nil))))
theorem sc_cost : FnScope ["task", "indexes"] ["task", "indexes"] (defScope s_cost) := ⟨rfl, rfl, rfl, by decide +kernel, rfl, by decide +kernel, by decide +kernel⟩
def m_cost : Sx := (sSeq (sDrop (mPure f_check_along 2 (mCons (eV 0) (mCons (eV 1) mNil))))
  (sRet (mPure f_cost_of 2 (mCons (eV 0) (mCons (eV 1) mNil)))))
def f_cost : List D → Pr := pureOf 2 (m_cost)
theorem ok_cost (B : ∀ x ∈ blts, mg x = none) (D : Def K mg "cost" s_cost ["task", "indexes"]) (h_check_along : PureOk P w K mg base "check_along" s_check_along ["task", "indexes"] 7 f_check_along) (h_cost_of : PureOk P w K mg base "cost_of" s_cost_of ["task", "indexes"] 1 f_cost_of) : PureOk P w K mg base "cost" s_cost ["task", "indexes"] 8 f_cost :=
  pure_mk (k := 7) D sc_cost fun f cdv A outer s H E hr =>
  (fs_cons (fs_expr (fe_cP h_check_along (hr.mono (by omega)) (takes_of rfl rfl rfl rfl) (fa_cons (fe_v 0) (fa_cons (fe_v 1) fa_nil))))
  (fs_one (fs_ret (fe_cP h_cost_of (hr.mono (by omega)) (takes_of rfl rfl rfl rfl) (fa_cons (fe_v 0) (fa_cons (fe_v 1) fa_nil))))))
theorem sc_L_stream : FnScope ["script"] ["script"] (defScope s_L_stream) := ⟨rfl, rfl, rfl, by decide +kernel, rfl, by decide +kernel, by decide +kernel⟩
def m_L_stream : Sx := (sRet (mSeq false false (mCons (mCall (oList false) (mCons (eV 0) mNil)) (mCons (eC (.int 0)) (mCons (eC (.int 0)) (mCons (eC (.int 19)) mNil))))))
def f_L_stream : FnW := rawOf 1 (m_L_stream)
theorem ok_L_stream (B : ∀ x ∈ blts, mg x = none) (D : Def K mg "_law_stream" s_L_stream ["script"]) : RawOk P w K mg base "_law_stream" s_L_stream ["script"] 1 f_L_stream :=
  raw_mk (k := 0) D sc_L_stream fun f cdv A outer s H E hr =>
  (fs_one (fs_ret (fe_seqL false (fa_cons (fe_callTy call_listW (B "list" (by decide)) (by decide +kernel) (fa_cons (fe_v 0) fa_nil)) (fa_cons fe_int (fa_cons fe_int (fa_cons fe_int fa_nil)))))))
theorem sc_L_draw : FnScope ["stream", "many", "cell", "digit", "mixed"] ["stream", "many"] (defScope s_L_draw) := ⟨rfl, rfl, rfl, by decide +kernel, rfl, by decide +kernel, by decide +kernel⟩
def m_L_draw : Sx := (sSeq (sSet (eV 0) (eC (.int 2)) (mOp (oAdd true) (mOp oIx (eV 0) (eC (.int 2))) (eC (.int 1))))
  (sSeq (sWhile (fun _ _ => 100000) (mAnd (mT (mOp oEq (mOp oIx (eV 0) (eC (.int 1))) (eC (.int 0)))) (mT (mOp oNe (mOp oIx (eV 0) (eC (.int 0))) (mSeq true false mNil)))) (sSeq (sAsg (.nm 2) (mCall oAbs (mCons (mMeth oPopAt (mOp oIx (eV 0) (eC (.int 0))) (mCons (eC (.int 0)) mNil)) mNil)))
  (sSeq (sSet (eV 0) (eC (.int 3)) (mOp oMod (mCall oInt (mCons (mOp (oAdd true) (mOp (oAdd true) (mOp (oMul true) (mOp oIx (eV 0) (eC (.int 3))) (eC (.int 6151))) (eV 2)) (eC (.int 7))) mNil)) (eC (.int 2147483629))))
  (sSet (eV 0) (eC (.int 1)) (mIf (mT (mOp oGe (eV 2) (mOp oPow (eC (.int 10)) (eC (.int 18))))) (eV 2) (eC (.int 0)))))))
  (sSeq (sIf (mT (mOp oGt (mOp oIx (eV 0) (eC (.int 1))) (eC (.int 0)))) (sSeq (sAsg (.nm 3) (mOp oMod (mCall oInt (mCons (mOp oIx (eV 0) (eC (.int 1))) mNil)) (eV 1)))
  (sSeq (sSet (eV 0) (eC (.int 1)) (mOp oDiv (mOp oIx (eV 0) (eC (.int 1))) (eV 1)))
  (sRet (eV 3)))) sNext)
  (sSeq (sAsg (.nm 4) (mOp oMod (mCall oInt (mCons (mOp oPow (mOp (oAdd true) (mOp (oAdd true) (mOp oIx (eV 0) (eC (.int 3))) (mOp (oMul true) (eC (.int 8191)) (mOp oIx (eV 0) (eC (.int 2))))) (eC (.int 50021))) (eC (.int 5))) mNil)) (eC (.int 2147483587))))
  (sRet (mOp oMod (mOp oMod (mCall oInt (mCons (mOp oPow (mOp (oAdd true) (mOp (oAdd true) (mOp (oMul true) (eV 4) (eC (.int 40009))) (mOp (oMul true) (eC (.int 20011)) (mOp oIx (eV 0) (eC (.int 2))))) (eC (.int 31))) (eC (.int 3))) mNil)) (eC (.int 1000000009))) (eV 1)))))))
def f_L_draw : FnW := rawOf 5 (m_L_draw)
theorem ok_L_draw (B : ∀ x ∈ blts, mg x = none) (D : Def K mg "_law_draw" s_L_draw ["stream", "many"]) : RawOk P w K mg base "_law_draw" s_L_draw ["stream", "many"] 1 f_L_draw :=
  raw_mk (k := 0) D sc_L_draw fun f cdv A outer s H E hr =>
  (fs_cons (fs_set (hu_of hr) (fe_v 0) fe_int (fe_op op_addW (fe_ix (un_of hr) (fe_v 0) fe_int) fe_int))
  (fs_cons (fs_while (fun _ _ => 100000) PassesOwn.leaving (FW.ft (fw_and (ft_cmp (op_eqW (un_of hr)) (fe_ix (un_of hr) (fe_v 0) fe_int) fe_int) (fw_and1 (ft_cmp (op_neW (un_of hr)) (fe_ix (un_of hr) (fe_v 0) fe_int) (fe_seqL true fa_nil))))) (fs_cons (fs_asg (fe_callB call_absW (B "abs" (by decide)) (by decide +kernel) (fa_cons (fe_popAt (fe_ix (un_of hr) (fe_v 0) fe_int) (fa_cons fe_int fa_nil)) fa_nil)) (fg_nm 2 sc_L_draw.nd rfl (.inl rfl) (.inl rfl)))
  (fs_cons (fs_set (hu_of hr) (fe_v 0) fe_int (fe_op op_modW (fe_callTy call_intW (B "int" (by decide)) (by decide +kernel) (fa_cons (fe_op op_addW (fe_op op_addW (fe_op op_mulW2 (fe_ix (un_of hr) (fe_v 0) fe_int) fe_int) (fe_v 2)) fe_int) fa_nil)) fe_int))
  (fs_one (fs_set (hu_of hr) (fe_v 0) fe_int (fe_if (ft_cmp (op_geW (un_of hr)) (fe_v 2) (fe_op op_powW fe_int fe_int)) (fe_v 2) fe_int))))))
  (fs_cons (fs_if (ft_cmp (op_gtW (un_of hr)) (fe_ix (un_of hr) (fe_v 0) fe_int) fe_int) (fs_cons (fs_asg (fe_op op_modW (fe_callTy call_intW (B "int" (by decide)) (by decide +kernel) (fa_cons (fe_ix (un_of hr) (fe_v 0) fe_int) fa_nil)) (fe_v 1)) (fg_nm 3 sc_L_draw.nd rfl (.inl rfl) (.inl rfl)))
  (fs_cons (fs_set (hu_of hr) (fe_v 0) fe_int (fe_op op_divW (fe_ix (un_of hr) (fe_v 0) fe_int) (fe_v 1)))
  (fs_one (fs_ret (fe_v 3))))) fs_nil)
  (fs_cons (fs_asg (fe_op op_modW (fe_callTy call_intW (B "int" (by decide)) (by decide +kernel) (fa_cons (fe_op op_powW (fe_op op_addW (fe_op op_addW (fe_ix (un_of hr) (fe_v 0) fe_int) (fe_op op_mulW2 fe_int (fe_ix (un_of hr) (fe_v 0) fe_int))) fe_int) fe_int) fa_nil)) fe_int) (fg_nm 4 sc_L_draw.nd rfl (.inl rfl) (.inl rfl)))
  (fs_one (fs_ret (fe_op op_modW (fe_op op_modW (fe_callTy call_intW (B "int" (by decide)) (by decide +kernel) (fa_cons (fe_op op_powW (fe_op op_addW (fe_op op_addW (fe_op op_mulW2 (fe_v 4) fe_int) (fe_op op_mulW2 fe_int (fe_ix (un_of hr) (fe_v 0) fe_int))) fe_int) fe_int) fa_nil)) fe_int) (fe_v 1))))))))
theorem sc_L_pick : FnScope ["stream", "things"] ["stream", "things"] (defScope s_L_pick) := ⟨rfl, rfl, rfl, by decide +kernel, rfl, by decide +kernel, by decide +kernel⟩
def m_L_pick : Sx := (sRet (mOp oIx (eV 1) (mRaw f_L_draw 2 (mCons (eV 0) (mCons (mCall oLen (mCons (eV 1) mNil)) mNil)))))
def f_L_pick : FnW := rawOf 2 (m_L_pick)
theorem ok_L_pick (B : ∀ x ∈ blts, mg x = none) (D : Def K mg "_law_pick" s_L_pick ["stream", "things"]) (h_L_draw : RawOk P w K mg base "_law_draw" s_L_draw ["stream", "many"] 1 f_L_draw) : RawOk P w K mg base "_law_pick" s_L_pick ["stream", "things"] 2 f_L_pick :=
  raw_mk (k := 1) D sc_L_pick fun f cdv A outer s H E hr =>
  (fs_one (fs_ret (fe_ix (un_of hr) (fe_v 1) (fe_cR h_L_draw (hr.mono (by omega)) (takes_of rfl rfl rfl rfl) (fa_cons (fe_v 0) (fa_cons (fe_callB call_lenW (B "len" (by decide)) (by decide +kernel) (fa_cons (fe_v 1) fa_nil)) fa_nil))))))
theorem sc_L_same : FnScope ["found", "due", "mine", "theirs"] ["found", "due"] (defScope s_L_same) := ⟨rfl, rfl, rfl, by decide +kernel, rfl, by decide +kernel, by decide +kernel⟩
def m_L_same (ih : List D → Pr) : Sx := (sSeq (sIf (mT (mIs [.l, .t] (eV 1))) (sSeq (sIf (mOr (mT (mOp oNe (mIs [.l] (eV 0)) (mIs [.l] (eV 1)))) (mT (mOp oNe (mIs [.t] (eV 0)) (mIs [.t] (eV 1))))) (sRet (eC (.bl false))) sNext)
  (sRet (mAndV (mOp oEq (mCall oLen (mCons (eV 0) mNil)) (mCall oLen (mCons (eV 1) mNil))) (mCall oAll (mCons (mLc true (srZip (mCons (eV 0) (mCons (eV 1) mNil))) (.tp [(.nm 2), (.nm 3)]) [2, 3] tYesX (mPure ih 2 (mCons (eV 2) (mCons (eV 3) mNil)))) mNil))))) sNext)
  (sSeq (sIf (mT (mIs [.d] (eV 1))) (sRet (mAndV (mIs [.d] (eV 0)) (mPure ih 2 (mCons (mUn oItm (eV 0)) (mCons (mUn oItm (eV 1)) mNil))))) sNext)
  (sSeq (sIf (mOr (mT (mIs [.b] (eV 1))) (mT (mIs [.b] (eV 0)))) (sRet (mAndV (mIs [.b] (eV 1)) (mAndV (mIs [.b] (eV 0)) (mOp oEq (eV 0) (eV 1))))) sNext)
  (sSeq (sIf (mOr (mT (mOp (oIsN false) (eV 1) (eC .non))) (mT (mOp (oIsN false) (eV 0) (eC .non)))) (sRet (mAndV (mOp (oIsN false) (eV 1) (eC .non)) (mOp (oIsN false) (eV 0) (eC .non)))) sNext)
  (sSeq (sIf (mOr (mT (mOp oNe (mIs [.i] (eV 1)) (mIs [.i] (eV 0)))) (mT (mOp oNe (mIs [.s] (eV 1)) (mIs [.s] (eV 0))))) (sRet (eC (.bl false))) sNext)
  (sRet (mAndV (mNotV (mIs [.l, .t, .d] (eV 0))) (mOp oEq (eV 0) (eV 1)))))))))
def f_L_same (n : Nat) : List D → Pr := Nat.rec (fun _ => .bad) (fun _ ih => pureOf 4 (m_L_same ih)) n
theorem ok_L_same (B : ∀ x ∈ blts, mg x = none) (D : Def K mg "_law_same" s_L_same ["found", "due"]) : ∀ n, PureOk P w K mg base "_law_same" s_L_same ["found", "due"] (1 + n) (f_L_same n)
  | 0 => pure_bad D
  | n + 1 => have ih := ok_L_same B D n
    pure_mk (k := 1 + n) D sc_L_same fun f cdv A outer s H E hr =>
    (fs_cons (fs_if (ft_v (fe_is2 .l .t (B "isinstance" (by decide)) (B "list" (by decide)) (by decide +kernel) (B "tuple" (by decide)) (by decide +kernel) (fe_v 1))) (fs_cons (fs_if (FW.ft (fw_or (ft_cmp (op_neW (un_of hr)) (fe_is1 .l (B "isinstance" (by decide)) (B "list" (by decide)) (by decide +kernel) (fe_v 0)) (fe_is1 .l (B "isinstance" (by decide)) (B "list" (by decide)) (by decide +kernel) (fe_v 1))) (fw_or1 (ft_cmp (op_neW (un_of hr)) (fe_is1 .t (B "isinstance" (by decide)) (B "tuple" (by decide)) (by decide +kernel) (fe_v 0)) (fe_is1 .t (B "isinstance" (by decide)) (B "tuple" (by decide)) (by decide +kernel) (fe_v 1)))))) (fs_one (fs_ret fe_bl)) fs_nil)
  (fs_one (fs_ret (fe_and (fe_cmp (op_eqW (un_of hr)) (fe_callB call_lenW (B "len" (by decide)) (by decide +kernel) (fa_cons (fe_v 0) fa_nil)) (fe_callB call_lenW (B "len" (by decide)) (by decide +kernel) (fa_cons (fe_v 1) fa_nil))) (fe_one (fe_callB (call_allW rfl) (B "all" (by decide)) (by decide +kernel) (fa_cons (fe_lc (own := [("mine", 2), ("theirs", 3)]) true rfl sc_L_same.nd (fi_zip (B "zip" (by decide)) (fa_cons (fe_v 0) (fa_cons (fe_v 1) fa_nil))) (blkOk_by (by rfl)) (fun _ _ _ _ _ => (fg_tp rfl (fgs_cons (fg_nm 2 sc_L_same.nd rfl (by first | exact .inl rfl | exact .inr rfl) (by first | exact .inr rfl | exact .inl rfl)) (fgs_cons (fg_nm 3 sc_L_same.nd rfl (by first | exact .inl rfl | exact .inr rfl) (by first | exact .inr rfl | exact .inl rfl)) fgs_nil)))) (fun _ _ _ _ _ => fts_nil) (fun _ _ _ _ _ => (fe_cP ih (hr.mono (by omega)) takes0 (fa_cons (fe_v 2) (fa_cons (fe_v 3) fa_nil))))) fa_nil))))))) fs_nil)
  (fs_cons (fs_if (ft_v (fe_is1 .d (B "isinstance" (by decide)) (B "dict" (by decide)) (by decide +kernel) (fe_v 1))) (fs_one (fs_ret (fe_and (fe_is1 .d (B "isinstance" (by decide)) (B "dict" (by decide)) (by decide +kernel) (fe_v 0)) (fe_one (fe_cP ih (hr.mono (by omega)) (takes_of rfl rfl rfl rfl) (fa_cons (fe_items rfl (B "list" (by decide)) (fe_v 0)) (fa_cons (fe_items rfl (B "list" (by decide)) (fe_v 1)) fa_nil))))))) fs_nil)
  (fs_cons (fs_if (FW.ft (fw_or (ft_v (fe_is1 .b (B "isinstance" (by decide)) (B "bool" (by decide)) (by decide +kernel) (fe_v 1))) (fw_or1 (ft_v (fe_is1 .b (B "isinstance" (by decide)) (B "bool" (by decide)) (by decide +kernel) (fe_v 0)))))) (fs_one (fs_ret (fe_and (fe_is1 .b (B "isinstance" (by decide)) (B "bool" (by decide)) (by decide +kernel) (fe_v 1)) (fe_and (fe_is1 .b (B "isinstance" (by decide)) (B "bool" (by decide)) (by decide +kernel) (fe_v 0)) (fe_one (fe_cmp (op_eqW (un_of hr)) (fe_v 0) (fe_v 1))))))) fs_nil)
  (fs_cons (fs_if (FW.ft (fw_or (ft_cmp op_isNW (fe_v 1) fe_non) (fw_or1 (ft_cmp op_isNW (fe_v 0) fe_non)))) (fs_one (fs_ret (fe_and (fe_cmp op_isNW (fe_v 1) fe_non) (fe_one (fe_cmp op_isNW (fe_v 0) fe_non))))) fs_nil)
  (fs_cons (fs_if (FW.ft (fw_or (ft_cmp (op_neW (un_of hr)) (fe_is1 .i (B "isinstance" (by decide)) (B "int" (by decide)) (by decide +kernel) (fe_v 1)) (fe_is1 .i (B "isinstance" (by decide)) (B "int" (by decide)) (by decide +kernel) (fe_v 0))) (fw_or1 (ft_cmp (op_neW (un_of hr)) (fe_is1 .s (B "isinstance" (by decide)) (B "str" (by decide)) (by decide +kernel) (fe_v 1)) (fe_is1 .s (B "isinstance" (by decide)) (B "str" (by decide)) (by decide +kernel) (fe_v 0)))))) (fs_one (fs_ret fe_bl)) fs_nil)
  (fs_one (fs_ret (fe_and (fe_not (fe_is3 .l .t .d (B "isinstance" (by decide)) (B "list" (by decide)) (by decide +kernel) (B "tuple" (by decide)) (by decide +kernel) (B "dict" (by decide)) (by decide +kernel) (fe_v 0))) (fe_one (fe_cmp (op_eqW (un_of hr)) (fe_v 0) (fe_v 1)))))))))))
theorem sc_L_loose : FnScope ["stream", "thing", "some", "one"] ["stream", "thing"] (defScope s_L_loose) := ⟨rfl, rfl, rfl, by decide +kernel, rfl, by decide +kernel, by decide +kernel⟩
def m_L_loose (ih : FnW) : Sx := (sSeq (sIf (mT (mIs [.l, .t] (eV 1))) (sSeq (sAsg (.nm 2) (mLc true (srSeq (eV 1)) (.nm 3) [3] tYesX (mRaw ih 2 (mCons (eV 0) (mCons (eV 3) mNil)))))
  (sRet (mIf (mT (mOp oEq (mRaw f_L_draw 2 (mCons (eV 0) (mCons (eC (.int 2)) mNil))) (eC (.int 0)))) (eV 2) (mCall (oTuple true) (mCons (eV 2) mNil))))) sNext)
  (sRet (eV 1)))
def f_L_loose (n : Nat) : FnW := Nat.rec (fun _ _ => .bad) (fun _ ih => rawOf 4 (m_L_loose ih)) n
theorem ok_L_loose (B : ∀ x ∈ blts, mg x = none) (D : Def K mg "_law_loose" s_L_loose ["stream", "thing"]) (h_L_draw : RawOk P w K mg base "_law_draw" s_L_draw ["stream", "many"] 1 f_L_draw) : ∀ n, RawOk P w K mg base "_law_loose" s_L_loose ["stream", "thing"] (2 + n) (f_L_loose n)
  | 0 => raw_bad D
  | n + 1 => have ih := ok_L_loose B D h_L_draw n
    raw_mk (k := 2 + n) D sc_L_loose fun f cdv A outer s H E hr =>
    (fs_cons (fs_if (ft_v (fe_is2 .l .t (B "isinstance" (by decide)) (B "list" (by decide)) (by decide +kernel) (B "tuple" (by decide)) (by decide +kernel) (fe_v 1))) (fs_cons (fs_setLc (own := [("one", 3)]) true rfl sc_L_loose.nd rfl rfl (sw_true rfl rfl rfl rfl) (fi_seq (fe_v 1)) (blkOk_by (by rfl)) (fun _ _ _ _ _ => (fg_nm 3 sc_L_loose.nd rfl (by first | exact .inl rfl | exact .inr rfl) (by first | exact .inr rfl | exact .inl rfl))) (fun _ _ _ _ _ => fts_nil) (fun _ _ _ _ _ => (fe_cR ih (hr.mono (by omega)) takes0 (fa_cons (fe_v 0) (fa_cons (fe_v 3) fa_nil)))))
  (fs_one (fs_ret (fe_if (ft_cmp (op_eqW (un_of hr)) (fe_cR h_L_draw (hr.mono (by omega)) (takes_of rfl rfl rfl rfl) (fa_cons (fe_v 0) (fa_cons fe_int fa_nil))) fe_int) (fe_v 2) (fe_callTy call_tupleW (B "tuple" (by decide)) (by decide +kernel) (fa_cons (fe_v 2) fa_nil)))))) fs_nil)
  (fs_one (fs_ret (fe_v 1))))
theorem sc_L_copied : FnScope ["thing", "some", "one", "key"] ["thing"] (defScope s_L_copied) := ⟨rfl, rfl, rfl, by decide +kernel, rfl, by decide +kernel, by decide +kernel⟩
def m_L_copied (ih : List D → Pr) : Sx := (sSeq (sIf (mT (mIs [.l, .t] (eV 0))) (sSeq (sAsg (.nm 1) (mLc true (srSeq (eV 0)) (.nm 2) [2] tYesX (mPure ih 1 (mCons (eV 2) mNil))))
  (sRet (mIf (mT (mIs [.l] (eV 0))) (eV 1) (mCall (oTuple true) (mCons (eV 1) mNil))))) sNext)
  (sSeq (sIf (mT (mIs [.d] (eV 0))) (sRet (mCall (oDict true) (mCons (mLcK true 0 (.nm 3) [3] tYesX (mSeq true true (mCons (eV 3) (mCons (mPure ih 1 (mCons (mOp oIx (eV 0) (eV 3)) mNil)) mNil)))) mNil))) sNext)
  (sRet (eV 0))))
def f_L_copied (n : Nat) : List D → Pr := Nat.rec (fun _ => .bad) (fun _ ih => pureOf 4 (m_L_copied ih)) n
theorem ok_L_copied (B : ∀ x ∈ blts, mg x = none) (D : Def K mg "_law_copied" s_L_copied ["thing"]) : ∀ n, PureOk P w K mg base "_law_copied" s_L_copied ["thing"] (1 + n) (f_L_copied n)
  | 0 => pure_bad D
  | n + 1 => have ih := ok_L_copied B D n
    pure_mk (k := 1 + n) D sc_L_copied fun f cdv A outer s H E hr =>
    (fs_cons (fs_if (ft_v (fe_is2 .l .t (B "isinstance" (by decide)) (B "list" (by decide)) (by decide +kernel) (B "tuple" (by decide)) (by decide +kernel) (fe_v 0))) (fs_cons (fs_setLc (own := [("one", 2)]) true rfl sc_L_copied.nd rfl rfl (sw_true rfl rfl rfl rfl) (fi_seq (fe_v 0)) (blkOk_by (by rfl)) (fun _ _ _ _ _ => (fg_nm 2 sc_L_copied.nd rfl (by first | exact .inl rfl | exact .inr rfl) (by first | exact .inr rfl | exact .inl rfl))) (fun _ _ _ _ _ => fts_nil) (fun _ _ _ _ _ => (fe_cP ih (hr.mono (by omega)) takes0 (fa_cons (fe_v 2) fa_nil))))
  (fs_one (fs_ret (fe_if (ft_v (fe_is1 .l (B "isinstance" (by decide)) (B "list" (by decide)) (by decide +kernel) (fe_v 0))) (fe_v 1) (fe_callTy call_tupleW (B "tuple" (by decide)) (by decide +kernel) (fa_cons (fe_v 1) fa_nil)))))) fs_nil)
  (fs_cons (fs_if (ft_v (fe_is1 .d (B "isinstance" (by decide)) (B "dict" (by decide)) (by decide +kernel) (fe_v 0))) (fs_one (fs_ret (fe_callTy (call_dictW rfl true) (B "dict" (by decide)) (by decide +kernel) (fa_cons (fe_lcK (own := [("key", 3)]) true rfl sc_L_copied.nd rfl (by first | exact Or.inl rfl | exact Or.inr (Or.inl rfl) | exact Or.inr (Or.inr rfl)) (blkOk_by (by rfl)) (fun _ _ _ _ _ => (fg_nm 3 sc_L_copied.nd rfl (by first | exact .inl rfl | exact .inr rfl) (by first | exact .inr rfl | exact .inl rfl))) (fun _ _ _ _ _ => fts_nil) (fun _ _ _ _ _ => (fe_seqT true (fa_cons (fe_v 3) (fa_cons (fe_cP ih (hr.mono (by omega)) takes0 (fa_cons (fe_ix (un_of hr) (fe_v 0) (fe_v 3)) fa_nil)) fa_nil))))) fa_nil)))) fs_nil)
  (fs_one (fs_ret (fe_v 0)))))
theorem sc_L_spoilt : FnScope ["thing", "key", "part"] ["thing"] (defScope s_L_spoilt) := ⟨rfl, rfl, rfl, by decide +kernel, rfl, by decide +kernel, by decide +kernel⟩
def m_L_spoilt (ih : FnW) : Sx := (sSeq (sIf (mT (mIs [.d] (eV 0))) (sSeq (sFor (srSeq (mCall (oList true) (mCons (eV 0) mNil))) (.nm 1) (sDrop (mRaw ih 1 (mCons (mOp oIx (eV 0) (eV 1)) mNil))))
  (sSet (eV 0) (eC (.str "late")) (eC (.int 1)))) sNext)
  (sSeq (sIf (mT (mIs [.l, .t] (eV 0))) (sFor (srSeq (eV 0)) (.nm 2) (sDrop (mRaw ih 1 (mCons (eV 2) mNil)))) sNext)
  (sIf (mT (mIs [.l] (eV 0))) (sDrop (mMeth oAppend (eV 0) (mCons (eC (.str "late")) mNil))) sNext)))
def f_L_spoilt (n : Nat) : FnW := Nat.rec (fun _ _ => .bad) (fun _ ih => rawOf 3 (m_L_spoilt ih)) n
theorem ok_L_spoilt (B : ∀ x ∈ blts, mg x = none) (D : Def K mg "_law_spoilt" s_L_spoilt ["thing"]) : ∀ n, RawOk P w K mg base "_law_spoilt" s_L_spoilt ["thing"] (1 + n) (f_L_spoilt n)
  | 0 => raw_bad D
  | n + 1 => have ih := ok_L_spoilt B D n
    raw_mk (k := 1 + n) D sc_L_spoilt fun f cdv A outer s H E hr =>
    (fs_cons (fs_if (ft_v (fe_is1 .d (B "isinstance" (by decide)) (B "dict" (by decide)) (by decide +kernel) (fe_v 0))) (fs_cons (fs_for PassesOwn.leaving rfl (fi_seq (fe_callTy call_listW (B "list" (by decide)) (by decide +kernel) (fa_cons (fe_v 0) fa_nil))) (fg_nm 1 sc_L_spoilt.nd rfl (.inl rfl) (.inl rfl)) (fs_one (fs_expr (fe_cR ih (hr.mono (by omega)) (takes_of rfl rfl rfl rfl) (fa_cons (fe_ix (un_of hr) (fe_v 0) (fe_v 1)) fa_nil)))))
  (fs_one (fs_set (hu_of hr) (fe_v 0) fe_str fe_int))) fs_nil)
  (fs_cons (fs_if (ft_v (fe_is2 .l .t (B "isinstance" (by decide)) (B "list" (by decide)) (by decide +kernel) (B "tuple" (by decide)) (by decide +kernel) (fe_v 0))) (fs_one (fs_for PassesOwn.leaving rfl (fi_seq (fe_v 0)) (fg_nm 2 sc_L_spoilt.nd rfl (.inl rfl) (.inl rfl)) (fs_one (fs_expr (fe_cR ih (hr.mono (by omega)) (takes_of rfl rfl rfl rfl) (fa_cons (fe_v 2) fa_nil)))))) fs_nil)
  (fs_one (fs_if (ft_v (fe_is1 .l (B "isinstance" (by decide)) (B "list" (by decide)) (by decide +kernel) (fe_v 0))) (fs_one (fs_expr (fe_append (fe_v 0) (fa_cons fe_str fa_nil)))) fs_nil))))
theorem sc_L_is_whole : FnScope ["thing"] ["thing"] (defScope s_L_is_whole) := ⟨rfl, rfl, rfl, by decide +kernel, rfl, by decide +kernel, by decide +kernel⟩
def m_L_is_whole : Sx := (sRet (mAndV (mIs [.i] (eV 0)) (mNotV (mIs [.b] (eV 0)))))
def f_L_is_whole : List D → Pr := pureOf 1 (m_L_is_whole)
theorem ok_L_is_whole (B : ∀ x ∈ blts, mg x = none) (D : Def K mg "_law_is_whole" s_L_is_whole ["thing"]) : PureOk P w K mg base "_law_is_whole" s_L_is_whole ["thing"] 1 f_L_is_whole :=
  pure_mk (k := 0) D sc_L_is_whole fun f cdv A outer s H E hr =>
  (fs_one (fs_ret (fe_and (fe_is1 .i (B "isinstance" (by decide)) (B "int" (by decide)) (by decide +kernel) (fe_v 0)) (fe_one (fe_not (fe_is1 .b (B "isinstance" (by decide)) (B "bool" (by decide)) (by decide +kernel) (fe_v 0)))))))
theorem sc_L_some : FnScope ["stream", "facts", "rare", "fact"] ["stream", "facts", "rare"] (defScope s_L_some) := ⟨rfl, rfl, rfl, by decide +kernel, rfl, by decide +kernel, by decide +kernel⟩
def m_L_some : Sx := (sRet (mLc true (srSeq (eV 1)) (.nm 3) [3] (mT (mOp oEq (mRaw f_L_draw 2 (mCons (eV 0) (mCons (eV 2) mNil))) (eC (.int 0)))) (eV 3)))
def f_L_some : FnW := rawOf 4 (m_L_some)
theorem ok_L_some (B : ∀ x ∈ blts, mg x = none) (D : Def K mg "_law_some" s_L_some ["stream", "facts", "rare"]) (h_L_draw : RawOk P w K mg base "_law_draw" s_L_draw ["stream", "many"] 1 f_L_draw) : RawOk P w K mg base "_law_some" s_L_some ["stream", "facts", "rare"] 2 f_L_some :=
  raw_mk (k := 1) D sc_L_some fun f cdv A outer s H E hr =>
  (fs_one (fs_ret (fe_lc (own := [("fact", 3)]) true rfl sc_L_some.nd (fi_seq (fe_v 1)) (blkOk_by (by rfl)) (fun _ _ _ _ _ => (fg_nm 3 sc_L_some.nd rfl (by first | exact .inl rfl | exact .inr rfl) (by first | exact .inr rfl | exact .inl rfl))) (fun _ _ _ _ _ => (fts_one (ft_cmp (op_eqW (un_of hr)) (fe_cR h_L_draw (hr.mono (by omega)) takes0 (fa_cons (fe_v 0) (fa_cons (fe_v 2) fa_nil))) fe_int))) (fun _ _ _ _ _ => (fe_v 3)))))
theorem sc_L_task : FnScope ["stream", "most", "names", "facts", "way", "deeds", "free", "k", "needs", "puts", "takes", "one", "two", "start", "goal", "name"] ["stream", "most"] (defScope s_L_task) := ⟨rfl, rfl, rfl, by decide +kernel, rfl, by decide +kernel, by decide +kernel⟩
def m_L_task : Sx := (sSeq (sAsg (.nm 2) (mSl true (mSeq true false (mCons (eC (.str "a")) (mCons (eC (.str "at_b")) (mCons (eC (.str "b_c")) (mCons (eC (.str "c")) (mCons (eC (.str "dd")) (mCons (eC (.str "e_f_g")) (mCons (eC (.str "h")) mNil)))))))) mP0 (mP (eV 1))))
  (sSeq (sAsg (.nm 3) (mLc true (srSeq (eV 2)) (.nm 15) [15] (mT (mOp oGt (mRaw f_L_draw 2 (mCons (eV 0) (mCons (eC (.int 5)) mNil))) (eC (.int 0)))) (eV 15)))
  (sSeq (sPar2 4 5 (mCons (mRaw f_L_draw 2 (mCons (eV 0) (mCons (eC (.int 4)) mNil))) (mCons (mSeq false false mNil) mNil)))
  (sSeq (sAsg (.nm 6) (mRaw f_L_pick 2 (mCons (eV 0) (mCons (mSeq true false (mCons (eC (.int 1)) (mCons (eC (.int 5)) (mCons (eC (.int 20)) mNil)))) mNil))))
  (sSeq (sFor (srRng1 (mCons (mRaw f_L_draw 2 (mCons (eV 0) (mCons (eC (.int 9)) mNil))) mNil)) (.nm 7) (sSeq (sPar3 8 9 10 (mCons (mRaw f_L_some 3 (mCons (eV 0) (mCons (eV 3) (mCons (eC (.int 3)) mNil)))) (mCons (mRaw f_L_some 3 (mCons (eV 0) (mCons (eV 3) (mCons (eC (.int 3)) mNil)))) (mCons (mRaw f_L_some 3 (mCons (eV 0) (mCons (eV 3) (mCons (eC (.int 3)) mNil)))) mNil))))
  (sSeq (sIf (mAnd (mT (mOp oEq (eV 4) (eC (.int 0)))) (mT (mOp oGt (mCall oLen (mCons (eV 3) mNil)) (eC (.int 1))))) (sSeq (sPar2 11 12 (mCons (mRaw f_L_pick 2 (mCons (eV 0) (mCons (eV 3) mNil))) (mCons (mRaw f_L_pick 2 (mCons (eV 0) (mCons (eV 3) mNil))) mNil)))
  (sPar3 8 9 10 (mCons (mSeq true false (mCons (eV 11) mNil)) (mCons (mSeq true false (mCons (eV 12) mNil)) (mCons (mSeq true false (mCons (eV 11) mNil)) mNil))))) sNext)
  (sSeq (sIf (mT (mOp oEq (eV 4) (eC (.int 1)))) (sAsg (.nm 10) (mIf (mT (mOp oEq (mRaw f_L_draw 2 (mCons (eV 0) (mCons (eC (.int 3)) mNil))) (eC (.int 0)))) (eV 10) (mSeq true false mNil))) sNext)
  (sDrop (mMeth oAppend (eV 5) (mCons (mSeq true true (mCons (mOp (oAdd true) (eC (.str "do_")) (mOp oIx (eC (.str "abcdefghi")) (eV 7))) (mCons (eV 8) (mCons (eV 9) (mCons (eV 10) (mCons (mRaw f_L_draw 2 (mCons (eV 0) (mCons (mOp (oAdd true) (eV 6) (eC (.int 1))) mNil))) mNil)))))) mNil)))))))
  (sSeq (sPar2 13 14 (mCons (mRaw f_L_some 3 (mCons (eV 0) (mCons (eV 3) (mCons (eC (.int 3)) mNil)))) (mCons (mRaw f_L_some 3 (mCons (eV 0) (mCons (eV 3) (mCons (mRaw f_L_pick 2 (mCons (eV 0) (mCons (mSeq true false (mCons (eC (.int 2)) (mCons (eC (.int 3)) (mCons (eC (.int 5)) mNil)))) mNil))) mNil)))) mNil)))
  (sSeq (sIf (mAnd (mT (mOp oEq (eV 4) (eC (.int 0)))) (mT (mOp oNe (eV 3) (mSeq true false mNil)))) (sPar2 13 14 (mCons (mSeq true false (mCons (mRaw f_L_pick 2 (mCons (eV 0) (mCons (eV 3) mNil))) mNil)) (mCons (mSeq true false (mCons (mRaw f_L_pick 2 (mCons (eV 0) (mCons (eV 3) mNil))) mNil)) mNil))) sNext)
  (sRet (mSeq true true (mCons (eV 3) (mCons (eV 5) (mCons (eV 13) (mCons (eV 14) mNil)))))))))))))
def f_L_task : FnW := (normF (rawOf 16 (m_L_task)))
theorem ok_L_task (B : ∀ x ∈ blts, mg x = none) (D : Def K mg "_law_task" s_L_task ["stream", "most"]) (h_L_draw : RawOk P w K mg base "_law_draw" s_L_draw ["stream", "many"] 1 f_L_draw) (h_L_pick : RawOk P w K mg base "_law_pick" s_L_pick ["stream", "things"] 2 f_L_pick) (h_L_some : RawOk P w K mg base "_law_some" s_L_some ["stream", "facts", "rare"] 2 f_L_some) : RawOk P w K mg base "_law_task" s_L_task ["stream", "most"] 3 f_L_task :=
  RawOk.norm <| raw_mk (k := 2) D sc_L_task fun f cdv A outer s H E hr =>
  (fs_cons (fs_asg (fe_sl true (fe_seqL true (fa_cons fe_str (fa_cons fe_str (fa_cons fe_str (fa_cons fe_str (fa_cons fe_str (fa_cons fe_str (fa_cons fe_str fa_nil)))))))) fo_0 (fo_1 (fe_v 1))) (fg_nm 2 sc_L_task.nd rfl (.inl rfl) (.inl rfl)))
  (fs_cons (fs_setLc (own := [("name", 15)]) true rfl sc_L_task.nd rfl rfl (sw_true rfl rfl rfl rfl) (fi_seq (fe_v 2)) (blkOk_by (by rfl)) (fun _ _ _ _ _ => (fg_nm 15 sc_L_task.nd rfl (by first | exact .inl rfl | exact .inr rfl) (by first | exact .inr rfl | exact .inl rfl))) (fun _ _ _ _ _ => (fts_one (ft_cmp (op_gtW (un_of hr)) (fe_cR h_L_draw (hr.mono (by omega)) takes0 (fa_cons (fe_v 0) (fa_cons fe_int fa_nil))) fe_int))) (fun _ _ _ _ _ => (fe_v 15)))
  (fs_cons (fs_par2 rfl sc_L_task.nd rfl rfl (by decide) rfl rfl (fa_cons (fe_cR h_L_draw (hr.mono (by omega)) (takes_of rfl rfl rfl rfl) (fa_cons (fe_v 0) (fa_cons fe_int fa_nil))) (fa_cons (fe_seqL false fa_nil) fa_nil)) (by rfl))
  (fs_cons (fs_asg (fe_cR h_L_pick (hr.mono (by omega)) (takes_of rfl rfl rfl rfl) (fa_cons (fe_v 0) (fa_cons (fe_seqL true (fa_cons fe_int (fa_cons fe_int (fa_cons fe_int fa_nil)))) fa_nil))) (fg_nm 6 sc_L_task.nd rfl (.inl rfl) (.inl rfl)))
  (fs_cons (fs_for PassesOwn.leaving rfl (fi_rng1 (B "range" (by decide)) (fa_cons (fe_cR h_L_draw (hr.mono (by omega)) (takes_of rfl rfl rfl rfl) (fa_cons (fe_v 0) (fa_cons fe_int fa_nil))) fa_nil)) (fg_nm 7 sc_L_task.nd rfl (.inl rfl) (.inl rfl)) (fs_cons (fs_par3 rfl sc_L_task.nd rfl rfl rfl (by decide) (by decide) (by decide) rfl rfl rfl (fa_cons (fe_cR h_L_some (hr.mono (by omega)) (takes_of rfl rfl rfl rfl) (fa_cons (fe_v 0) (fa_cons (fe_v 3) (fa_cons fe_int fa_nil)))) (fa_cons (fe_cR h_L_some (hr.mono (by omega)) (takes_of rfl rfl rfl rfl) (fa_cons (fe_v 0) (fa_cons (fe_v 3) (fa_cons fe_int fa_nil)))) (fa_cons (fe_cR h_L_some (hr.mono (by omega)) (takes_of rfl rfl rfl rfl) (fa_cons (fe_v 0) (fa_cons (fe_v 3) (fa_cons fe_int fa_nil)))) fa_nil))) (by rfl))
  (fs_cons (fs_if (FW.ft (fw_and (ft_cmp (op_eqW (un_of hr)) (fe_v 4) fe_int) (fw_and1 (ft_cmp (op_gtW (un_of hr)) (fe_callB call_lenW (B "len" (by decide)) (by decide +kernel) (fa_cons (fe_v 3) fa_nil)) fe_int)))) (fs_cons (fs_par2 rfl sc_L_task.nd rfl rfl (by decide) rfl rfl (fa_cons (fe_cR h_L_pick (hr.mono (by omega)) (takes_of rfl rfl rfl rfl) (fa_cons (fe_v 0) (fa_cons (fe_v 3) fa_nil))) (fa_cons (fe_cR h_L_pick (hr.mono (by omega)) (takes_of rfl rfl rfl rfl) (fa_cons (fe_v 0) (fa_cons (fe_v 3) fa_nil))) fa_nil)) (by rfl))
  (fs_one (fs_par3 rfl sc_L_task.nd rfl rfl rfl (by decide) (by decide) (by decide) rfl rfl rfl (fa_cons (fe_seqL true (fa_cons (fe_v 11) fa_nil)) (fa_cons (fe_seqL true (fa_cons (fe_v 12) fa_nil)) (fa_cons (fe_seqL true (fa_cons (fe_v 11) fa_nil)) fa_nil))) (by rfl)))) fs_nil)
  (fs_cons (fs_if (ft_cmp (op_eqW (un_of hr)) (fe_v 4) fe_int) (fs_one (fs_asg (fe_if (ft_cmp (op_eqW (un_of hr)) (fe_cR h_L_draw (hr.mono (by omega)) (takes_of rfl rfl rfl rfl) (fa_cons (fe_v 0) (fa_cons fe_int fa_nil))) fe_int) (fe_v 10) (fe_seqL true fa_nil)) (fg_nm 10 sc_L_task.nd rfl (.inl rfl) (.inl rfl)))) fs_nil)
  (fs_one (fs_expr (fe_append (fe_v 5) (fa_cons (fe_seqT true (fa_cons (fe_op op_addW fe_str (fe_ix (un_of hr) fe_str (fe_v 7))) (fa_cons (fe_v 8) (fa_cons (fe_v 9) (fa_cons (fe_v 10) (fa_cons (fe_cR h_L_draw (hr.mono (by omega)) (takes_of rfl rfl rfl rfl) (fa_cons (fe_v 0) (fa_cons (fe_op op_addW (fe_v 6) fe_int) fa_nil))) fa_nil)))))) fa_nil))))))))
  (fs_cons (fs_par2 rfl sc_L_task.nd rfl rfl (by decide) rfl rfl (fa_cons (fe_cR h_L_some (hr.mono (by omega)) (takes_of rfl rfl rfl rfl) (fa_cons (fe_v 0) (fa_cons (fe_v 3) (fa_cons fe_int fa_nil)))) (fa_cons (fe_cR h_L_some (hr.mono (by omega)) (takes_of rfl rfl rfl rfl) (fa_cons (fe_v 0) (fa_cons (fe_v 3) (fa_cons (fe_cR h_L_pick (hr.mono (by omega)) (takes_of rfl rfl rfl rfl) (fa_cons (fe_v 0) (fa_cons (fe_seqL true (fa_cons fe_int (fa_cons fe_int (fa_cons fe_int fa_nil)))) fa_nil))) fa_nil)))) fa_nil)) (by rfl))
  (fs_cons (fs_if (FW.ft (fw_and (ft_cmp (op_eqW (un_of hr)) (fe_v 4) fe_int) (fw_and1 (ft_cmp (op_neW (un_of hr)) (fe_v 3) (fe_seqL true fa_nil))))) (fs_one (fs_par2 rfl sc_L_task.nd rfl rfl (by decide) rfl rfl (fa_cons (fe_seqL true (fa_cons (fe_cR h_L_pick (hr.mono (by omega)) (takes_of rfl rfl rfl rfl) (fa_cons (fe_v 0) (fa_cons (fe_v 3) fa_nil))) fa_nil)) (fa_cons (fe_seqL true (fa_cons (fe_cR h_L_pick (hr.mono (by omega)) (takes_of rfl rfl rfl rfl) (fa_cons (fe_v 0) (fa_cons (fe_v 3) fa_nil))) fa_nil)) fa_nil)) (by rfl))) fs_nil)
  (fs_one (fs_ret (fe_seqT true (fa_cons (fe_v 3) (fa_cons (fe_v 5) (fa_cons (fe_v 13) (fa_cons (fe_v 14) fa_nil))))))))))))))
theorem sc_L_handed : FnScope ["stream", "task"] ["stream", "task"] (defScope s_L_handed) := ⟨rfl, rfl, rfl, by decide +kernel, rfl, by decide +kernel, by decide +kernel⟩
def m_L_handed : Sx := (sRet (mRaw (f_L_loose 8) 2 (mCons (eV 0) (mCons (mPure (f_L_copied 8) 1 (mCons (eV 1) mNil)) mNil))))
def f_L_handed : FnW := rawOf 2 (m_L_handed)
theorem ok_L_handed (B : ∀ x ∈ blts, mg x = none) (D : Def K mg "_law_handed" s_L_handed ["stream", "task"]) (h_L_loose : RawOk P w K mg base "_law_loose" s_L_loose ["stream", "thing"] 10 (f_L_loose 8)) (h_L_copied : PureOk P w K mg base "_law_copied" s_L_copied ["thing"] 9 (f_L_copied 8)) : RawOk P w K mg base "_law_handed" s_L_handed ["stream", "task"] 11 f_L_handed :=
  raw_mk (k := 10) D sc_L_handed fun f cdv A outer s H E hr =>
  (fs_one (fs_ret (fe_cR h_L_loose (hr.mono (by omega)) (takes_of rfl rfl rfl rfl) (fa_cons (fe_v 0) (fa_cons (fe_cP h_L_copied (hr.mono (by omega)) (takes_of rfl rfl rfl rfl) (fa_cons (fe_v 1) fa_nil)) fa_nil)))))
theorem sc_L_open : FnScope ["task", "state", "k", "deed", "fact"] ["task", "state"] (defScope s_L_open) := ⟨rfl, rfl, rfl, by decide +kernel, rfl, by decide +kernel, by decide +kernel⟩
def m_L_open : Sx := (sRet (mLc true (srEnum (mOp oIx (eV 0) (eC (.int 1)))) (.tp [(.nm 2), (.nm 3)]) [2, 3] (mT (mCall oAll (mCons (mLc true (srSeq (mOp oIx (eV 3) (eC (.int 1)))) (.nm 4) [4] tYesX (mOp (oIn false) (eV 4) (eV 1))) mNil))) (eV 2)))
def f_L_open : List D → Pr := pureOf 5 (m_L_open)
theorem ok_L_open (B : ∀ x ∈ blts, mg x = none) (D : Def K mg "_law_open" s_L_open ["task", "state"]) : PureOk P w K mg base "_law_open" s_L_open ["task", "state"] 1 f_L_open :=
  pure_mk (k := 0) D sc_L_open fun f cdv A outer s H E hr =>
  (fs_one (fs_ret (fe_lc (own := [("k", 2), ("deed", 3)]) true rfl sc_L_open.nd (fi_enum (B "enumerate" (by decide)) (fe_ix (un_of hr) (fe_v 0) fe_int)) (blkOk_by (by rfl)) (fun _ _ _ _ _ => (fg_tp rfl (fgs_cons (fg_nm 2 sc_L_open.nd rfl (by first | exact .inl rfl | exact .inr rfl) (by first | exact .inr rfl | exact .inl rfl)) (fgs_cons (fg_nm 3 sc_L_open.nd rfl (by first | exact .inl rfl | exact .inr rfl) (by first | exact .inr rfl | exact .inl rfl)) fgs_nil)))) (fun _ _ _ _ _ => (fts_one (ft_v (fe_callB (call_allW rfl) (B "all" (by decide)) (by decide +kernel) (fa_cons (fe_lc (own := [("fact", 4)]) true rfl sc_L_open.nd (fi_seq (fe_ix (un_of hr) (fe_v 3) fe_int)) (blkOk_by (by rfl)) (fun _ _ _ _ _ => (fg_nm 4 sc_L_open.nd rfl (by first | exact .inl rfl | exact .inr rfl) (by first | exact .inr rfl | exact .inl rfl))) (fun _ _ _ _ _ => fts_nil) (fun _ _ _ _ _ => (fe_cmp (op_inW (un_of hr)) (fe_v 4) (fe_v 1)))) fa_nil))))) (fun _ _ _ _ _ => (fe_v 2)))))
theorem sc_L_after : FnScope ["task", "state", "index", "name", "needs", "puts", "takes", "price", "fact"] ["task", "state", "index"] (defScope s_L_after) := ⟨rfl, rfl, rfl, by decide +kernel, rfl, by decide +kernel, by decide +kernel⟩
def m_L_after : Sx := (sSeq (sAsg (.tp [(.nm 3), (.nm 4), (.nm 5), (.nm 6), (.nm 7)]) (mOp oIx (mOp oIx (eV 0) (eC (.int 1))) (eV 2)))
  (sRet (mLc true (srSeq (mOp oIx (eV 0) (eC (.int 0)))) (.nm 8) [8] (mOr (mT (mOp (oIn false) (eV 8) (eV 5))) (mAnd (mT (mOp (oIn false) (eV 8) (eV 1))) (mT (mOp (oIn true) (eV 8) (eV 6))))) (eV 8))))
def f_L_after : List D → Pr := pureOf 9 (m_L_after)
theorem ok_L_after (B : ∀ x ∈ blts, mg x = none) (D : Def K mg "_law_after" s_L_after ["task", "state", "index"]) : PureOk P w K mg base "_law_after" s_L_after ["task", "state", "index"] 1 f_L_after :=
  pure_mk (k := 0) D sc_L_after fun f cdv A outer s H E hr =>
  (fs_cons (fs_asg (fe_ix (un_of hr) (fe_ix (un_of hr) (fe_v 0) fe_int) (fe_v 2)) (fg_tp rfl (fgs_cons (fg_nm 3 sc_L_after.nd rfl (.inl rfl) (.inl rfl)) (fgs_cons (fg_nm 4 sc_L_after.nd rfl (.inl rfl) (.inl rfl)) (fgs_cons (fg_nm 5 sc_L_after.nd rfl (.inr rfl) (.inl rfl)) (fgs_cons (fg_nm 6 sc_L_after.nd rfl (.inr rfl) (.inl rfl)) (fgs_cons (fg_nm 7 sc_L_after.nd rfl (.inl rfl) (.inl rfl)) fgs_nil)))))))
  (fs_one (fs_ret (fe_lc (own := [("fact", 8)]) true rfl sc_L_after.nd (fi_seq (fe_ix (un_of hr) (fe_v 0) fe_int)) (blkOk_by (by rfl)) (fun _ _ _ _ _ => (fg_nm 8 sc_L_after.nd rfl (by first | exact .inl rfl | exact .inr rfl) (by first | exact .inr rfl | exact .inl rfl))) (fun _ _ _ _ _ => (fts_one (FW.ft (fw_or (ft_cmp (op_inW (un_of hr)) (fe_v 8) (fe_v 5)) (fw_or1 (FW.ft (fw_and (ft_cmp (op_inW (un_of hr)) (fe_v 8) (fe_v 1)) (fw_and1 (ft_cmp (op_notInW (un_of hr)) (fe_v 8) (fe_v 6)))))))))) (fun _ _ _ _ _ => (fe_v 8))))))
theorem sc_L_along : FnScope ["task", "thing", "state", "place", "index", "lack", "fact"] ["task", "thing"] (defScope s_L_along) := ⟨rfl, rfl, rfl, by decide +kernel, rfl, by decide +kernel, by decide +kernel⟩
def m_L_along : Sx := (sSeq (sIf (mOr (mNot (mT (mIs [.l, .t] (eV 1)))) (mNot (mT (mCall oAll (mCons (mLc true (srSeq (eV 1)) (.nm 4) [4] tYesX (mAndV (mPure f_L_is_whole 1 (mCons (eV 4) mNil)) (mOp oGe (eV 4) (eC (.int 0))))) mNil))))) (sRet (mSeq true true (mCons (mSeq true true (mCons (eC (.str "form")) mNil)) (mCons (eC .non) mNil)))) sNext)
  (sSeq (sAsg (.nm 2) (mCall (oList true) (mCons (mOp oIx (eV 0) (eC (.int 2))) mNil)))
  (sSeq (sFor (srEnum (eV 1)) (.tp [(.nm 3), (.nm 4)]) (sSeq (sIf (mT (mOp oGe (eV 4) (mCall oLen (mCons (mOp oIx (eV 0) (eC (.int 1))) mNil)))) (sRet (mSeq true true (mCons (mSeq true true (mCons (eC (.str "deed")) (mCons (eV 3) mNil))) (mCons (eC .non) mNil)))) sNext)
  (sSeq (sAsg (.nm 5) (mLc true (srSeq (mOp oIx (mOp oIx (mOp oIx (eV 0) (eC (.int 1))) (eV 4)) (eC (.int 1)))) (.nm 6) [6] (mT (mOp (oIn true) (eV 6) (eV 2))) (eV 6)))
  (sSeq (sIf (mT (mOp oNe (eV 5) (mSeq true false mNil))) (sRet (mSeq true true (mCons (mSeq true true (mCons (eC (.str "needs")) (mCons (eV 3) (mCons (mOp oIx (eV 5) (eC (.int 0))) mNil)))) (mCons (eC .non) mNil)))) sNext)
  (sAsg (.nm 2) (mPure f_L_after 3 (mCons (eV 0) (mCons (eV 2) (mCons (eV 4) mNil)))))))))
  (sRet (mSeq true true (mCons (eC .non) (mCons (eV 2) mNil)))))))
def f_L_along : List D → Pr := pureOf 7 (m_L_along)
theorem ok_L_along (B : ∀ x ∈ blts, mg x = none) (D : Def K mg "_law_along" s_L_along ["task", "thing"]) (h_L_is_whole : PureOk P w K mg base "_law_is_whole" s_L_is_whole ["thing"] 1 f_L_is_whole) (h_L_after : PureOk P w K mg base "_law_after" s_L_after ["task", "state", "index"] 1 f_L_after) : PureOk P w K mg base "_law_along" s_L_along ["task", "thing"] 2 f_L_along :=
  pure_mk (k := 1) D sc_L_along fun f cdv A outer s H E hr =>
  (fs_cons (fs_if (FW.ft (fw_or (ft_not (ft_v (fe_is2 .l .t (B "isinstance" (by decide)) (B "list" (by decide)) (by decide +kernel) (B "tuple" (by decide)) (by decide +kernel) (fe_v 1)))) (fw_or1 (ft_not (ft_v (fe_callB (call_allW rfl) (B "all" (by decide)) (by decide +kernel) (fa_cons (fe_lc (own := [("index", 4)]) true rfl sc_L_along.nd (fi_seq (fe_v 1)) (blkOk_by (by rfl)) (fun _ _ _ _ _ => (fg_nm 4 sc_L_along.nd rfl (by first | exact .inl rfl | exact .inr rfl) (by first | exact .inr rfl | exact .inl rfl))) (fun _ _ _ _ _ => fts_nil) (fun _ _ _ _ _ => (fe_and (fe_cP h_L_is_whole (hr.mono (by omega)) takes0 (fa_cons (fe_v 4) fa_nil)) (fe_one (fe_cmp (op_geW (un_of hr)) (fe_v 4) fe_int))))) fa_nil))))))) (fs_one (fs_ret (fe_seqT true (fa_cons (fe_seqT true (fa_cons fe_str fa_nil)) (fa_cons fe_non fa_nil))))) fs_nil)
  (fs_cons (fs_asg (fe_callTy call_listW (B "list" (by decide)) (by decide +kernel) (fa_cons (fe_ix (un_of hr) (fe_v 0) fe_int) fa_nil)) (fg_nm 2 sc_L_along.nd rfl (.inr rfl) (.inl rfl)))
  (fs_cons (fs_for PassesOwn.leaving rfl (fi_enum (B "enumerate" (by decide)) (fe_v 1)) (fg_tp rfl (fgs_cons (fg_nm 3 sc_L_along.nd rfl (.inl rfl) (.inl rfl)) (fgs_cons (fg_nm 4 sc_L_along.nd rfl (.inl rfl) (.inl rfl)) fgs_nil))) (fs_cons (fs_if (ft_cmp (op_geW (un_of hr)) (fe_v 4) (fe_callB call_lenW (B "len" (by decide)) (by decide +kernel) (fa_cons (fe_ix (un_of hr) (fe_v 0) fe_int) fa_nil))) (fs_one (fs_ret (fe_seqT true (fa_cons (fe_seqT true (fa_cons fe_str (fa_cons (fe_v 3) fa_nil))) (fa_cons fe_non fa_nil))))) fs_nil)
  (fs_cons (fs_setLc (own := [("fact", 6)]) true rfl sc_L_along.nd rfl rfl (sw_true rfl rfl rfl rfl) (fi_seq (fe_ix (un_of hr) (fe_ix (un_of hr) (fe_ix (un_of hr) (fe_v 0) fe_int) (fe_v 4)) fe_int)) (blkOk_by (by rfl)) (fun _ _ _ _ _ => (fg_nm 6 sc_L_along.nd rfl (by first | exact .inl rfl | exact .inr rfl) (by first | exact .inr rfl | exact .inl rfl))) (fun _ _ _ _ _ => (fts_one (ft_cmp (op_notInW (un_of hr)) (fe_v 6) (fe_v 2)))) (fun _ _ _ _ _ => (fe_v 6)))
  (fs_cons (fs_if (ft_cmp (op_neW (un_of hr)) (fe_v 5) (fe_seqL true fa_nil)) (fs_one (fs_ret (fe_seqT true (fa_cons (fe_seqT true (fa_cons fe_str (fa_cons (fe_v 3) (fa_cons (fe_ix (un_of hr) (fe_v 5) fe_int) fa_nil)))) (fa_cons fe_non fa_nil))))) fs_nil)
  (fs_one (fs_asg (fe_cP h_L_after (hr.mono (by omega)) (takes_of rfl rfl rfl rfl) (fa_cons (fe_v 0) (fa_cons (fe_v 2) (fa_cons (fe_v 4) fa_nil)))) (fg_nm 2 sc_L_along.nd rfl (.inr rfl) (.inl rfl))))))))
  (fs_one (fs_ret (fe_seqT true (fa_cons fe_non (fa_cons (fe_v 2) fa_nil))))))))
theorem sc_L_plan_fault : FnScope ["task", "thing", "fault", "state", "lack", "fact"] ["task", "thing"] (defScope s_L_plan_fault) := ⟨rfl, rfl, rfl, by decide +kernel, rfl, by decide +kernel, by decide +kernel⟩
def m_L_plan_fault : Sx := (sSeq (sAsg (.tp [(.nm 2), (.nm 3)]) (mPure f_L_along 2 (mCons (eV 0) (mCons (eV 1) mNil))))
  (sSeq (sIf (mT (mOp (oIsN true) (eV 2) (eC .non))) (sRet (eV 2)) sNext)
  (sSeq (sAsg (.nm 4) (mLc true (srSeq (mOp oIx (eV 0) (eC (.int 3)))) (.nm 5) [5] (mT (mOp (oIn true) (eV 5) (eV 3))) (eV 5)))
  (sRet (mIf (mT (mOp oNe (eV 4) (mSeq true false mNil))) (mSeq true true (mCons (eC (.str "goal")) (mCons (mOp oIx (eV 4) (eC (.int 0))) mNil))) (eC .non))))))
def f_L_plan_fault : List D → Pr := pureOf 6 (m_L_plan_fault)
theorem ok_L_plan_fault (B : ∀ x ∈ blts, mg x = none) (D : Def K mg "_law_plan_fault" s_L_plan_fault ["task", "thing"]) (h_L_along : PureOk P w K mg base "_law_along" s_L_along ["task", "thing"] 2 f_L_along) : PureOk P w K mg base "_law_plan_fault" s_L_plan_fault ["task", "thing"] 3 f_L_plan_fault :=
  pure_mk (k := 2) D sc_L_plan_fault fun f cdv A outer s H E hr =>
  (fs_cons (fs_asg (fe_cP h_L_along (hr.mono (by omega)) (takes_of rfl rfl rfl rfl) (fa_cons (fe_v 0) (fa_cons (fe_v 1) fa_nil))) (fg_tp rfl (fgs_cons (fg_nm 2 sc_L_plan_fault.nd rfl (.inl rfl) (.inl rfl)) (fgs_cons (fg_nm 3 sc_L_plan_fault.nd rfl (.inr rfl) (.inl rfl)) fgs_nil))))
  (fs_cons (fs_if (ft_cmp op_notNW (fe_v 2) fe_non) (fs_one (fs_ret (fe_v 2))) fs_nil)
  (fs_cons (fs_setLc (own := [("fact", 5)]) true rfl sc_L_plan_fault.nd rfl rfl (sw_true rfl rfl rfl rfl) (fi_seq (fe_ix (un_of hr) (fe_v 0) fe_int)) (blkOk_by (by rfl)) (fun _ _ _ _ _ => (fg_nm 5 sc_L_plan_fault.nd rfl (by first | exact .inl rfl | exact .inr rfl) (by first | exact .inr rfl | exact .inl rfl))) (fun _ _ _ _ _ => (fts_one (ft_cmp (op_notInW (un_of hr)) (fe_v 5) (fe_v 3)))) (fun _ _ _ _ _ => (fe_v 5)))
  (fs_one (fs_ret (fe_if (ft_cmp (op_neW (un_of hr)) (fe_v 4) (fe_seqL true fa_nil)) (fe_seqT true (fa_cons fe_str (fa_cons (fe_ix (un_of hr) (fe_v 4) fe_int) fa_nil))) fe_non))))))
theorem sc_L_cost : FnScope ["task", "plan", "index"] ["task", "plan"] (defScope s_L_cost) := ⟨rfl, rfl, rfl, by decide +kernel, rfl, by decide +kernel, by decide +kernel⟩
def m_L_cost : Sx := (sRet (mCall oSum (mCons (mLc true (srSeq (eV 1)) (.nm 2) [2] tYesX (mOp oIx (mOp oIx (mOp oIx (eV 0) (eC (.int 1))) (eV 2)) (eC (.int 4)))) mNil)))
def f_L_cost : List D → Pr := pureOf 3 (m_L_cost)
theorem ok_L_cost (B : ∀ x ∈ blts, mg x = none) (D : Def K mg "_law_cost" s_L_cost ["task", "plan"]) : PureOk P w K mg base "_law_cost" s_L_cost ["task", "plan"] 1 f_L_cost :=
  pure_mk (k := 0) D sc_L_cost fun f cdv A outer s H E hr =>
  (fs_one (fs_ret (fe_callB (call_sumW rfl) (B "sum" (by decide)) (by decide +kernel) (fa_cons (fe_lc (own := [("index", 2)]) true rfl sc_L_cost.nd (fi_seq (fe_v 1)) (blkOk_by (by rfl)) (fun _ _ _ _ _ => (fg_nm 2 sc_L_cost.nd rfl (by first | exact .inl rfl | exact .inr rfl) (by first | exact .inr rfl | exact .inl rfl))) (fun _ _ _ _ _ => fts_nil) (fun _ _ _ _ _ => (fe_ix (un_of hr) (fe_ix (un_of hr) (fe_ix (un_of hr) (fe_v 0) fe_int) (fe_v 2)) fe_int))) fa_nil))))
theorem sc_L_drawn_row : FnScope ["stream", "task", "found", "state", "k", "options"] ["stream", "task"] (defScope s_L_drawn_row) := ⟨rfl, rfl, rfl, by decide +kernel, rfl, by decide +kernel, by decide +kernel⟩
def m_L_drawn_row : Sx := (sSeq (sPar2 2 3 (mCons (mSeq false false mNil) (mCons (mCall (oList true) (mCons (mOp oIx (eV 1) (eC (.int 2))) mNil)) mNil)))
  (sSeq (sFor (srRng1 (mCons (mRaw f_L_draw 2 (mCons (eV 0) (mCons (eC (.int 12)) mNil))) mNil)) (.nm 4) (sSeq (sAsg (.nm 5) (mPure f_L_open 2 (mCons (eV 1) (mCons (eV 3) mNil))))
  (sIf (mT (mOp oNe (eV 5) (mSeq true false mNil))) (sSeq (sDrop (mMeth oAppend (eV 2) (mCons (mRaw f_L_pick 2 (mCons (eV 0) (mCons (eV 5) mNil))) mNil)))
  (sAsg (.nm 3) (mPure f_L_after 3 (mCons (eV 1) (mCons (eV 3) (mCons (mOp oIx (eV 2) (mUn oNeg (eC (.int 1)))) mNil)))))) sNext)))
  (sRet (eV 2))))
def f_L_drawn_row : FnW := (normF (rawOf 6 (m_L_drawn_row)))
theorem ok_L_drawn_row (B : ∀ x ∈ blts, mg x = none) (D : Def K mg "_law_drawn_row" s_L_drawn_row ["stream", "task"]) (h_L_draw : RawOk P w K mg base "_law_draw" s_L_draw ["stream", "many"] 1 f_L_draw) (h_L_open : PureOk P w K mg base "_law_open" s_L_open ["task", "state"] 1 f_L_open) (h_L_pick : RawOk P w K mg base "_law_pick" s_L_pick ["stream", "things"] 2 f_L_pick) (h_L_after : PureOk P w K mg base "_law_after" s_L_after ["task", "state", "index"] 1 f_L_after) : RawOk P w K mg base "_law_drawn_row" s_L_drawn_row ["stream", "task"] 3 f_L_drawn_row :=
  RawOk.norm <| raw_mk (k := 2) D sc_L_drawn_row fun f cdv A outer s H E hr =>
  (fs_cons (fs_par2 rfl sc_L_drawn_row.nd rfl rfl (by decide) rfl rfl (fa_cons (fe_seqL false fa_nil) (fa_cons (fe_callTy call_listW (B "list" (by decide)) (by decide +kernel) (fa_cons (fe_ix (un_of hr) (fe_v 1) fe_int) fa_nil)) fa_nil)) (by rfl))
  (fs_cons (fs_for PassesOwn.leaving rfl (fi_rng1 (B "range" (by decide)) (fa_cons (fe_cR h_L_draw (hr.mono (by omega)) (takes_of rfl rfl rfl rfl) (fa_cons (fe_v 0) (fa_cons fe_int fa_nil))) fa_nil)) (fg_nm 4 sc_L_drawn_row.nd rfl (.inl rfl) (.inl rfl)) (fs_cons (fs_asg (fe_cP h_L_open (hr.mono (by omega)) (takes_of rfl rfl rfl rfl) (fa_cons (fe_v 1) (fa_cons (fe_v 3) fa_nil))) (fg_nm 5 sc_L_drawn_row.nd rfl (.inl rfl) (.inl rfl)))
  (fs_one (fs_if (ft_cmp (op_neW (un_of hr)) (fe_v 5) (fe_seqL true fa_nil)) (fs_cons (fs_expr (fe_append (fe_v 2) (fa_cons (fe_cR h_L_pick (hr.mono (by omega)) (takes_of rfl rfl rfl rfl) (fa_cons (fe_v 0) (fa_cons (fe_v 5) fa_nil))) fa_nil)))
  (fs_one (fs_asg (fe_cP h_L_after (hr.mono (by omega)) (takes_of rfl rfl rfl rfl) (fa_cons (fe_v 1) (fa_cons (fe_v 3) (fa_cons (fe_ix (un_of hr) (fe_v 2) (fe_un un_negW fe_int)) fa_nil)))) (fg_nm 3 sc_L_drawn_row.nd rfl (.inl rfl) (.inl rfl))))) fs_nil))))
  (fs_one (fs_ret (fe_v 2)))))
theorem sc_L_bad_task : FnScope ["stream", "odds"] ["stream"] (defScope s_L_bad_task) := ⟨rfl, rfl, rfl, by decide +kernel, rfl, by decide +kernel, by decide +kernel⟩
def m_L_bad_task : Sx := (sSeq (sAsg (.nm 1) (mSeq true false (mCons (mSeq true true (mCons (eC .non) (mCons (mSeq true true (mCons (eC (.str "form")) mNil)) mNil))) (mCons (mSeq true true (mCons (mSeq true true (mCons (mSeq true false (mCons (eC (.str "b")) (mCons (eC (.str "a")) mNil))) (mCons (mSeq true false mNil) (mCons (mSeq true false mNil) (mCons (mSeq true false mNil) mNil))))) (mCons (mSeq true true (mCons (eC (.str "facts")) (mCons (eC (.int 1)) mNil))) mNil))) (mCons (mSeq true true (mCons (mSeq true true (mCons (mSeq true false mNil) (mCons (mSeq true false (mCons (mSeq true true (mCons (eC (.str "a")) (mCons (mSeq true false (mCons (eC (.str "b")) mNil)) (mCons (mSeq true false mNil) (mCons (mSeq true false mNil) (mCons (eC (.int 0)) mNil)))))) mNil)) (mCons (mSeq true false mNil) (mCons (mSeq true false mNil) mNil))))) (mCons (mSeq true true (mCons (eC (.str "deeds")) (mCons (eC (.int 0)) mNil))) mNil))) mNil)))))
  (sRet (mRaw f_L_pick 2 (mCons (eV 0) (mCons (mOp (oAdd true) (eV 1) (mSeq true false (mCons (mSeq true true (mCons (mSeq true true (mCons (mSeq true false mNil) (mCons (mSeq true false mNil) (mCons (mSeq true false (mCons (eC (.str "a")) mNil)) (mCons (mSeq true false mNil) mNil))))) (mCons (mSeq true true (mCons (eC (.str "start")) mNil)) mNil))) (mCons (mSeq true true (mCons (mSeq true true (mCons (mSeq true false (mCons (eC (.str "a")) mNil)) (mCons (mSeq true false mNil) (mCons (mSeq true false mNil) (mCons (eC .non) mNil))))) (mCons (mSeq true true (mCons (eC (.str "goal")) mNil)) mNil))) mNil)))) mNil)))))
def f_L_bad_task : FnW := rawOf 2 (m_L_bad_task)
theorem ok_L_bad_task (B : ∀ x ∈ blts, mg x = none) (D : Def K mg "_law_bad_task" s_L_bad_task ["stream"]) (h_L_pick : RawOk P w K mg base "_law_pick" s_L_pick ["stream", "things"] 2 f_L_pick) : RawOk P w K mg base "_law_bad_task" s_L_bad_task ["stream"] 3 f_L_bad_task :=
  raw_mk (k := 2) D sc_L_bad_task fun f cdv A outer s H E hr =>
  (fs_cons (fs_asg (fe_seqL true (fa_cons (fe_seqT true (fa_cons fe_non (fa_cons (fe_seqT true (fa_cons fe_str fa_nil)) fa_nil))) (fa_cons (fe_seqT true (fa_cons (fe_seqT true (fa_cons (fe_seqL true (fa_cons fe_str (fa_cons fe_str fa_nil))) (fa_cons (fe_seqL true fa_nil) (fa_cons (fe_seqL true fa_nil) (fa_cons (fe_seqL true fa_nil) fa_nil))))) (fa_cons (fe_seqT true (fa_cons fe_str (fa_cons fe_int fa_nil))) fa_nil))) (fa_cons (fe_seqT true (fa_cons (fe_seqT true (fa_cons (fe_seqL true fa_nil) (fa_cons (fe_seqL true (fa_cons (fe_seqT true (fa_cons fe_str (fa_cons (fe_seqL true (fa_cons fe_str fa_nil)) (fa_cons (fe_seqL true fa_nil) (fa_cons (fe_seqL true fa_nil) (fa_cons fe_int fa_nil)))))) fa_nil)) (fa_cons (fe_seqL true fa_nil) (fa_cons (fe_seqL true fa_nil) fa_nil))))) (fa_cons (fe_seqT true (fa_cons fe_str (fa_cons fe_int fa_nil))) fa_nil))) fa_nil)))) (fg_nm 1 sc_L_bad_task.nd rfl (.inl rfl) (.inl rfl)))
  (fs_one (fs_ret (fe_cR h_L_pick (hr.mono (by omega)) (takes_of rfl rfl rfl rfl) (fa_cons (fe_v 0) (fa_cons (fe_op op_addW (fe_v 1) (fe_seqL true (fa_cons (fe_seqT true (fa_cons (fe_seqT true (fa_cons (fe_seqL true fa_nil) (fa_cons (fe_seqL true fa_nil) (fa_cons (fe_seqL true (fa_cons fe_str fa_nil)) (fa_cons (fe_seqL true fa_nil) fa_nil))))) (fa_cons (fe_seqT true (fa_cons fe_str fa_nil)) fa_nil))) (fa_cons (fe_seqT true (fa_cons (fe_seqT true (fa_cons (fe_seqL true (fa_cons fe_str fa_nil)) (fa_cons (fe_seqL true fa_nil) (fa_cons (fe_seqL true fa_nil) (fa_cons fe_non fa_nil))))) (fa_cons (fe_seqT true (fa_cons fe_str fa_nil)) fa_nil))) fa_nil)))) fa_nil))))))
theorem sc_law : FnScope ["script", "stream", "turn", "task", "row", "states", "index", "told", "at", "many", "odd", "things", "thing", "fault", "handed", "short", "state", "wrong", "bad", "k"] ["script"] (defScope s_law) := ⟨rfl, rfl, rfl, by decide +kernel, rfl, by decide +kernel, by decide +kernel⟩
end

end IL

set_option maxHeartbeats 4000007
namespace IL
open PySem PySem.Spec
open PyProof.Rows L2
section
variable {P : Program} {w : World} {K : PySem.W.Frag} {mg : Str → Option Value} {base : Heap}
def m_law (T : List (Addr × Str)) : Sx := (sSeq (sAsg (.nm 1) (mRaw f_L_stream 1 (mCons (eV 0) mNil)))
  (sSeq (sFor (srRng1 (mCons (eC (.int 5)) mNil)) (.nm 2) (sSeq (sAsg (.nm 3) (mRaw f_L_task 2 (mCons (eV 1) (mCons (eC (.int 7)) mNil))))
  (sSeq (sAsg (.nm 4) (mRaw f_L_drawn_row 2 (mCons (eV 1) (mCons (eV 3) mNil))))
  (sSeq (sAsg (.nm 5) (mSeq false false (mCons (mCall (oList true) (mCons (mOp oIx (eV 3) (eC (.int 2))) mNil)) mNil)))
  (sSeq (sFor (srSeq (eV 4)) (.nm 6) (sDrop (mMeth oAppend (eV 5) (mCons (mPure f_L_after 3 (mCons (eV 3) (mCons (mOp oIx (eV 5) (mUn oNeg (eC (.int 1)))) (mCons (eV 6) mNil)))) mNil))))
  (sSeq (sAsg (.nm 7) (mSeq true false (mCons (mRaw f_runM 2 (mCons (mRaw f_L_handed 2 (mCons (eV 1) (mCons (eV 3) mNil))) (mCons (mCall (oTuple true) (mCons (eV 4) mNil)) mNil))) (mCons (mKw 2 [1, 0] 0 (rawN f_runM 2) mNil (mCons (mCall (oList true) (mCons (eV 4) mNil)) (mCons (mPure (f_L_copied 8) 1 (mCons (eV 3) mNil)) mNil))) mNil))))
  (sSeq (sIf (mOr (mNot (mT (mPure (f_L_same 8) 2 (mCons (eV 7) (mCons (mSeq true false (mCons (eV 5) (mCons (eV 5) mNil))) mNil))))) (mNot (mT (mPure (f_L_same 8) 2 (mCons (mSeq true false (mCons (mPure f_cost 2 (mCons (mPure (f_L_copied 8) 1 (mCons (eV 3) mNil)) (mCons (mCall (oList true) (mCons (eV 4) mNil)) mNil))) (mCons (mKw 2 [1, 0] 0 (callP f_cost 2) mNil (mCons (mCall (oTuple true) (mCons (eV 4) mNil)) (mCons (mRaw f_L_handed 2 (mCons (eV 1) (mCons (eV 3) mNil))) mNil))) mNil))) (mCons (mOp (oMul true) (mSeq true false (mCons (mPure f_L_cost 2 (mCons (eV 3) (mCons (eV 4) mNil))) mNil)) (eC (.int 2))) mNil)))))) (sRet (eC (.bl false))) sNext)
  (sSeq (sDrop (mRaw (f_L_spoilt 8) 1 (mCons (mSeq true false (mCons (mOp oIx (mOp oIx (eV 7) (eC (.int 0))) (eC (.int 0))) (mCons (mOp oIx (eV 7) (eC (.int 0))) mNil))) mNil)))
  (sSeq (sIf (mNot (mT (mPure (f_L_same 8) 2 (mCons (mRaw f_runM 2 (mCons (mPure (f_L_copied 8) 1 (mCons (eV 3) mNil)) (mCons (mCall (oList true) (mCons (eV 4) mNil)) mNil))) (mCons (eV 5) mNil))))) (sRet (eC (.bl false))) sNext)
  (sSeq (sAsg (.tp [(.nm 8), (.nm 9)]) (mSeq true true (mCons (mRaw f_L_draw 2 (mCons (eV 1) (mCons (mOp (oAdd true) (mCall oLen (mCons (eV 4) mNil)) (eC (.int 1))) mNil))) (mCons (mCall oLen (mCons (mOp oIx (eV 3) (eC (.int 1))) mNil)) mNil))))
  (sSeq (sAsg (.nm 10) (mRaw f_L_pick 2 (mCons (eV 1) (mCons (mSeq true false (mCons (eC .non) (mCons (mUn oNeg (eC (.int 1))) (mCons (eV 9) (mCons (mOp (oAdd true) (eV 9) (eC (.int 9))) (mCons (eC (.bl true)) (mCons (eC (.str "0")) (mCons (mSeq true false (mCons (eC (.int 0)) mNil)) mNil)))))))) mNil))))
  (sSeq (sAsg (.nm 11) (mSeq false false (mCons (eV 4) (mCons (mCall (oTuple true) (mCons (eV 4) mNil)) (mCons (mSl true (eV 4) (mP (eC (.int 1))) mP0) (mCons (mSl true (eV 4) mP0 (mP (mUn oNeg (eC (.int 1))))) (mCons (mUn (oRev true) (eV 4)) (mCons (mOp (oAdd true) (mOp (oAdd true) (mSl true (eV 4) mP0 (mP (eV 8))) (mSeq true false (mCons (eV 10) mNil))) (mSl true (eV 4) (mP (eV 8)) mP0)) (mCons (mSeq true false (mCons (eV 10) mNil)) (mCons (mSeq true false mNil) (mCons (eC .non) (mCons (eC (.str "01")) (mCons (mDict0 true) (mCons (eC (.int 5)) (mCons (mOp (oAdd true) (eV 4) (eV 4)) mNil)))))))))))))))
  (sSeq (sDrop (mMeth oExtend (eV 11) (mCons (mSeq true false (mCons (mLc true (srRng1 (mCons (eC (.int 4)) mNil)) (.nm 19) [19] tYesX (mRaw f_L_draw 2 (mCons (eV 1) (mCons (mOp (oAdd true) (eV 9) (eC (.int 1))) mNil)))) (mCons (mLc true (srRng1 (mCons (eC (.int 2)) mNil)) (.nm 19) [19] tYesX (mRaw f_L_draw 2 (mCons (eV 1) (mCons (mOp (oAdd true) (eV 9) (eC (.int 1))) mNil)))) mNil))) mNil)))
  (sSeq (sFor (srSeq (eV 11)) (.nm 12) (sSeq (sPar2 13 14 (mCons (mPure f_L_plan_fault 2 (mCons (eV 3) (mCons (eV 12) mNil))) (mCons (mPure (f_L_copied 8) 1 (mCons (eV 12) mNil)) mNil)))
  (sSeq (sIf (mOr (mNot (mT (mPure (f_L_same 8) 2 (mCons (mSeq true false (mCons (mPure f_plan_fault 2 (mCons (mPure (f_L_copied 8) 1 (mCons (eV 3) mNil)) (mCons (eV 14) mNil))) (mCons (mKw 2 [1, 0] 0 (callP f_plan_fault 2) mNil (mCons (mPure (f_L_copied 8) 1 (mCons (eV 12) mNil)) (mCons (mRaw f_L_handed 2 (mCons (eV 1) (mCons (eV 3) mNil))) mNil))) mNil))) (mCons (mSeq true false (mCons (eV 13) (mCons (eV 13) mNil))) mNil))))) (mNot (mT (mPure (f_L_same 8) 2 (mCons (eV 14) (mCons (eV 12) mNil)))))) (sRet (eC (.bl false))) sNext)
  (sSeq (sAsg (.tp [(.nm 15), (.nm 16)]) (mPure f_L_along 2 (mCons (eV 3) (mCons (eV 12) mNil))))
  (sIf (mT (mOp (oIsN true) (eV 15) (eC .non))) (sSeq (sAsg (.nm 17) (mSeq false false (mCons (mMet T true true "told" [("BadTask", "task", "fault"), ("BadPlan", "plan", "fault")] (mRaw f_runM 2 (mCons (mPure (f_L_copied 8) 1 (mCons (eV 3) mNil)) (mCons (mPure (f_L_copied 8) 1 (mCons (eV 12) mNil)) mNil)))) mNil)))
  (sSeq (sDrop (mMeth oAppend (eV 17) (mCons (mMet T true true "told" [("BadTask", "task", "fault"), ("BadPlan", "plan", "fault")] (mPure f_cost 2 (mCons (mPure (f_L_copied 8) 1 (mCons (eV 3) mNil)) (mCons (mPure (f_L_copied 8) 1 (mCons (eV 12) mNil)) mNil)))) mNil)))
  (sIf (mNot (mT (mPure (f_L_same 8) 2 (mCons (eV 17) (mCons (mOp (oMul true) (mSeq true false (mCons (mSeq true true (mCons (eC (.str "plan")) (mCons (eV 15) mNil))) mNil)) (eC (.int 2))) mNil))))) (sRet (eC (.bl false))) sNext))) sNext)))))
  (sSeq (sAsg (.nm 18) (mRaw f_L_bad_task 1 (mCons (eV 1) mNil)))
  (sSeq (sAsg (.nm 17) (mSeq false false (mCons (mMet T true true "told" [("BadTask", "task", "fault"), ("BadPlan", "plan", "fault")] (mRaw f_runM 2 (mCons (mOp oIx (eV 18) (eC (.int 0))) (mCons (eC .non) mNil)))) mNil)))
  (sSeq (sDrop (mMeth oAppend (eV 17) (mCons (mMet T true true "told" [("BadTask", "task", "fault"), ("BadPlan", "plan", "fault")] (mPure f_cost 2 (mCons (mOp oIx (eV 18) (eC (.int 0))) (mCons (eC .non) mNil)))) mNil)))
  (sSeq (sDrop (mMeth oAppend (eV 17) (mCons (mMet T true true "told" [("BadTask", "task", "fault"), ("BadPlan", "plan", "fault")] (mPure f_plan_fault 2 (mCons (mOp oIx (eV 18) (eC (.int 0))) (mCons (eC .non) mNil)))) mNil)))
  (sIf (mNot (mT (mPure (f_L_same 8) 2 (mCons (eV 17) (mCons (mOp (oMul true) (mSeq true false (mCons (mSeq true true (mCons (eC (.str "task")) (mCons (mOp oIx (eV 18) (eC (.int 1))) mNil))) mNil)) (eC (.int 3))) mNil))))) (sRet (eC (.bl false))) sNext)))))))))))))))))))
  (sRet (eC (.bl true)))))
def f_law (T : List (Addr × Str)) : FnW := rawOf 20 (m_law T)
theorem ok_law (B : ∀ x ∈ blts, mg x = none) {f c Pt : Addr} {oc kV doc pm cdv ct : Value} {od an : Option Addr} {osl : Array (Option Value)} (hcv : cdv = .ref c) (lk : K.lookup f = some ⟨oc, od, .func (PySem.W.fnOf "law" "law" (defArgs s_law) (defBody s_law) (defScope s_law) .none kV doc pm an cdv ct), osl⟩) (hcd : PySem.W.codeIn K cdv "law" = true) (h_L_stream : RawOk P w K mg base "_law_stream" s_L_stream ["script"] 1 f_L_stream) (h_L_task : RawOk P w K mg base "_law_task" s_L_task ["stream", "most"] 3 f_L_task) (h_L_drawn_row : RawOk P w K mg base "_law_drawn_row" s_L_drawn_row ["stream", "task"] 3 f_L_drawn_row) (h_L_after : PureOk P w K mg base "_law_after" s_L_after ["task", "state", "index"] 1 f_L_after) (h_runM : RawOk P w K mg base "run" s_run ["task", "indexes"] 8 f_runM) (h_L_copied : PureOk P w K mg base "_law_copied" s_L_copied ["thing"] 9 (f_L_copied 8)) (h_L_handed : RawOk P w K mg base "_law_handed" s_L_handed ["stream", "task"] 11 f_L_handed) (h_L_same : PureOk P w K mg base "_law_same" s_L_same ["found", "due"] 9 (f_L_same 8)) (h_L_cost : PureOk P w K mg base "_law_cost" s_L_cost ["task", "plan"] 1 f_L_cost) (h_cost : PureOk P w K mg base "cost" s_cost ["task", "indexes"] 8 f_cost) (h_L_spoilt : RawOk P w K mg base "_law_spoilt" s_L_spoilt ["thing"] 9 (f_L_spoilt 8)) (h_L_draw : RawOk P w K mg base "_law_draw" s_L_draw ["stream", "many"] 1 f_L_draw) (h_L_pick : RawOk P w K mg base "_law_pick" s_L_pick ["stream", "things"] 2 f_L_pick) (h_L_plan_fault : PureOk P w K mg base "_law_plan_fault" s_L_plan_fault ["task", "thing"] 3 f_L_plan_fault) (h_plan_fault : PureOk P w K mg base "plan_fault" s_plan_fault ["task", "thing"] 7 f_plan_fault) (h_L_along : PureOk P w K mg base "_law_along" s_L_along ["task", "thing"] 2 f_L_along) (h_L_bad_task : RawOk P w K mg base "_law_bad_task" s_L_bad_task ["stream"] 3 f_L_bad_task) (M_L_met : MetDef K mg "_law_met" "ask" s_L_met) {C_BadTask : Addr} (y_BadTask : ExcX K mg "BadTask" "fault" C_BadTask) {C_BadPlan : Addr} (y_BadPlan : ExcX K mg "BadPlan" "fault" C_BadPlan) (ET_L_met : ExTab K mg [("BadTask", "task", "fault", C_BadTask), ("BadPlan", "plan", "fault", C_BadPlan)]) (TB : LamX.TabB base mg c Pt) : FnOk P w K mg base (L2.CX P w) 15 f (PySem.W.fnOf "law" "law" (defArgs s_law) (defBody s_law) (defScope s_law) .none kV doc pm an cdv ct) ["script"] (spW K mg 1 (f_law [(Pt, (("law" : Str) ++ ".<locals>.") ++ "<lambda>")])) := by
  subst hcv
  have G_L_met : ∀ {X : Cx} (hK : X.K = K) (hm : X.mg = mg) (g : Addr) (cdg : Value) (q : Str), LamX.GivesTo X ["ask", "e"] "_law_met" (defScope s_L_met) g cdg (defBody s_L_met) "ask" q (TTmet X.K true true "told" [("BadTask", "task", "fault", C_BadTask), ("BadPlan", "plan", "fault", C_BadPlan)]) := fun {X} hK hm g cdg q => by
    subst hK hm
    exact met_gives (by decide) rfl (by decide) (by decide) disT (.cons ⟨rfl, y_BadTask.1, by decide, y_BadTask.2.1, y_BadTask.2.2⟩ disT (.cons ⟨rfl, y_BadPlan.1, by decide, y_BadPlan.2.1, y_BadPlan.2.2⟩ disT .nil))
  have S_L_met : FnScope ["ask", "e"] ["ask"] (defScope s_L_met) := ⟨rfl, rfl, rfl, by decide +kernel, rfl, by decide +kernel, by decide +kernel⟩
  exact fn_rawC (k := 14) lk hcd sc_law fun A outer s H E hr =>
  (fs_cons (fs_asg (fe_cR h_L_stream (hr.mono (by omega)) (takes_of rfl rfl rfl rfl) (fa_cons (fe_v 0) fa_nil)) (fg_nm 1 sc_law.nd rfl (.inr rfl) (.inl rfl)))
  (fs_cons (fs_for PassesOwn.leaving rfl (fi_rng1 (B "range" (by decide)) (fa_cons fe_int fa_nil)) (fg_nm 2 sc_law.nd rfl (.inl rfl) (.inl rfl)) (fs_cons (fs_asg (fe_cR h_L_task (hr.mono (by omega)) (takes_of rfl rfl rfl rfl) (fa_cons (fe_v 1) (fa_cons fe_int fa_nil))) (fg_nm 3 sc_law.nd rfl (.inr rfl) (.inl rfl)))
  (fs_cons (fs_asg (fe_cR h_L_drawn_row (hr.mono (by omega)) (takes_of rfl rfl rfl rfl) (fa_cons (fe_v 1) (fa_cons (fe_v 3) fa_nil))) (fg_nm 4 sc_law.nd rfl (.inl rfl) (.inl rfl)))
  (fs_cons (fs_asg (fe_seqL false (fa_cons (fe_callTy call_listW (B "list" (by decide)) (by decide +kernel) (fa_cons (fe_ix (un_of hr) (fe_v 3) fe_int) fa_nil)) fa_nil)) (fg_nm 5 sc_law.nd rfl (.inl rfl) (.inl rfl)))
  (fs_cons (fs_for PassesOwn.leaving rfl (fi_seq (fe_v 4)) (fg_nm 6 sc_law.nd rfl (.inl rfl) (.inl rfl)) (fs_one (fs_expr (fe_append (fe_v 5) (fa_cons (fe_cP h_L_after (hr.mono (by omega)) (takes_of rfl rfl rfl rfl) (fa_cons (fe_v 3) (fa_cons (fe_ix (un_of hr) (fe_v 5) (fe_un un_negW fe_int)) (fa_cons (fe_v 6) fa_nil)))) fa_nil)))))
  (fs_cons (fs_asg (fe_seqL true (fa_cons (fe_cR h_runM (hr.mono (by omega)) (takes_of rfl rfl rfl rfl) (fa_cons (fe_cR h_L_handed (hr.mono (by omega)) (takes_of rfl rfl rfl rfl) (fa_cons (fe_v 1) (fa_cons (fe_v 3) fa_nil))) (fa_cons (fe_callTy call_tupleW (B "tuple" (by decide)) (by decide +kernel) (fa_cons (fe_v 4) fa_nil)) fa_nil))) (fa_cons (fe_cRK0 (ks := ["indexes", "task"]) (pi := [1, 0]) h_runM (hr.mono (by omega)) (fun _ _ _ _ _ _ us ws hl hk => match us, ws, hl, hk with | [], [_, _], _, _ => rfl) (takes_of rfl rfl rfl rfl) (fk_cons (fe_callTy call_listW (B "list" (by decide)) (by decide +kernel) (fa_cons (fe_v 4) fa_nil)) (fk_cons (fe_cP h_L_copied (hr.mono (by omega)) (takes_of rfl rfl rfl rfl) (fa_cons (fe_v 3) fa_nil)) fk_nil))) fa_nil))) (fg_nm 7 sc_law.nd rfl (.inl rfl) (.inl rfl)))
  (fs_cons (fs_if (FW.ft (fw_or (ft_not (ft_v (fe_cP h_L_same (hr.mono (by omega)) (takes_of rfl rfl rfl rfl) (fa_cons (fe_v 7) (fa_cons (fe_seqL true (fa_cons (fe_v 5) (fa_cons (fe_v 5) fa_nil))) fa_nil))))) (fw_or1 (ft_not (ft_v (fe_cP h_L_same (hr.mono (by omega)) (takes_of rfl rfl rfl rfl) (fa_cons (fe_seqL true (fa_cons (fe_cP h_cost (hr.mono (by omega)) (takes_of rfl rfl rfl rfl) (fa_cons (fe_cP h_L_copied (hr.mono (by omega)) (takes_of rfl rfl rfl rfl) (fa_cons (fe_v 3) fa_nil)) (fa_cons (fe_callTy call_listW (B "list" (by decide)) (by decide +kernel) (fa_cons (fe_v 4) fa_nil)) fa_nil))) (fa_cons (fe_cPK0 (ks := ["indexes", "task"]) (pi := [1, 0]) h_cost (hr.mono (by omega)) (fun _ _ _ _ _ _ us ws hl hk => match us, ws, hl, hk with | [], [_, _], _, _ => rfl) (takes_of rfl rfl rfl rfl) (fk_cons (fe_callTy call_tupleW (B "tuple" (by decide)) (by decide +kernel) (fa_cons (fe_v 4) fa_nil)) (fk_cons (fe_cR h_L_handed (hr.mono (by omega)) (takes_of rfl rfl rfl rfl) (fa_cons (fe_v 1) (fa_cons (fe_v 3) fa_nil))) fk_nil))) fa_nil))) (fa_cons (fe_op op_mulW2 (fe_seqL true (fa_cons (fe_cP h_L_cost (hr.mono (by omega)) (takes_of rfl rfl rfl rfl) (fa_cons (fe_v 3) (fa_cons (fe_v 4) fa_nil))) fa_nil)) fe_int) fa_nil)))))))) (fs_one (fs_ret fe_bl)) fs_nil)
  (fs_cons (fs_expr (fe_cR h_L_spoilt (hr.mono (by omega)) (takes_of rfl rfl rfl rfl) (fa_cons (fe_seqL true (fa_cons (fe_ix (un_of hr) (fe_ix (un_of hr) (fe_v 7) fe_int) fe_int) (fa_cons (fe_ix (un_of hr) (fe_v 7) fe_int) fa_nil))) fa_nil)))
  (fs_cons (fs_if (ft_not (ft_v (fe_cP h_L_same (hr.mono (by omega)) (takes_of rfl rfl rfl rfl) (fa_cons (fe_cR h_runM (hr.mono (by omega)) (takes_of rfl rfl rfl rfl) (fa_cons (fe_cP h_L_copied (hr.mono (by omega)) (takes_of rfl rfl rfl rfl) (fa_cons (fe_v 3) fa_nil)) (fa_cons (fe_callTy call_listW (B "list" (by decide)) (by decide +kernel) (fa_cons (fe_v 4) fa_nil)) fa_nil))) (fa_cons (fe_v 5) fa_nil))))) (fs_one (fs_ret fe_bl)) fs_nil)
  (fs_cons (fs_asg (fe_seqT true (fa_cons (fe_cR h_L_draw (hr.mono (by omega)) (takes_of rfl rfl rfl rfl) (fa_cons (fe_v 1) (fa_cons (fe_op op_addW (fe_callB call_lenW (B "len" (by decide)) (by decide +kernel) (fa_cons (fe_v 4) fa_nil)) fe_int) fa_nil))) (fa_cons (fe_callB call_lenW (B "len" (by decide)) (by decide +kernel) (fa_cons (fe_ix (un_of hr) (fe_v 3) fe_int) fa_nil)) fa_nil))) (fg_tp rfl (fgs_cons (fg_nm 8 sc_law.nd rfl (.inl rfl) (.inl rfl)) (fgs_cons (fg_nm 9 sc_law.nd rfl (.inr rfl) (.inl rfl)) fgs_nil))))
  (fs_cons (fs_asg (fe_cR h_L_pick (hr.mono (by omega)) (takes_of rfl rfl rfl rfl) (fa_cons (fe_v 1) (fa_cons (fe_seqL true (fa_cons fe_non (fa_cons (fe_un un_negW fe_int) (fa_cons (fe_v 9) (fa_cons (fe_op op_addW (fe_v 9) fe_int) (fa_cons fe_bl (fa_cons fe_str (fa_cons (fe_seqL true (fa_cons fe_int fa_nil)) fa_nil)))))))) fa_nil))) (fg_nm 10 sc_law.nd rfl (.inl rfl) (.inl rfl)))
  (fs_cons (fs_asg (fe_seqL false (fa_cons (fe_v 4) (fa_cons (fe_callTy call_tupleW (B "tuple" (by decide)) (by decide +kernel) (fa_cons (fe_v 4) fa_nil)) (fa_cons (fe_sl true (fe_v 4) (fo_1 fe_int) fo_0) (fa_cons (fe_sl true (fe_v 4) fo_0 (fo_1 (fe_un un_negW fe_int))) (fa_cons (fe_rev true (fe_v 4)) (fa_cons (fe_op op_addW (fe_op op_addW (fe_sl true (fe_v 4) fo_0 (fo_1 (fe_v 8))) (fe_seqL true (fa_cons (fe_v 10) fa_nil))) (fe_sl true (fe_v 4) (fo_1 (fe_v 8)) fo_0)) (fa_cons (fe_seqL true (fa_cons (fe_v 10) fa_nil)) (fa_cons (fe_seqL true fa_nil) (fa_cons fe_non (fa_cons fe_str (fa_cons (fe_dict0 true) (fa_cons fe_int (fa_cons (fe_op op_addW (fe_v 4) (fe_v 4)) fa_nil)))))))))))))) (fg_nm 11 sc_law.nd rfl (.inl rfl) (.inl rfl)))
  (fs_cons (fs_expr (fe_extend (fe_v 11) (fa_cons (fe_seqL true (fa_cons (fe_lc (own := [("k", 19)]) true rfl sc_law.nd (fi_rng1 (B "range" (by decide)) (fa_cons fe_int fa_nil)) (blkOk_by (by rfl)) (fun _ _ _ _ _ => (fg_nm 19 sc_law.nd rfl (by first | exact .inl rfl | exact .inr rfl) (by first | exact .inr rfl | exact .inl rfl))) (fun _ _ _ _ _ => fts_nil) (fun _ _ _ _ _ => (fe_cR h_L_draw (hr.mono (by omega)) takes0 (fa_cons (fe_v 1) (fa_cons (fe_op op_addW (fe_v 9) fe_int) fa_nil))))) (fa_cons (fe_lc (own := [("k", 19)]) true rfl sc_law.nd (fi_rng1 (B "range" (by decide)) (fa_cons fe_int fa_nil)) (blkOk_by (by rfl)) (fun _ _ _ _ _ => (fg_nm 19 sc_law.nd rfl (by first | exact .inl rfl | exact .inr rfl) (by first | exact .inr rfl | exact .inl rfl))) (fun _ _ _ _ _ => fts_nil) (fun _ _ _ _ _ => (fe_cR h_L_draw (hr.mono (by omega)) takes0 (fa_cons (fe_v 1) (fa_cons (fe_op op_addW (fe_v 9) fe_int) fa_nil))))) fa_nil))) fa_nil)))
  (fs_cons (fs_for PassesOwn.leaving rfl (fi_seq (fe_v 11)) (fg_nm 12 sc_law.nd rfl (.inr rfl) (.inl rfl)) (fs_cons (fs_par2 rfl sc_law.nd rfl rfl (by decide) rfl rfl (fa_cons (fe_cP h_L_plan_fault (hr.mono (by omega)) (takes_of rfl rfl rfl rfl) (fa_cons (fe_v 3) (fa_cons (fe_v 12) fa_nil))) (fa_cons (fe_cP h_L_copied (hr.mono (by omega)) (takes_of rfl rfl rfl rfl) (fa_cons (fe_v 12) fa_nil)) fa_nil)) (by rfl))
  (fs_cons (fs_if (FW.ft (fw_or (ft_not (ft_v (fe_cP h_L_same (hr.mono (by omega)) (takes_of rfl rfl rfl rfl) (fa_cons (fe_seqL true (fa_cons (fe_cP h_plan_fault (hr.mono (by omega)) (takes_of rfl rfl rfl rfl) (fa_cons (fe_cP h_L_copied (hr.mono (by omega)) (takes_of rfl rfl rfl rfl) (fa_cons (fe_v 3) fa_nil)) (fa_cons (fe_v 14) fa_nil))) (fa_cons (fe_cPK0 (ks := ["thing", "task"]) (pi := [1, 0]) h_plan_fault (hr.mono (by omega)) (fun _ _ _ _ _ _ us ws hl hk => match us, ws, hl, hk with | [], [_, _], _, _ => rfl) (takes_of rfl rfl rfl rfl) (fk_cons (fe_cP h_L_copied (hr.mono (by omega)) (takes_of rfl rfl rfl rfl) (fa_cons (fe_v 12) fa_nil)) (fk_cons (fe_cR h_L_handed (hr.mono (by omega)) (takes_of rfl rfl rfl rfl) (fa_cons (fe_v 1) (fa_cons (fe_v 3) fa_nil))) fk_nil))) fa_nil))) (fa_cons (fe_seqL true (fa_cons (fe_v 13) (fa_cons (fe_v 13) fa_nil))) fa_nil))))) (fw_or1 (ft_not (ft_v (fe_cP h_L_same (hr.mono (by omega)) (takes_of rfl rfl rfl rfl) (fa_cons (fe_v 14) (fa_cons (fe_v 12) fa_nil)))))))) (fs_one (fs_ret fe_bl)) fs_nil)
  (fs_cons (fs_asg (fe_cP h_L_along (hr.mono (by omega)) (takes_of rfl rfl rfl rfl) (fa_cons (fe_v 3) (fa_cons (fe_v 12) fa_nil))) (fg_tp rfl (fgs_cons (fg_nm 15 sc_law.nd rfl (.inl rfl) (.inl rfl)) (fgs_cons (fg_nm 16 sc_law.nd rfl (.inl rfl) (.inl rfl)) fgs_nil))))
  (fs_one (fs_if (ft_cmp op_notNW (fe_v 15) fe_non) (fs_cons (fs_asg (fe_seqL false (fa_cons (fe_metD (X := cxOf (L2.CX P w) P w K mg base ["script", "stream", "turn", "task", "row", "states", "index", "told", "at", "many", "odd", "things", "thing", "fault", "handed", "short", "state", "wrong", "bad", "k"] "law" (defScope s_law) f (.ref c) A outer s H E) (("law" : Str) ++ ".<locals>.") M_L_met S_L_met (Or.inl rfl) (G_L_met rfl rfl) ET_L_met TB rfl rfl rfl (k := 11) (hr.mono (by omega)) (by rfl) (fun _ _ _ _ _ _ _ hr => (fe_cR h_runM (hr.mono (by omega)) (takes_of rfl rfl rfl rfl) (fa_cons (fe_cP h_L_copied (hr.mono (by omega)) (takes_of rfl rfl rfl rfl) (fa_cons (fe_v 3) fa_nil)) (fa_cons (fe_cP h_L_copied (hr.mono (by omega)) (takes_of rfl rfl rfl rfl) (fa_cons (fe_v 12) fa_nil)) fa_nil))))) fa_nil)) (fg_nm 17 sc_law.nd rfl (.inl rfl) (.inl rfl)))
  (fs_cons (fs_expr (fe_append (fe_v 17) (fa_cons (fe_metD (X := cxOf (L2.CX P w) P w K mg base ["script", "stream", "turn", "task", "row", "states", "index", "told", "at", "many", "odd", "things", "thing", "fault", "handed", "short", "state", "wrong", "bad", "k"] "law" (defScope s_law) f (.ref c) A outer s H E) (("law" : Str) ++ ".<locals>.") M_L_met S_L_met (Or.inl rfl) (G_L_met rfl rfl) ET_L_met TB rfl rfl rfl (k := 11) (hr.mono (by omega)) (by rfl) (fun _ _ _ _ _ _ _ hr => (fe_cP h_cost (hr.mono (by omega)) (takes_of rfl rfl rfl rfl) (fa_cons (fe_cP h_L_copied (hr.mono (by omega)) (takes_of rfl rfl rfl rfl) (fa_cons (fe_v 3) fa_nil)) (fa_cons (fe_cP h_L_copied (hr.mono (by omega)) (takes_of rfl rfl rfl rfl) (fa_cons (fe_v 12) fa_nil)) fa_nil))))) fa_nil)))
  (fs_one (fs_if (ft_not (ft_v (fe_cP h_L_same (hr.mono (by omega)) (takes_of rfl rfl rfl rfl) (fa_cons (fe_v 17) (fa_cons (fe_op op_mulW2 (fe_seqL true (fa_cons (fe_seqT true (fa_cons fe_str (fa_cons (fe_v 15) fa_nil))) fa_nil)) fe_int) fa_nil))))) (fs_one (fs_ret fe_bl)) fs_nil)))) fs_nil))))))
  (fs_cons (fs_asg (fe_cR h_L_bad_task (hr.mono (by omega)) (takes_of rfl rfl rfl rfl) (fa_cons (fe_v 1) fa_nil)) (fg_nm 18 sc_law.nd rfl (.inr rfl) (.inl rfl)))
  (fs_cons (fs_asg (fe_seqL false (fa_cons (fe_metD (X := cxOf (L2.CX P w) P w K mg base ["script", "stream", "turn", "task", "row", "states", "index", "told", "at", "many", "odd", "things", "thing", "fault", "handed", "short", "state", "wrong", "bad", "k"] "law" (defScope s_law) f (.ref c) A outer s H E) (("law" : Str) ++ ".<locals>.") M_L_met S_L_met (Or.inl rfl) (G_L_met rfl rfl) ET_L_met TB rfl rfl rfl (k := 11) (hr.mono (by omega)) (by rfl) (fun _ _ _ _ _ _ _ hr => (fe_cR h_runM (hr.mono (by omega)) (takes_of rfl rfl rfl rfl) (fa_cons (fe_ix (un_of hr) (fe_v 18) fe_int) (fa_cons fe_non fa_nil))))) fa_nil)) (fg_nm 17 sc_law.nd rfl (.inl rfl) (.inl rfl)))
  (fs_cons (fs_expr (fe_append (fe_v 17) (fa_cons (fe_metD (X := cxOf (L2.CX P w) P w K mg base ["script", "stream", "turn", "task", "row", "states", "index", "told", "at", "many", "odd", "things", "thing", "fault", "handed", "short", "state", "wrong", "bad", "k"] "law" (defScope s_law) f (.ref c) A outer s H E) (("law" : Str) ++ ".<locals>.") M_L_met S_L_met (Or.inl rfl) (G_L_met rfl rfl) ET_L_met TB rfl rfl rfl (k := 11) (hr.mono (by omega)) (by rfl) (fun _ _ _ _ _ _ _ hr => (fe_cP h_cost (hr.mono (by omega)) (takes_of rfl rfl rfl rfl) (fa_cons (fe_ix (un_of hr) (fe_v 18) fe_int) (fa_cons fe_non fa_nil))))) fa_nil)))
  (fs_cons (fs_expr (fe_append (fe_v 17) (fa_cons (fe_metD (X := cxOf (L2.CX P w) P w K mg base ["script", "stream", "turn", "task", "row", "states", "index", "told", "at", "many", "odd", "things", "thing", "fault", "handed", "short", "state", "wrong", "bad", "k"] "law" (defScope s_law) f (.ref c) A outer s H E) (("law" : Str) ++ ".<locals>.") M_L_met S_L_met (Or.inl rfl) (G_L_met rfl rfl) ET_L_met TB rfl rfl rfl (k := 11) (hr.mono (by omega)) (by rfl) (fun _ _ _ _ _ _ _ hr => (fe_cP h_plan_fault (hr.mono (by omega)) (takes_of rfl rfl rfl rfl) (fa_cons (fe_ix (un_of hr) (fe_v 18) fe_int) (fa_cons fe_non fa_nil))))) fa_nil)))
  (fs_one (fs_if (ft_not (ft_v (fe_cP h_L_same (hr.mono (by omega)) (takes_of rfl rfl rfl rfl) (fa_cons (fe_v 17) (fa_cons (fe_op op_mulW2 (fe_seqL true (fa_cons (fe_seqT true (fa_cons fe_str (fa_cons (fe_ix (un_of hr) (fe_v 18) fe_int) fa_nil))) fa_nil)) fe_int) fa_nil))))) (fs_one (fs_ret fe_bl)) fs_nil))))))))))))))))))))
  (fs_one (fs_ret fe_bl))))
end
end IL

set_option maxHeartbeats 4000007
namespace IL
open PySem PySem.Spec
open PyProof.Rows L2
section
open PySem.W (nsIn codeIn keepIn findIn typeIn subIn hasDictIn exmOne tabIn CodeHd tabObj mg_of mg_none_of)
theorem all_mk {l : PySem.W.OpenLaw} {q : Program} {w : World} {K : PySem.W.Frag} {h : Heap} {mg : Str → Option Value} {fa f0 c Pt : Addr}
    {oc0 kV0 dc0 pm0 cd0 ct0 : Value} {od0 an0 : Option Addr} {sl0 : Array (Option Value)}
    {occ : Value} {odc : Option Addr} {vsc : Array Value} {slc : Array (Option Value)}
    {f_L_stream_ : Addr} {oc_L_stream_ kV_L_stream_ dc_L_stream_ pm_L_stream_ cd_L_stream_ ct_L_stream_ : Value} {od_L_stream_ an_L_stream_ : Option Addr} {sl_L_stream_ : Array (Option Value)}
    {f_L_draw_ : Addr} {oc_L_draw_ kV_L_draw_ dc_L_draw_ pm_L_draw_ cd_L_draw_ ct_L_draw_ : Value} {od_L_draw_ an_L_draw_ : Option Addr} {sl_L_draw_ : Array (Option Value)}
    {f_L_pick_ : Addr} {oc_L_pick_ kV_L_pick_ dc_L_pick_ pm_L_pick_ cd_L_pick_ ct_L_pick_ : Value} {od_L_pick_ an_L_pick_ : Option Addr} {sl_L_pick_ : Array (Option Value)}
    {f_L_some_ : Addr} {oc_L_some_ kV_L_some_ dc_L_some_ pm_L_some_ cd_L_some_ ct_L_some_ : Value} {od_L_some_ an_L_some_ : Option Addr} {sl_L_some_ : Array (Option Value)}
    {f_L_task_ : Addr} {oc_L_task_ kV_L_task_ dc_L_task_ pm_L_task_ cd_L_task_ ct_L_task_ : Value} {od_L_task_ an_L_task_ : Option Addr} {sl_L_task_ : Array (Option Value)}
    {f_L_open_ : Addr} {oc_L_open_ kV_L_open_ dc_L_open_ pm_L_open_ cd_L_open_ ct_L_open_ : Value} {od_L_open_ an_L_open_ : Option Addr} {sl_L_open_ : Array (Option Value)}
    {f_L_after_ : Addr} {oc_L_after_ kV_L_after_ dc_L_after_ pm_L_after_ cd_L_after_ ct_L_after_ : Value} {od_L_after_ an_L_after_ : Option Addr} {sl_L_after_ : Array (Option Value)}
    {f_L_drawn_row_ : Addr} {oc_L_drawn_row_ kV_L_drawn_row_ dc_L_drawn_row_ pm_L_drawn_row_ cd_L_drawn_row_ ct_L_drawn_row_ : Value} {od_L_drawn_row_ an_L_drawn_row_ : Option Addr} {sl_L_drawn_row_ : Array (Option Value)}
    {f_is_list_ : Addr} {oc_is_list_ kV_is_list_ dc_is_list_ pm_is_list_ cd_is_list_ ct_is_list_ : Value} {od_is_list_ an_is_list_ : Option Addr} {sl_is_list_ : Array (Option Value)}
    {f_is_row_ : Addr} {oc_is_row_ kV_is_row_ dc_is_row_ pm_is_row_ cd_is_row_ ct_is_row_ : Value} {od_is_row_ an_is_row_ : Option Addr} {sl_is_row_ : Array (Option Value)}
    {f_is_name_ : Addr} {oc_is_name_ kV_is_name_ dc_is_name_ pm_is_name_ cd_is_name_ ct_is_name_ : Value} {od_is_name_ an_is_name_ : Option Addr} {sl_is_name_ : Array (Option Value)}
    {f_first_bad_name_ : Addr} {oc_first_bad_name_ kV_first_bad_name_ dc_first_bad_name_ pm_first_bad_name_ cd_first_bad_name_ ct_first_bad_name_ : Value} {od_first_bad_name_ an_first_bad_name_ : Option Addr} {sl_first_bad_name_ : Array (Option Value)}
    {f_is_whole_ : Addr} {oc_is_whole_ kV_is_whole_ dc_is_whole_ pm_is_whole_ cd_is_whole_ ct_is_whole_ : Value} {od_is_whole_ an_is_whole_ : Option Addr} {sl_is_whole_ : Array (Option Value)}
    {f_is_number_ : Addr} {oc_is_number_ kV_is_number_ dc_is_number_ pm_is_number_ cd_is_number_ ct_is_number_ : Value} {od_is_number_ an_is_number_ : Option Addr} {sl_is_number_ : Array (Option Value)}
    {f_are_facts_ : Addr} {oc_are_facts_ kV_are_facts_ dc_are_facts_ pm_are_facts_ cd_are_facts_ ct_are_facts_ : Value} {od_are_facts_ an_are_facts_ : Option Addr} {sl_are_facts_ : Array (Option Value)}
    {f_is_deed_ : Addr} {oc_is_deed_ kV_is_deed_ dc_is_deed_ pm_is_deed_ cd_is_deed_ ct_is_deed_ : Value} {od_is_deed_ an_is_deed_ : Option Addr} {sl_is_deed_ : Array (Option Value)}
    {f_fault_of_ : Addr} {oc_fault_of_ kV_fault_of_ dc_fault_of_ pm_fault_of_ cd_fault_of_ ct_fault_of_ : Value} {od_fault_of_ an_fault_of_ : Option Addr} {sl_fault_of_ : Array (Option Value)}
    {f_check_task_ : Addr} {oc_check_task_ kV_check_task_ dc_check_task_ pm_check_task_ cd_check_task_ ct_check_task_ : Value} {od_check_task_ an_check_task_ : Option Addr} {sl_check_task_ : Array (Option Value)}
    {f_first_lack_ : Addr} {oc_first_lack_ kV_first_lack_ dc_first_lack_ pm_first_lack_ cd_first_lack_ ct_first_lack_ : Value} {od_first_lack_ an_first_lack_ : Option Addr} {sl_first_lack_ : Array (Option Value)}
    {f_done_ : Addr} {oc_done_ kV_done_ dc_done_ pm_done_ cd_done_ ct_done_ : Value} {od_done_ an_done_ : Option Addr} {sl_done_ : Array (Option Value)}
    {f_fault_along_ : Addr} {oc_fault_along_ kV_fault_along_ dc_fault_along_ pm_fault_along_ cd_fault_along_ ct_fault_along_ : Value} {od_fault_along_ an_fault_along_ : Option Addr} {sl_fault_along_ : Array (Option Value)}
    {f_check_along_ : Addr} {oc_check_along_ kV_check_along_ dc_check_along_ pm_check_along_ cd_check_along_ ct_check_along_ : Value} {od_check_along_ an_check_along_ : Option Addr} {sl_check_along_ : Array (Option Value)}
    {f_states_along_ : Addr} {oc_states_along_ kV_states_along_ dc_states_along_ pm_states_along_ cd_states_along_ ct_states_along_ : Value} {od_states_along_ an_states_along_ : Option Addr} {sl_states_along_ : Array (Option Value)}
    {f_run_ : Addr} {oc_run_ kV_run_ dc_run_ pm_run_ cd_run_ ct_run_ : Value} {od_run_ an_run_ : Option Addr} {sl_run_ : Array (Option Value)}
    {f_L_copied_ : Addr} {oc_L_copied_ kV_L_copied_ dc_L_copied_ pm_L_copied_ cd_L_copied_ ct_L_copied_ : Value} {od_L_copied_ an_L_copied_ : Option Addr} {sl_L_copied_ : Array (Option Value)}
    {f_L_loose_ : Addr} {oc_L_loose_ kV_L_loose_ dc_L_loose_ pm_L_loose_ cd_L_loose_ ct_L_loose_ : Value} {od_L_loose_ an_L_loose_ : Option Addr} {sl_L_loose_ : Array (Option Value)}
    {f_L_handed_ : Addr} {oc_L_handed_ kV_L_handed_ dc_L_handed_ pm_L_handed_ cd_L_handed_ ct_L_handed_ : Value} {od_L_handed_ an_L_handed_ : Option Addr} {sl_L_handed_ : Array (Option Value)}
    {f_L_same_ : Addr} {oc_L_same_ kV_L_same_ dc_L_same_ pm_L_same_ cd_L_same_ ct_L_same_ : Value} {od_L_same_ an_L_same_ : Option Addr} {sl_L_same_ : Array (Option Value)}
    {f_L_cost_ : Addr} {oc_L_cost_ kV_L_cost_ dc_L_cost_ pm_L_cost_ cd_L_cost_ ct_L_cost_ : Value} {od_L_cost_ an_L_cost_ : Option Addr} {sl_L_cost_ : Array (Option Value)}
    {f_cost_of_ : Addr} {oc_cost_of_ kV_cost_of_ dc_cost_of_ pm_cost_of_ cd_cost_of_ ct_cost_of_ : Value} {od_cost_of_ an_cost_of_ : Option Addr} {sl_cost_of_ : Array (Option Value)}
    {f_cost_ : Addr} {oc_cost_ kV_cost_ dc_cost_ pm_cost_ cd_cost_ ct_cost_ : Value} {od_cost_ an_cost_ : Option Addr} {sl_cost_ : Array (Option Value)}
    {f_L_spoilt_ : Addr} {oc_L_spoilt_ kV_L_spoilt_ dc_L_spoilt_ pm_L_spoilt_ cd_L_spoilt_ ct_L_spoilt_ : Value} {od_L_spoilt_ an_L_spoilt_ : Option Addr} {sl_L_spoilt_ : Array (Option Value)}
    {f_L_is_whole_ : Addr} {oc_L_is_whole_ kV_L_is_whole_ dc_L_is_whole_ pm_L_is_whole_ cd_L_is_whole_ ct_L_is_whole_ : Value} {od_L_is_whole_ an_L_is_whole_ : Option Addr} {sl_L_is_whole_ : Array (Option Value)}
    {f_L_along_ : Addr} {oc_L_along_ kV_L_along_ dc_L_along_ pm_L_along_ cd_L_along_ ct_L_along_ : Value} {od_L_along_ an_L_along_ : Option Addr} {sl_L_along_ : Array (Option Value)}
    {f_L_plan_fault_ : Addr} {oc_L_plan_fault_ kV_L_plan_fault_ dc_L_plan_fault_ pm_L_plan_fault_ cd_L_plan_fault_ ct_L_plan_fault_ : Value} {od_L_plan_fault_ an_L_plan_fault_ : Option Addr} {sl_L_plan_fault_ : Array (Option Value)}
    {f_fault_of_plan_ : Addr} {oc_fault_of_plan_ kV_fault_of_plan_ dc_fault_of_plan_ pm_fault_of_plan_ cd_fault_of_plan_ ct_fault_of_plan_ : Value} {od_fault_of_plan_ an_fault_of_plan_ : Option Addr} {sl_fault_of_plan_ : Array (Option Value)}
    {f_plan_fault_ : Addr} {oc_plan_fault_ kV_plan_fault_ dc_plan_fault_ pm_plan_fault_ cd_plan_fault_ ct_plan_fault_ : Value} {od_plan_fault_ an_plan_fault_ : Option Addr} {sl_plan_fault_ : Array (Option Value)}
    {f_L_bad_task_ : Addr} {oc_L_bad_task_ kV_L_bad_task_ dc_L_bad_task_ pm_L_bad_task_ cd_L_bad_task_ ct_L_bad_task_ : Value} {od_L_bad_task_ an_L_bad_task_ : Option Addr} {sl_L_bad_task_ : Array (Option Value)}
    {f_L_met_ : Addr} {oc_L_met_ kV_L_met_ dc_L_met_ pm_L_met_ cd_L_met_ ct_L_met_ : Value} {od_L_met_ an_L_met_ : Option Addr} {sl_L_met_ : Array (Option Value)}
    {C_XBadTask : Addr} {bm_XBadTask : List Value} {nm_XBadTask q_XBadTask : Str} {N_XBadTask : Addr} {bs_XBadTask : List Value} {sn_XBadTask : List Str} {sub_XBadTask : List Value} {ab_XBadTask : Bool} {col_XBadTask : Option Bool} {dd_XBadTask : Option Addr} {m0_XBadTask m1_XBadTask m2_XBadTask m3_XBadTask m5_XBadTask : Option Value} {f_XBadTask : Addr} {oc_XBadTask kV_XBadTask dc_XBadTask pm_XBadTask cd_XBadTask ct_XBadTask : Value} {od_XBadTask an_XBadTask : Option Addr} {sl_XBadTask : Array (Option Value)}
    {C_XBadPlan : Addr} {bm_XBadPlan : List Value} {nm_XBadPlan q_XBadPlan : Str} {N_XBadPlan : Addr} {bs_XBadPlan : List Value} {sn_XBadPlan : List Str} {sub_XBadPlan : List Value} {ab_XBadPlan : Bool} {col_XBadPlan : Option Bool} {dd_XBadPlan : Option Addr} {m0_XBadPlan m1_XBadPlan m2_XBadPlan m3_XBadPlan m5_XBadPlan : Option Value} {f_XBadPlan : Addr} {oc_XBadPlan kV_XBadPlan dc_XBadPlan pm_XBadPlan cd_XBadPlan ct_XBadPlan : Value} {od_XBadPlan an_XBadPlan : Option Addr} {sl_XBadPlan : Array (Option Value)}
    (KX : K.In h) (G : h.Ns mainGlobals mg) (hfa : mg "law" = some (.ref fa))
    (tf : ∀ (e : DefRec) (y : Str) (c P : Addr), (recsOf q).find? (fun z => z.name == y) = some e → tabIn K y = some (c, P) → CodeHd h c P ∧ h.get? P = some (tabObj #[]))
    (a0 : nsIn K mainGlobals "law" = some (some (.ref f0)))
    (l0 : K.lookup f0 = some ⟨oc0, od0, .func (PySem.W.fnOf "law" "law" (defArgs s_law) (defBody s_law) (defScope s_law) .none kV0 dc0 pm0 an0 cd0 ct0), sl0⟩)
    (c0 : codeIn K cd0 "law" = true)
    (cv : cd0 = .ref c)
    (lc : K.lookup c = some ⟨occ, odc, .fields vsc, slc⟩)
    (h11 : (vsc[11]? : Option Value) = some (.ref Pt))
    (nP : K.lookup Pt = none)
    (a_L_stream_ : nsIn K mainGlobals "_law_stream" = some (some (.ref f_L_stream_)))
    (l_L_stream_ : K.lookup f_L_stream_ = some ⟨oc_L_stream_, od_L_stream_, .func (PySem.W.fnOf "_law_stream" "_law_stream" (defArgs s_L_stream) (defBody s_L_stream) (defScope s_L_stream) .none kV_L_stream_ dc_L_stream_ pm_L_stream_ an_L_stream_ cd_L_stream_ ct_L_stream_), sl_L_stream_⟩)
    (c_L_stream_ : codeIn K cd_L_stream_ "_law_stream" = true)
    (k_L_stream_ : keepIn K (.ref f_L_stream_) = true)
    (a_L_draw_ : nsIn K mainGlobals "_law_draw" = some (some (.ref f_L_draw_)))
    (l_L_draw_ : K.lookup f_L_draw_ = some ⟨oc_L_draw_, od_L_draw_, .func (PySem.W.fnOf "_law_draw" "_law_draw" (defArgs s_L_draw) (defBody s_L_draw) (defScope s_L_draw) .none kV_L_draw_ dc_L_draw_ pm_L_draw_ an_L_draw_ cd_L_draw_ ct_L_draw_), sl_L_draw_⟩)
    (c_L_draw_ : codeIn K cd_L_draw_ "_law_draw" = true)
    (k_L_draw_ : keepIn K (.ref f_L_draw_) = true)
    (a_L_pick_ : nsIn K mainGlobals "_law_pick" = some (some (.ref f_L_pick_)))
    (l_L_pick_ : K.lookup f_L_pick_ = some ⟨oc_L_pick_, od_L_pick_, .func (PySem.W.fnOf "_law_pick" "_law_pick" (defArgs s_L_pick) (defBody s_L_pick) (defScope s_L_pick) .none kV_L_pick_ dc_L_pick_ pm_L_pick_ an_L_pick_ cd_L_pick_ ct_L_pick_), sl_L_pick_⟩)
    (c_L_pick_ : codeIn K cd_L_pick_ "_law_pick" = true)
    (k_L_pick_ : keepIn K (.ref f_L_pick_) = true)
    (a_L_some_ : nsIn K mainGlobals "_law_some" = some (some (.ref f_L_some_)))
    (l_L_some_ : K.lookup f_L_some_ = some ⟨oc_L_some_, od_L_some_, .func (PySem.W.fnOf "_law_some" "_law_some" (defArgs s_L_some) (defBody s_L_some) (defScope s_L_some) .none kV_L_some_ dc_L_some_ pm_L_some_ an_L_some_ cd_L_some_ ct_L_some_), sl_L_some_⟩)
    (c_L_some_ : codeIn K cd_L_some_ "_law_some" = true)
    (k_L_some_ : keepIn K (.ref f_L_some_) = true)
    (a_L_task_ : nsIn K mainGlobals "_law_task" = some (some (.ref f_L_task_)))
    (l_L_task_ : K.lookup f_L_task_ = some ⟨oc_L_task_, od_L_task_, .func (PySem.W.fnOf "_law_task" "_law_task" (defArgs s_L_task) (defBody s_L_task) (defScope s_L_task) .none kV_L_task_ dc_L_task_ pm_L_task_ an_L_task_ cd_L_task_ ct_L_task_), sl_L_task_⟩)
    (c_L_task_ : codeIn K cd_L_task_ "_law_task" = true)
    (k_L_task_ : keepIn K (.ref f_L_task_) = true)
    (a_L_open_ : nsIn K mainGlobals "_law_open" = some (some (.ref f_L_open_)))
    (l_L_open_ : K.lookup f_L_open_ = some ⟨oc_L_open_, od_L_open_, .func (PySem.W.fnOf "_law_open" "_law_open" (defArgs s_L_open) (defBody s_L_open) (defScope s_L_open) .none kV_L_open_ dc_L_open_ pm_L_open_ an_L_open_ cd_L_open_ ct_L_open_), sl_L_open_⟩)
    (c_L_open_ : codeIn K cd_L_open_ "_law_open" = true)
    (k_L_open_ : keepIn K (.ref f_L_open_) = true)
    (a_L_after_ : nsIn K mainGlobals "_law_after" = some (some (.ref f_L_after_)))
    (l_L_after_ : K.lookup f_L_after_ = some ⟨oc_L_after_, od_L_after_, .func (PySem.W.fnOf "_law_after" "_law_after" (defArgs s_L_after) (defBody s_L_after) (defScope s_L_after) .none kV_L_after_ dc_L_after_ pm_L_after_ an_L_after_ cd_L_after_ ct_L_after_), sl_L_after_⟩)
    (c_L_after_ : codeIn K cd_L_after_ "_law_after" = true)
    (k_L_after_ : keepIn K (.ref f_L_after_) = true)
    (a_L_drawn_row_ : nsIn K mainGlobals "_law_drawn_row" = some (some (.ref f_L_drawn_row_)))
    (l_L_drawn_row_ : K.lookup f_L_drawn_row_ = some ⟨oc_L_drawn_row_, od_L_drawn_row_, .func (PySem.W.fnOf "_law_drawn_row" "_law_drawn_row" (defArgs s_L_drawn_row) (defBody s_L_drawn_row) (defScope s_L_drawn_row) .none kV_L_drawn_row_ dc_L_drawn_row_ pm_L_drawn_row_ an_L_drawn_row_ cd_L_drawn_row_ ct_L_drawn_row_), sl_L_drawn_row_⟩)
    (c_L_drawn_row_ : codeIn K cd_L_drawn_row_ "_law_drawn_row" = true)
    (k_L_drawn_row_ : keepIn K (.ref f_L_drawn_row_) = true)
    (a_is_list_ : nsIn K mainGlobals "is_list" = some (some (.ref f_is_list_)))
    (l_is_list_ : K.lookup f_is_list_ = some ⟨oc_is_list_, od_is_list_, .func (PySem.W.fnOf "is_list" "is_list" (defArgs s_is_list) (defBody s_is_list) (defScope s_is_list) .none kV_is_list_ dc_is_list_ pm_is_list_ an_is_list_ cd_is_list_ ct_is_list_), sl_is_list_⟩)
    (c_is_list_ : codeIn K cd_is_list_ "is_list" = true)
    (k_is_list_ : keepIn K (.ref f_is_list_) = true)
    (a_is_row_ : nsIn K mainGlobals "is_row" = some (some (.ref f_is_row_)))
    (l_is_row_ : K.lookup f_is_row_ = some ⟨oc_is_row_, od_is_row_, .func (PySem.W.fnOf "is_row" "is_row" (defArgs s_is_row) (defBody s_is_row) (defScope s_is_row) .none kV_is_row_ dc_is_row_ pm_is_row_ an_is_row_ cd_is_row_ ct_is_row_), sl_is_row_⟩)
    (c_is_row_ : codeIn K cd_is_row_ "is_row" = true)
    (k_is_row_ : keepIn K (.ref f_is_row_) = true)
    (a_is_name_ : nsIn K mainGlobals "is_name" = some (some (.ref f_is_name_)))
    (l_is_name_ : K.lookup f_is_name_ = some ⟨oc_is_name_, od_is_name_, .func (PySem.W.fnOf "is_name" "is_name" (defArgs s_is_name) (defBody s_is_name) (defScope s_is_name) .none kV_is_name_ dc_is_name_ pm_is_name_ an_is_name_ cd_is_name_ ct_is_name_), sl_is_name_⟩)
    (c_is_name_ : codeIn K cd_is_name_ "is_name" = true)
    (k_is_name_ : keepIn K (.ref f_is_name_) = true)
    (a_first_bad_name_ : nsIn K mainGlobals "first_bad_name" = some (some (.ref f_first_bad_name_)))
    (l_first_bad_name_ : K.lookup f_first_bad_name_ = some ⟨oc_first_bad_name_, od_first_bad_name_, .func (PySem.W.fnOf "first_bad_name" "first_bad_name" (defArgs s_first_bad_name) (defBody s_first_bad_name) (defScope s_first_bad_name) .none kV_first_bad_name_ dc_first_bad_name_ pm_first_bad_name_ an_first_bad_name_ cd_first_bad_name_ ct_first_bad_name_), sl_first_bad_name_⟩)
    (c_first_bad_name_ : codeIn K cd_first_bad_name_ "first_bad_name" = true)
    (k_first_bad_name_ : keepIn K (.ref f_first_bad_name_) = true)
    (a_is_whole_ : nsIn K mainGlobals "is_whole" = some (some (.ref f_is_whole_)))
    (l_is_whole_ : K.lookup f_is_whole_ = some ⟨oc_is_whole_, od_is_whole_, .func (PySem.W.fnOf "is_whole" "is_whole" (defArgs s_is_whole) (defBody s_is_whole) (defScope s_is_whole) .none kV_is_whole_ dc_is_whole_ pm_is_whole_ an_is_whole_ cd_is_whole_ ct_is_whole_), sl_is_whole_⟩)
    (c_is_whole_ : codeIn K cd_is_whole_ "is_whole" = true)
    (k_is_whole_ : keepIn K (.ref f_is_whole_) = true)
    (a_is_number_ : nsIn K mainGlobals "is_number" = some (some (.ref f_is_number_)))
    (l_is_number_ : K.lookup f_is_number_ = some ⟨oc_is_number_, od_is_number_, .func (PySem.W.fnOf "is_number" "is_number" (defArgs s_is_number) (defBody s_is_number) (defScope s_is_number) .none kV_is_number_ dc_is_number_ pm_is_number_ an_is_number_ cd_is_number_ ct_is_number_), sl_is_number_⟩)
    (c_is_number_ : codeIn K cd_is_number_ "is_number" = true)
    (k_is_number_ : keepIn K (.ref f_is_number_) = true)
    (a_are_facts_ : nsIn K mainGlobals "are_facts" = some (some (.ref f_are_facts_)))
    (l_are_facts_ : K.lookup f_are_facts_ = some ⟨oc_are_facts_, od_are_facts_, .func (PySem.W.fnOf "are_facts" "are_facts" (defArgs s_are_facts) (defBody s_are_facts) (defScope s_are_facts) .none kV_are_facts_ dc_are_facts_ pm_are_facts_ an_are_facts_ cd_are_facts_ ct_are_facts_), sl_are_facts_⟩)
    (c_are_facts_ : codeIn K cd_are_facts_ "are_facts" = true)
    (k_are_facts_ : keepIn K (.ref f_are_facts_) = true)
    (a_is_deed_ : nsIn K mainGlobals "is_deed" = some (some (.ref f_is_deed_)))
    (l_is_deed_ : K.lookup f_is_deed_ = some ⟨oc_is_deed_, od_is_deed_, .func (PySem.W.fnOf "is_deed" "is_deed" (defArgs s_is_deed) (defBody s_is_deed) (defScope s_is_deed) .none kV_is_deed_ dc_is_deed_ pm_is_deed_ an_is_deed_ cd_is_deed_ ct_is_deed_), sl_is_deed_⟩)
    (c_is_deed_ : codeIn K cd_is_deed_ "is_deed" = true)
    (k_is_deed_ : keepIn K (.ref f_is_deed_) = true)
    (a_fault_of_ : nsIn K mainGlobals "fault_of" = some (some (.ref f_fault_of_)))
    (l_fault_of_ : K.lookup f_fault_of_ = some ⟨oc_fault_of_, od_fault_of_, .func (PySem.W.fnOf "fault_of" "fault_of" (defArgs s_fault_of) (defBody s_fault_of) (defScope s_fault_of) .none kV_fault_of_ dc_fault_of_ pm_fault_of_ an_fault_of_ cd_fault_of_ ct_fault_of_), sl_fault_of_⟩)
    (c_fault_of_ : codeIn K cd_fault_of_ "fault_of" = true)
    (k_fault_of_ : keepIn K (.ref f_fault_of_) = true)
    (a_check_task_ : nsIn K mainGlobals "check_task" = some (some (.ref f_check_task_)))
    (l_check_task_ : K.lookup f_check_task_ = some ⟨oc_check_task_, od_check_task_, .func (PySem.W.fnOf "check_task" "check_task" (defArgs s_check_task) (defBody s_check_task) (defScope s_check_task) .none kV_check_task_ dc_check_task_ pm_check_task_ an_check_task_ cd_check_task_ ct_check_task_), sl_check_task_⟩)
    (c_check_task_ : codeIn K cd_check_task_ "check_task" = true)
    (k_check_task_ : keepIn K (.ref f_check_task_) = true)
    (a_first_lack_ : nsIn K mainGlobals "first_lack" = some (some (.ref f_first_lack_)))
    (l_first_lack_ : K.lookup f_first_lack_ = some ⟨oc_first_lack_, od_first_lack_, .func (PySem.W.fnOf "first_lack" "first_lack" (defArgs s_first_lack) (defBody s_first_lack) (defScope s_first_lack) .none kV_first_lack_ dc_first_lack_ pm_first_lack_ an_first_lack_ cd_first_lack_ ct_first_lack_), sl_first_lack_⟩)
    (c_first_lack_ : codeIn K cd_first_lack_ "first_lack" = true)
    (k_first_lack_ : keepIn K (.ref f_first_lack_) = true)
    (a_done_ : nsIn K mainGlobals "done" = some (some (.ref f_done_)))
    (l_done_ : K.lookup f_done_ = some ⟨oc_done_, od_done_, .func (PySem.W.fnOf "done" "done" (defArgs s_done) (defBody s_done) (defScope s_done) .none kV_done_ dc_done_ pm_done_ an_done_ cd_done_ ct_done_), sl_done_⟩)
    (c_done_ : codeIn K cd_done_ "done" = true)
    (k_done_ : keepIn K (.ref f_done_) = true)
    (a_fault_along_ : nsIn K mainGlobals "fault_along" = some (some (.ref f_fault_along_)))
    (l_fault_along_ : K.lookup f_fault_along_ = some ⟨oc_fault_along_, od_fault_along_, .func (PySem.W.fnOf "fault_along" "fault_along" (defArgs s_fault_along) (defBody s_fault_along) (defScope s_fault_along) .none kV_fault_along_ dc_fault_along_ pm_fault_along_ an_fault_along_ cd_fault_along_ ct_fault_along_), sl_fault_along_⟩)
    (c_fault_along_ : codeIn K cd_fault_along_ "fault_along" = true)
    (k_fault_along_ : keepIn K (.ref f_fault_along_) = true)
    (a_check_along_ : nsIn K mainGlobals "check_along" = some (some (.ref f_check_along_)))
    (l_check_along_ : K.lookup f_check_along_ = some ⟨oc_check_along_, od_check_along_, .func (PySem.W.fnOf "check_along" "check_along" (defArgs s_check_along) (defBody s_check_along) (defScope s_check_along) .none kV_check_along_ dc_check_along_ pm_check_along_ an_check_along_ cd_check_along_ ct_check_along_), sl_check_along_⟩)
    (c_check_along_ : codeIn K cd_check_along_ "check_along" = true)
    (k_check_along_ : keepIn K (.ref f_check_along_) = true)
    (a_states_along_ : nsIn K mainGlobals "states_along" = some (some (.ref f_states_along_)))
    (l_states_along_ : K.lookup f_states_along_ = some ⟨oc_states_along_, od_states_along_, .func (PySem.W.fnOf "states_along" "states_along" (defArgs s_states_along) (defBody s_states_along) (defScope s_states_along) .none kV_states_along_ dc_states_along_ pm_states_along_ an_states_along_ cd_states_along_ ct_states_along_), sl_states_along_⟩)
    (c_states_along_ : codeIn K cd_states_along_ "states_along" = true)
    (k_states_along_ : keepIn K (.ref f_states_along_) = true)
    (a_run_ : nsIn K mainGlobals "run" = some (some (.ref f_run_)))
    (l_run_ : K.lookup f_run_ = some ⟨oc_run_, od_run_, .func (PySem.W.fnOf "run" "run" (defArgs s_run) (defBody s_run) (defScope s_run) .none kV_run_ dc_run_ pm_run_ an_run_ cd_run_ ct_run_), sl_run_⟩)
    (c_run_ : codeIn K cd_run_ "run" = true)
    (k_run_ : keepIn K (.ref f_run_) = true)
    (a_L_copied_ : nsIn K mainGlobals "_law_copied" = some (some (.ref f_L_copied_)))
    (l_L_copied_ : K.lookup f_L_copied_ = some ⟨oc_L_copied_, od_L_copied_, .func (PySem.W.fnOf "_law_copied" "_law_copied" (defArgs s_L_copied) (defBody s_L_copied) (defScope s_L_copied) .none kV_L_copied_ dc_L_copied_ pm_L_copied_ an_L_copied_ cd_L_copied_ ct_L_copied_), sl_L_copied_⟩)
    (c_L_copied_ : codeIn K cd_L_copied_ "_law_copied" = true)
    (k_L_copied_ : keepIn K (.ref f_L_copied_) = true)
    (a_L_loose_ : nsIn K mainGlobals "_law_loose" = some (some (.ref f_L_loose_)))
    (l_L_loose_ : K.lookup f_L_loose_ = some ⟨oc_L_loose_, od_L_loose_, .func (PySem.W.fnOf "_law_loose" "_law_loose" (defArgs s_L_loose) (defBody s_L_loose) (defScope s_L_loose) .none kV_L_loose_ dc_L_loose_ pm_L_loose_ an_L_loose_ cd_L_loose_ ct_L_loose_), sl_L_loose_⟩)
    (c_L_loose_ : codeIn K cd_L_loose_ "_law_loose" = true)
    (k_L_loose_ : keepIn K (.ref f_L_loose_) = true)
    (a_L_handed_ : nsIn K mainGlobals "_law_handed" = some (some (.ref f_L_handed_)))
    (l_L_handed_ : K.lookup f_L_handed_ = some ⟨oc_L_handed_, od_L_handed_, .func (PySem.W.fnOf "_law_handed" "_law_handed" (defArgs s_L_handed) (defBody s_L_handed) (defScope s_L_handed) .none kV_L_handed_ dc_L_handed_ pm_L_handed_ an_L_handed_ cd_L_handed_ ct_L_handed_), sl_L_handed_⟩)
    (c_L_handed_ : codeIn K cd_L_handed_ "_law_handed" = true)
    (k_L_handed_ : keepIn K (.ref f_L_handed_) = true)
    (a_L_same_ : nsIn K mainGlobals "_law_same" = some (some (.ref f_L_same_)))
    (l_L_same_ : K.lookup f_L_same_ = some ⟨oc_L_same_, od_L_same_, .func (PySem.W.fnOf "_law_same" "_law_same" (defArgs s_L_same) (defBody s_L_same) (defScope s_L_same) .none kV_L_same_ dc_L_same_ pm_L_same_ an_L_same_ cd_L_same_ ct_L_same_), sl_L_same_⟩)
    (c_L_same_ : codeIn K cd_L_same_ "_law_same" = true)
    (k_L_same_ : keepIn K (.ref f_L_same_) = true)
    (a_L_cost_ : nsIn K mainGlobals "_law_cost" = some (some (.ref f_L_cost_)))
    (l_L_cost_ : K.lookup f_L_cost_ = some ⟨oc_L_cost_, od_L_cost_, .func (PySem.W.fnOf "_law_cost" "_law_cost" (defArgs s_L_cost) (defBody s_L_cost) (defScope s_L_cost) .none kV_L_cost_ dc_L_cost_ pm_L_cost_ an_L_cost_ cd_L_cost_ ct_L_cost_), sl_L_cost_⟩)
    (c_L_cost_ : codeIn K cd_L_cost_ "_law_cost" = true)
    (k_L_cost_ : keepIn K (.ref f_L_cost_) = true)
    (a_cost_of_ : nsIn K mainGlobals "cost_of" = some (some (.ref f_cost_of_)))
    (l_cost_of_ : K.lookup f_cost_of_ = some ⟨oc_cost_of_, od_cost_of_, .func (PySem.W.fnOf "cost_of" "cost_of" (defArgs s_cost_of) (defBody s_cost_of) (defScope s_cost_of) .none kV_cost_of_ dc_cost_of_ pm_cost_of_ an_cost_of_ cd_cost_of_ ct_cost_of_), sl_cost_of_⟩)
    (c_cost_of_ : codeIn K cd_cost_of_ "cost_of" = true)
    (k_cost_of_ : keepIn K (.ref f_cost_of_) = true)
    (a_cost_ : nsIn K mainGlobals "cost" = some (some (.ref f_cost_)))
    (l_cost_ : K.lookup f_cost_ = some ⟨oc_cost_, od_cost_, .func (PySem.W.fnOf "cost" "cost" (defArgs s_cost) (defBody s_cost) (defScope s_cost) .none kV_cost_ dc_cost_ pm_cost_ an_cost_ cd_cost_ ct_cost_), sl_cost_⟩)
    (c_cost_ : codeIn K cd_cost_ "cost" = true)
    (k_cost_ : keepIn K (.ref f_cost_) = true)
    (a_L_spoilt_ : nsIn K mainGlobals "_law_spoilt" = some (some (.ref f_L_spoilt_)))
    (l_L_spoilt_ : K.lookup f_L_spoilt_ = some ⟨oc_L_spoilt_, od_L_spoilt_, .func (PySem.W.fnOf "_law_spoilt" "_law_spoilt" (defArgs s_L_spoilt) (defBody s_L_spoilt) (defScope s_L_spoilt) .none kV_L_spoilt_ dc_L_spoilt_ pm_L_spoilt_ an_L_spoilt_ cd_L_spoilt_ ct_L_spoilt_), sl_L_spoilt_⟩)
    (c_L_spoilt_ : codeIn K cd_L_spoilt_ "_law_spoilt" = true)
    (k_L_spoilt_ : keepIn K (.ref f_L_spoilt_) = true)
    (a_L_is_whole_ : nsIn K mainGlobals "_law_is_whole" = some (some (.ref f_L_is_whole_)))
    (l_L_is_whole_ : K.lookup f_L_is_whole_ = some ⟨oc_L_is_whole_, od_L_is_whole_, .func (PySem.W.fnOf "_law_is_whole" "_law_is_whole" (defArgs s_L_is_whole) (defBody s_L_is_whole) (defScope s_L_is_whole) .none kV_L_is_whole_ dc_L_is_whole_ pm_L_is_whole_ an_L_is_whole_ cd_L_is_whole_ ct_L_is_whole_), sl_L_is_whole_⟩)
    (c_L_is_whole_ : codeIn K cd_L_is_whole_ "_law_is_whole" = true)
    (k_L_is_whole_ : keepIn K (.ref f_L_is_whole_) = true)
    (a_L_along_ : nsIn K mainGlobals "_law_along" = some (some (.ref f_L_along_)))
    (l_L_along_ : K.lookup f_L_along_ = some ⟨oc_L_along_, od_L_along_, .func (PySem.W.fnOf "_law_along" "_law_along" (defArgs s_L_along) (defBody s_L_along) (defScope s_L_along) .none kV_L_along_ dc_L_along_ pm_L_along_ an_L_along_ cd_L_along_ ct_L_along_), sl_L_along_⟩)
    (c_L_along_ : codeIn K cd_L_along_ "_law_along" = true)
    (k_L_along_ : keepIn K (.ref f_L_along_) = true)
    (a_L_plan_fault_ : nsIn K mainGlobals "_law_plan_fault" = some (some (.ref f_L_plan_fault_)))
    (l_L_plan_fault_ : K.lookup f_L_plan_fault_ = some ⟨oc_L_plan_fault_, od_L_plan_fault_, .func (PySem.W.fnOf "_law_plan_fault" "_law_plan_fault" (defArgs s_L_plan_fault) (defBody s_L_plan_fault) (defScope s_L_plan_fault) .none kV_L_plan_fault_ dc_L_plan_fault_ pm_L_plan_fault_ an_L_plan_fault_ cd_L_plan_fault_ ct_L_plan_fault_), sl_L_plan_fault_⟩)
    (c_L_plan_fault_ : codeIn K cd_L_plan_fault_ "_law_plan_fault" = true)
    (k_L_plan_fault_ : keepIn K (.ref f_L_plan_fault_) = true)
    (a_fault_of_plan_ : nsIn K mainGlobals "fault_of_plan" = some (some (.ref f_fault_of_plan_)))
    (l_fault_of_plan_ : K.lookup f_fault_of_plan_ = some ⟨oc_fault_of_plan_, od_fault_of_plan_, .func (PySem.W.fnOf "fault_of_plan" "fault_of_plan" (defArgs s_fault_of_plan) (defBody s_fault_of_plan) (defScope s_fault_of_plan) .none kV_fault_of_plan_ dc_fault_of_plan_ pm_fault_of_plan_ an_fault_of_plan_ cd_fault_of_plan_ ct_fault_of_plan_), sl_fault_of_plan_⟩)
    (c_fault_of_plan_ : codeIn K cd_fault_of_plan_ "fault_of_plan" = true)
    (k_fault_of_plan_ : keepIn K (.ref f_fault_of_plan_) = true)
    (a_plan_fault_ : nsIn K mainGlobals "plan_fault" = some (some (.ref f_plan_fault_)))
    (l_plan_fault_ : K.lookup f_plan_fault_ = some ⟨oc_plan_fault_, od_plan_fault_, .func (PySem.W.fnOf "plan_fault" "plan_fault" (defArgs s_plan_fault) (defBody s_plan_fault) (defScope s_plan_fault) .none kV_plan_fault_ dc_plan_fault_ pm_plan_fault_ an_plan_fault_ cd_plan_fault_ ct_plan_fault_), sl_plan_fault_⟩)
    (c_plan_fault_ : codeIn K cd_plan_fault_ "plan_fault" = true)
    (k_plan_fault_ : keepIn K (.ref f_plan_fault_) = true)
    (a_L_bad_task_ : nsIn K mainGlobals "_law_bad_task" = some (some (.ref f_L_bad_task_)))
    (l_L_bad_task_ : K.lookup f_L_bad_task_ = some ⟨oc_L_bad_task_, od_L_bad_task_, .func (PySem.W.fnOf "_law_bad_task" "_law_bad_task" (defArgs s_L_bad_task) (defBody s_L_bad_task) (defScope s_L_bad_task) .none kV_L_bad_task_ dc_L_bad_task_ pm_L_bad_task_ an_L_bad_task_ cd_L_bad_task_ ct_L_bad_task_), sl_L_bad_task_⟩)
    (c_L_bad_task_ : codeIn K cd_L_bad_task_ "_law_bad_task" = true)
    (k_L_bad_task_ : keepIn K (.ref f_L_bad_task_) = true)
    (a_L_met_ : nsIn K mainGlobals "_law_met" = some (some (.ref f_L_met_)))
    (l_L_met_ : K.lookup f_L_met_ = some ⟨oc_L_met_, od_L_met_, .func (PySem.W.fnOf "_law_met" "_law_met" (defArgs s_L_met) (defBody s_L_met) (defScope s_L_met) .none kV_L_met_ dc_L_met_ pm_L_met_ an_L_met_ cd_L_met_ ct_L_met_), sl_L_met_⟩)
    (c_L_met_ : codeIn K cd_L_met_ "_law_met" = true)
    (k_L_met_ : keepIn K (.ref f_L_met_) = true)
    (a_XBadTask : nsIn K mainGlobals "BadTask" = some (some (.ref C_XBadTask)))
    (xL_XBadTask : K.lookup C_XBadTask = some (excClassObj nm_XBadTask q_XBadTask C_XBadTask N_XBadTask bs_XBadTask bm_XBadTask true sn_XBadTask sub_XBadTask ab_XBadTask col_XBadTask dd_XBadTask m0_XBadTask m1_XBadTask m2_XBadTask m3_XBadTask m5_XBadTask "ValueError.__new__"))
    (xb_XBadTask : PySem.HandSPX.refsVE bm_XBadTask = true)
    (sa_XBadTask : findIn K (.ref C_XBadTask) "__setattr__" = some (some (.builtin "object.__setattr__")))
    (kC_XBadTask : keepIn K (.ref C_XBadTask) = true)
    (iC_XBadTask : findIn K (.ref C_XBadTask) "__init__" = some (some (.ref f_XBadTask)))
    (tI_XBadTask : typeIn K (.ref f_XBadTask) = some (.type "function"))
    (l_XBadTask : K.lookup f_XBadTask = some ⟨oc_XBadTask, od_XBadTask, .func (PySem.W.fnOf "__init__" "BadTask.__init__" (defArgs (inClass s_BadTask 0)) (defBody (inClass s_BadTask 0)) (defScope (inClass s_BadTask 0)) .none kV_XBadTask dc_XBadTask pm_XBadTask an_XBadTask cd_XBadTask ct_XBadTask), sl_XBadTask⟩)
    (c_XBadTask : codeIn K cd_XBadTask "BadTask.__init__" = true)
    (k_XBadTask : keepIn K (.ref f_XBadTask) = true)
    (tC_XBadTask : typeIn K (.ref C_XBadTask) = some (.type "type"))
    (eC_XBadTask : subIn K (.ref C_XBadTask) (.type "BaseException") = some true)
    (nf_XBadTask : findIn K (.ref C_XBadTask) "fault" = some none)
    (ga_XBadTask : findIn K (.ref C_XBadTask) "__getattribute__" = some (some (.builtin "BaseException.__getattribute__")))
    (gg_XBadTask : findIn K (.ref C_XBadTask) "__getattr__" = some none)
    (hC_XBadTask : hasDictIn K C_XBadTask = true)
    (is_XBadTask : PySem.W.isClsIn K C_XBadTask = true)
    (a_XBadPlan : nsIn K mainGlobals "BadPlan" = some (some (.ref C_XBadPlan)))
    (xL_XBadPlan : K.lookup C_XBadPlan = some (excClassObj nm_XBadPlan q_XBadPlan C_XBadPlan N_XBadPlan bs_XBadPlan bm_XBadPlan true sn_XBadPlan sub_XBadPlan ab_XBadPlan col_XBadPlan dd_XBadPlan m0_XBadPlan m1_XBadPlan m2_XBadPlan m3_XBadPlan m5_XBadPlan "ValueError.__new__"))
    (xb_XBadPlan : PySem.HandSPX.refsVE bm_XBadPlan = true)
    (sa_XBadPlan : findIn K (.ref C_XBadPlan) "__setattr__" = some (some (.builtin "object.__setattr__")))
    (kC_XBadPlan : keepIn K (.ref C_XBadPlan) = true)
    (iC_XBadPlan : findIn K (.ref C_XBadPlan) "__init__" = some (some (.ref f_XBadPlan)))
    (tI_XBadPlan : typeIn K (.ref f_XBadPlan) = some (.type "function"))
    (l_XBadPlan : K.lookup f_XBadPlan = some ⟨oc_XBadPlan, od_XBadPlan, .func (PySem.W.fnOf "__init__" "BadPlan.__init__" (defArgs (inClass s_BadPlan 0)) (defBody (inClass s_BadPlan 0)) (defScope (inClass s_BadPlan 0)) .none kV_XBadPlan dc_XBadPlan pm_XBadPlan an_XBadPlan cd_XBadPlan ct_XBadPlan), sl_XBadPlan⟩)
    (c_XBadPlan : codeIn K cd_XBadPlan "BadPlan.__init__" = true)
    (k_XBadPlan : keepIn K (.ref f_XBadPlan) = true)
    (tC_XBadPlan : typeIn K (.ref C_XBadPlan) = some (.type "type"))
    (eC_XBadPlan : subIn K (.ref C_XBadPlan) (.type "BaseException") = some true)
    (nf_XBadPlan : findIn K (.ref C_XBadPlan) "fault" = some none)
    (ga_XBadPlan : findIn K (.ref C_XBadPlan) "__getattribute__" = some (some (.builtin "BaseException.__getattribute__")))
    (gg_XBadPlan : findIn K (.ref C_XBadPlan) "__getattr__" = some none)
    (hC_XBadPlan : hasDictIn K C_XBadPlan = true)
    (is_XBadPlan : PySem.W.isClsIn K C_XBadPlan = true)
    (em_BadTask_BadTask : subIn K (.ref C_XBadTask) (.ref C_XBadTask) = some true)
    (em_BadTask_BadPlan : subIn K (.ref C_XBadTask) (.ref C_XBadPlan) = some false)
    (em_BadPlan_BadTask : subIn K (.ref C_XBadPlan) (.ref C_XBadTask) = some false)
    (em_BadPlan_BadPlan : subIn K (.ref C_XBadPlan) (.ref C_XBadPlan) = some true)
    (b_abs : nsIn K mainGlobals "abs" = some none)
    (b_all : nsIn K mainGlobals "all" = some none)
    (b_bool : nsIn K mainGlobals "bool" = some none)
    (b_dict : nsIn K mainGlobals "dict" = some none)
    (b_enumerate : nsIn K mainGlobals "enumerate" = some none)
    (b_int : nsIn K mainGlobals "int" = some none)
    (b_isinstance : nsIn K mainGlobals "isinstance" = some none)
    (b_len : nsIn K mainGlobals "len" = some none)
    (b_list : nsIn K mainGlobals "list" = some none)
    (b_range : nsIn K mainGlobals "range" = some none)
    (b_sorted : nsIn K mainGlobals "sorted" = some none)
    (b_str : nsIn K mainGlobals "str" = some none)
    (b_sum : nsIn K mainGlobals "sum" = some none)
    (b_tuple : nsIn K mainGlobals "tuple" = some none)
    (b_zip : nsIn K mainGlobals "zip" = some none)
    (rq : ∃ e, (recsOf q).find? (fun z => z.name == ("law" : Str)) = some e)
    (plain : ∀ (T : List (Addr × Str)) (ns : List Int), ns.length ≤ 63 → ∃ st', f_law T [.d (.scr ns)] [.tabs T] = .ok (.d (.bl true)) st') : LamX.LawAtS l w K (L2.CX l.prog w) 15 63 "script" mg fa h := by
  have e0 := hfa.symm.trans (mg_of KX G a0)
  cases e0
  have B : ∀ x ∈ blts, mg x = none := by
    intro x hx
    simp only [blts, List.mem_cons, List.not_mem_nil, or_false] at hx
    rcases hx with rfl | rfl | rfl | rfl | rfl | rfl | rfl | rfl | rfl | rfl | rfl | rfl | rfl | rfl | rfl
    · exact mg_none_of KX G b_abs
    · exact mg_none_of KX G b_all
    · exact mg_none_of KX G b_bool
    · exact mg_none_of KX G b_dict
    · exact mg_none_of KX G b_enumerate
    · exact mg_none_of KX G b_int
    · exact mg_none_of KX G b_isinstance
    · exact mg_none_of KX G b_len
    · exact mg_none_of KX G b_list
    · exact mg_none_of KX G b_range
    · exact mg_none_of KX G b_sorted
    · exact mg_none_of KX G b_str
    · exact mg_none_of KX G b_sum
    · exact mg_none_of KX G b_tuple
    · exact mg_none_of KX G b_zip
  obtain ⟨e1, rq⟩ := rq
  obtain ⟨hCd, hTb⟩ := tf e1 "law" c Pt rq (tab_mk a0 l0 cv lc h11)
  refine ⟨PySem.W.fnOf "law" "law" (defArgs s_law) (defBody s_law) (defScope s_law) .none kV0 dc0 pm0 an0 cd0 ct0, [(c, Pt)], spW K mg 1 (f_law [(Pt, (("law" : Str) ++ ".<locals>.") ++ "<lambda>")]), fun p hp => by rw [List.mem_singleton.mp hp]; exact hTb, fun p hp => by rw [List.mem_singleton.mp hp]; exact nP, fun p hp => by rw [List.mem_singleton.mp hp]; exact hCd, fun s v => .of_eq rfl, fun H a ns hl hbits hH hS => law_sp (T := [(Pt, (("law" : Str) ++ ".<locals>.") ++ "<lambda>")]) hS (.inr rfl) (fun p hp => by rw [List.mem_singleton.mp hp]; exact LamX.TabS.nil (hH (c, Pt) List.mem_cons_self)) (plain _ ns hl), fun base X' G' TB => ?_⟩
  have D_L_stream : Def K mg "_law_stream" s_L_stream ["script"] := def_mk KX G a_L_stream_ l_L_stream_ c_L_stream_ k_L_stream_ fun _ _ _ _ _ _ us hl => match us, hl with | [_], _ => rfl
  have D_L_draw : Def K mg "_law_draw" s_L_draw ["stream", "many"] := def_mk KX G a_L_draw_ l_L_draw_ c_L_draw_ k_L_draw_ fun _ _ _ _ _ _ us hl => match us, hl with | [_, _], _ => rfl
  have D_L_pick : Def K mg "_law_pick" s_L_pick ["stream", "things"] := def_mk KX G a_L_pick_ l_L_pick_ c_L_pick_ k_L_pick_ fun _ _ _ _ _ _ us hl => match us, hl with | [_, _], _ => rfl
  have D_L_some : Def K mg "_law_some" s_L_some ["stream", "facts", "rare"] := def_mk KX G a_L_some_ l_L_some_ c_L_some_ k_L_some_ fun _ _ _ _ _ _ us hl => match us, hl with | [_, _, _], _ => rfl
  have D_L_task : Def K mg "_law_task" s_L_task ["stream", "most"] := def_mk KX G a_L_task_ l_L_task_ c_L_task_ k_L_task_ fun _ _ _ _ _ _ us hl => match us, hl with | [_, _], _ => rfl
  have D_L_open : Def K mg "_law_open" s_L_open ["task", "state"] := def_mk KX G a_L_open_ l_L_open_ c_L_open_ k_L_open_ fun _ _ _ _ _ _ us hl => match us, hl with | [_, _], _ => rfl
  have D_L_after : Def K mg "_law_after" s_L_after ["task", "state", "index"] := def_mk KX G a_L_after_ l_L_after_ c_L_after_ k_L_after_ fun _ _ _ _ _ _ us hl => match us, hl with | [_, _, _], _ => rfl
  have D_L_drawn_row : Def K mg "_law_drawn_row" s_L_drawn_row ["stream", "task"] := def_mk KX G a_L_drawn_row_ l_L_drawn_row_ c_L_drawn_row_ k_L_drawn_row_ fun _ _ _ _ _ _ us hl => match us, hl with | [_, _], _ => rfl
  have D_is_list : Def K mg "is_list" s_is_list ["thing"] := def_mk KX G a_is_list_ l_is_list_ c_is_list_ k_is_list_ fun _ _ _ _ _ _ us hl => match us, hl with | [_], _ => rfl
  have D_is_row : Def K mg "is_row" s_is_row ["thing", "many"] := def_mk KX G a_is_row_ l_is_row_ c_is_row_ k_is_row_ fun _ _ _ _ _ _ us hl => match us, hl with | [_, _], _ => rfl
  have D_is_name : Def K mg "is_name" s_is_name ["thing"] := def_mk KX G a_is_name_ l_is_name_ c_is_name_ k_is_name_ fun _ _ _ _ _ _ us hl => match us, hl with | [_], _ => rfl
  have D_first_bad_name : Def K mg "first_bad_name" s_first_bad_name ["thing"] := def_mk KX G a_first_bad_name_ l_first_bad_name_ c_first_bad_name_ k_first_bad_name_ fun _ _ _ _ _ _ us hl => match us, hl with | [_], _ => rfl
  have D_is_whole : Def K mg "is_whole" s_is_whole ["thing"] := def_mk KX G a_is_whole_ l_is_whole_ c_is_whole_ k_is_whole_ fun _ _ _ _ _ _ us hl => match us, hl with | [_], _ => rfl
  have D_is_number : Def K mg "is_number" s_is_number ["thing"] := def_mk KX G a_is_number_ l_is_number_ c_is_number_ k_is_number_ fun _ _ _ _ _ _ us hl => match us, hl with | [_], _ => rfl
  have D_are_facts : Def K mg "are_facts" s_are_facts ["facts", "thing"] := def_mk KX G a_are_facts_ l_are_facts_ c_are_facts_ k_are_facts_ fun _ _ _ _ _ _ us hl => match us, hl with | [_, _], _ => rfl
  have D_is_deed : Def K mg "is_deed" s_is_deed ["facts", "thing"] := def_mk KX G a_is_deed_ l_is_deed_ c_is_deed_ k_is_deed_ fun _ _ _ _ _ _ us hl => match us, hl with | [_, _], _ => rfl
  have D_fault_of : Def K mg "fault_of" s_fault_of ["thing"] := def_mk KX G a_fault_of_ l_fault_of_ c_fault_of_ k_fault_of_ fun _ _ _ _ _ _ us hl => match us, hl with | [_], _ => rfl
  have D_check_task : Def K mg "check_task" s_check_task ["task"] := def_mk KX G a_check_task_ l_check_task_ c_check_task_ k_check_task_ fun _ _ _ _ _ _ us hl => match us, hl with | [_], _ => rfl
  have D_first_lack : Def K mg "first_lack" s_first_lack ["needs", "state"] := def_mk KX G a_first_lack_ l_first_lack_ c_first_lack_ k_first_lack_ fun _ _ _ _ _ _ us hl => match us, hl with | [_, _], _ => rfl
  have D_done : Def K mg "done" s_done ["deed", "state"] := def_mk KX G a_done_ l_done_ c_done_ k_done_ fun _ _ _ _ _ _ us hl => match us, hl with | [_, _], _ => rfl
  have D_fault_along : Def K mg "fault_along" s_fault_along ["task", "thing"] := def_mk KX G a_fault_along_ l_fault_along_ c_fault_along_ k_fault_along_ fun _ _ _ _ _ _ us hl => match us, hl with | [_, _], _ => rfl
  have D_check_along : Def K mg "check_along" s_check_along ["task", "indexes"] := def_mk KX G a_check_along_ l_check_along_ c_check_along_ k_check_along_ fun _ _ _ _ _ _ us hl => match us, hl with | [_, _], _ => rfl
  have D_states_along : Def K mg "states_along" s_states_along ["task", "indexes"] := def_mk KX G a_states_along_ l_states_along_ c_states_along_ k_states_along_ fun _ _ _ _ _ _ us hl => match us, hl with | [_, _], _ => rfl
  have D_run : Def K mg "run" s_run ["task", "indexes"] := def_mk KX G a_run_ l_run_ c_run_ k_run_ fun _ _ _ _ _ _ us hl => match us, hl with | [_, _], _ => rfl
  have D_L_copied : Def K mg "_law_copied" s_L_copied ["thing"] := def_mk KX G a_L_copied_ l_L_copied_ c_L_copied_ k_L_copied_ fun _ _ _ _ _ _ us hl => match us, hl with | [_], _ => rfl
  have D_L_loose : Def K mg "_law_loose" s_L_loose ["stream", "thing"] := def_mk KX G a_L_loose_ l_L_loose_ c_L_loose_ k_L_loose_ fun _ _ _ _ _ _ us hl => match us, hl with | [_, _], _ => rfl
  have D_L_handed : Def K mg "_law_handed" s_L_handed ["stream", "task"] := def_mk KX G a_L_handed_ l_L_handed_ c_L_handed_ k_L_handed_ fun _ _ _ _ _ _ us hl => match us, hl with | [_, _], _ => rfl
  have D_L_same : Def K mg "_law_same" s_L_same ["found", "due"] := def_mk KX G a_L_same_ l_L_same_ c_L_same_ k_L_same_ fun _ _ _ _ _ _ us hl => match us, hl with | [_, _], _ => rfl
  have D_L_cost : Def K mg "_law_cost" s_L_cost ["task", "plan"] := def_mk KX G a_L_cost_ l_L_cost_ c_L_cost_ k_L_cost_ fun _ _ _ _ _ _ us hl => match us, hl with | [_, _], _ => rfl
  have D_cost_of : Def K mg "cost_of" s_cost_of ["task", "indexes"] := def_mk KX G a_cost_of_ l_cost_of_ c_cost_of_ k_cost_of_ fun _ _ _ _ _ _ us hl => match us, hl with | [_, _], _ => rfl
  have D_cost : Def K mg "cost" s_cost ["task", "indexes"] := def_mk KX G a_cost_ l_cost_ c_cost_ k_cost_ fun _ _ _ _ _ _ us hl => match us, hl with | [_, _], _ => rfl
  have D_L_spoilt : Def K mg "_law_spoilt" s_L_spoilt ["thing"] := def_mk KX G a_L_spoilt_ l_L_spoilt_ c_L_spoilt_ k_L_spoilt_ fun _ _ _ _ _ _ us hl => match us, hl with | [_], _ => rfl
  have D_L_is_whole : Def K mg "_law_is_whole" s_L_is_whole ["thing"] := def_mk KX G a_L_is_whole_ l_L_is_whole_ c_L_is_whole_ k_L_is_whole_ fun _ _ _ _ _ _ us hl => match us, hl with | [_], _ => rfl
  have D_L_along : Def K mg "_law_along" s_L_along ["task", "thing"] := def_mk KX G a_L_along_ l_L_along_ c_L_along_ k_L_along_ fun _ _ _ _ _ _ us hl => match us, hl with | [_, _], _ => rfl
  have D_L_plan_fault : Def K mg "_law_plan_fault" s_L_plan_fault ["task", "thing"] := def_mk KX G a_L_plan_fault_ l_L_plan_fault_ c_L_plan_fault_ k_L_plan_fault_ fun _ _ _ _ _ _ us hl => match us, hl with | [_, _], _ => rfl
  have D_fault_of_plan : Def K mg "fault_of_plan" s_fault_of_plan ["task", "thing"] := def_mk KX G a_fault_of_plan_ l_fault_of_plan_ c_fault_of_plan_ k_fault_of_plan_ fun _ _ _ _ _ _ us hl => match us, hl with | [_, _], _ => rfl
  have D_plan_fault : Def K mg "plan_fault" s_plan_fault ["task", "thing"] := def_mk KX G a_plan_fault_ l_plan_fault_ c_plan_fault_ k_plan_fault_ fun _ _ _ _ _ _ us hl => match us, hl with | [_, _], _ => rfl
  have D_L_bad_task : Def K mg "_law_bad_task" s_L_bad_task ["stream"] := def_mk KX G a_L_bad_task_ l_L_bad_task_ c_L_bad_task_ k_L_bad_task_ fun _ _ _ _ _ _ us hl => match us, hl with | [_], _ => rfl
  have x_BadTask : ExcC l.prog w K mg base "BadTask" "fault" := exc_mk (st := inClass s_BadTask 0) (n0 := "self") (n1 := "fault") KX G a_XBadTask xL_XBadTask xb_XBadTask sa_XBadTask eC_XBadTask tC_XBadTask kC_XBadTask nf_XBadTask iC_XBadTask tI_XBadTask l_XBadTask c_XBadTask k_XBadTask ⟨rfl, rfl, rfl, by decide +kernel, rfl, by decide +kernel, by decide +kernel⟩ rfl rfl rfl (fun _ _ _ _ _ _ us hl => match us, hl with | [_, _], _ => rfl) (by decide) (by decide) (by decide) (by decide) base
  have x_BadPlan : ExcC l.prog w K mg base "BadPlan" "fault" := exc_mk (st := inClass s_BadPlan 0) (n0 := "self") (n1 := "fault") KX G a_XBadPlan xL_XBadPlan xb_XBadPlan sa_XBadPlan eC_XBadPlan tC_XBadPlan kC_XBadPlan nf_XBadPlan iC_XBadPlan tI_XBadPlan l_XBadPlan c_XBadPlan k_XBadPlan ⟨rfl, rfl, rfl, by decide +kernel, rfl, by decide +kernel, by decide +kernel⟩ rfl rfl rfl (fun _ _ _ _ _ _ us hl => match us, hl with | [_, _], _ => rfl) (by decide) (by decide) (by decide) (by decide) base
  have h_L_stream := ok_L_stream (P := l.prog) (w := w) (base := base) B D_L_stream
  have h_L_draw := ok_L_draw (P := l.prog) (w := w) (base := base) B D_L_draw
  have h_L_pick := ok_L_pick (P := l.prog) (w := w) (base := base) B D_L_pick h_L_draw
  have h_L_some := ok_L_some (P := l.prog) (w := w) (base := base) B D_L_some h_L_draw
  have h_L_task := ok_L_task (P := l.prog) (w := w) (base := base) B D_L_task h_L_draw h_L_pick h_L_some
  have h_L_open := ok_L_open (P := l.prog) (w := w) (base := base) B D_L_open
  have h_L_after := ok_L_after (P := l.prog) (w := w) (base := base) B D_L_after
  have h_L_drawn_row := ok_L_drawn_row (P := l.prog) (w := w) (base := base) B D_L_drawn_row h_L_draw h_L_open h_L_pick h_L_after
  have h_is_list := ok_is_list (P := l.prog) (w := w) (base := base) B D_is_list
  have h_is_row := ok_is_row (P := l.prog) (w := w) (base := base) B D_is_row h_is_list
  have h_is_name := ok_is_name (P := l.prog) (w := w) (base := base) B D_is_name
  have h_first_bad_name := ok_first_bad_name (P := l.prog) (w := w) (base := base) B D_first_bad_name h_is_name
  have h_is_whole := ok_is_whole (P := l.prog) (w := w) (base := base) B D_is_whole
  have h_is_number := ok_is_number (P := l.prog) (w := w) (base := base) B D_is_number h_is_whole
  have h_are_facts := ok_are_facts (P := l.prog) (w := w) (base := base) B D_are_facts h_is_list h_first_bad_name
  have h_is_deed := ok_is_deed (P := l.prog) (w := w) (base := base) B D_is_deed h_is_row h_is_name h_is_number h_are_facts
  have h_fault_of := ok_fault_of (P := l.prog) (w := w) (base := base) B D_fault_of h_is_row h_is_list h_first_bad_name h_is_deed h_are_facts
  have h_check_task := ok_check_task (P := l.prog) (w := w) (base := base) B D_check_task h_fault_of x_BadTask
  have h_first_lack := ok_first_lack (P := l.prog) (w := w) (base := base) B D_first_lack
  have h_done := ok_done (P := l.prog) (w := w) (base := base) B D_done
  have h_fault_along := ok_fault_along (P := l.prog) (w := w) (base := base) B D_fault_along h_is_list h_is_number h_first_lack h_done
  have h_check_along := ok_check_along (P := l.prog) (w := w) (base := base) B D_check_along h_check_task h_fault_along x_BadPlan
  have h_doneM := ok_doneM (P := l.prog) (w := w) (base := base) B D_done
  have h_states_alongM := ok_states_alongM (P := l.prog) (w := w) (base := base) B D_states_along h_doneM
  have h_runM := ok_runM (P := l.prog) (w := w) (base := base) B D_run h_check_along h_states_alongM
  have h_L_copied := ok_L_copied (P := l.prog) (w := w) (base := base) B D_L_copied 8
  have h_L_loose := ok_L_loose (P := l.prog) (w := w) (base := base) B D_L_loose h_L_draw 8
  have h_L_handed := ok_L_handed (P := l.prog) (w := w) (base := base) B D_L_handed h_L_loose h_L_copied
  have h_L_same := ok_L_same (P := l.prog) (w := w) (base := base) B D_L_same 8
  have h_L_cost := ok_L_cost (P := l.prog) (w := w) (base := base) B D_L_cost
  have h_cost_of := ok_cost_of (P := l.prog) (w := w) (base := base) B D_cost_of
  have h_cost := ok_cost (P := l.prog) (w := w) (base := base) B D_cost h_check_along h_cost_of
  have h_L_spoilt := ok_L_spoilt (P := l.prog) (w := w) (base := base) B D_L_spoilt 8
  have h_L_is_whole := ok_L_is_whole (P := l.prog) (w := w) (base := base) B D_L_is_whole
  have h_L_along := ok_L_along (P := l.prog) (w := w) (base := base) B D_L_along h_L_is_whole h_L_after
  have h_L_plan_fault := ok_L_plan_fault (P := l.prog) (w := w) (base := base) B D_L_plan_fault h_L_along
  have h_fault_of_plan := ok_fault_of_plan (P := l.prog) (w := w) (base := base) B D_fault_of_plan h_fault_along h_first_lack
  have h_plan_fault := ok_plan_fault (P := l.prog) (w := w) (base := base) B D_plan_fault h_check_task h_fault_of_plan
  have h_L_bad_task := ok_L_bad_task (P := l.prog) (w := w) (base := base) B D_L_bad_task h_L_pick
  have M_L_met : MetDef K mg "_law_met" "ask" s_L_met := met_mk KX G a_L_met_ l_L_met_ c_L_met_ k_L_met_ fun _ _ _ _ _ _ us hl => match us, hl with | [_], _ => rfl
  have y_BadTask : ExcX K mg "BadTask" "fault" C_XBadTask := ⟨mg_of KX G a_XBadTask, ⟨ga_XBadTask, gg_XBadTask, eC_XBadTask, hC_XBadTask⟩, nf_XBadTask⟩
  have y_BadPlan : ExcX K mg "BadPlan" "fault" C_XBadPlan := ⟨mg_of KX G a_XBadPlan, ⟨ga_XBadPlan, gg_XBadPlan, eC_XBadPlan, hC_XBadPlan⟩, nf_XBadPlan⟩
  have ET_L_met : ExTab K mg [("BadTask", "task", "fault", C_XBadTask), ("BadPlan", "plan", "fault", C_XBadPlan)] := by
    intro z hz
    simp only [List.mem_cons, List.not_mem_nil, or_false] at hz
    rcases hz with rfl | rfl
    · refine ⟨y_BadTask.1, fun y hy => ?_⟩
      simp only [List.mem_cons, List.not_mem_nil, or_false] at hy
      rcases hy with rfl | rfl
      · exact exm_mk eC_XBadTask is_XBadTask tC_XBadTask em_BadTask_BadTask
      · exact exm_mk eC_XBadTask is_XBadTask tC_XBadTask em_BadPlan_BadTask
    · refine ⟨y_BadPlan.1, fun y hy => ?_⟩
      simp only [List.mem_cons, List.not_mem_nil, or_false] at hy
      rcases hy with rfl | rfl
      · exact exm_mk eC_XBadPlan is_XBadPlan tC_XBadPlan em_BadTask_BadPlan
      · exact exm_mk eC_XBadPlan is_XBadPlan tC_XBadPlan em_BadPlan_BadPlan
  exact ok_law B cv l0 c0 h_L_stream h_L_task h_L_drawn_row h_L_after h_runM h_L_copied h_L_handed h_L_same h_L_cost h_cost h_L_spoilt h_L_draw h_L_pick h_L_plan_fault h_plan_fault h_L_along h_L_bad_task M_L_met y_BadTask y_BadPlan ET_L_met (TB (c, Pt) List.mem_cons_self)
end
end IL

set_option maxHeartbeats 4000007
namespace IL
open PySem PySem.Spec
open PyProof.Rows L2
/-! ### k11's plain law: what the program's small functions answer -/
theorem is_list_seq (t : Bool) (xs : List D) : f_is_list [.seq t xs] = .ok (.bl true) := rfl
theorem is_row_seq (t : Bool) (xs : List D) (n : Int) : f_is_row [.seq t xs, .int n] = .ok (.bl (decide ((xs.length : Int) = n))) := by
  have e : f_is_row [.seq t xs, .int n] = .ok (.bl (decide (((xs.map W.d).length : Int) = n))) := rfl
  rw [e, List.length_map]
theorem is_whole_int (i : Int) : f_is_whole [.int i] = .ok (.bl true) := rfl
theorem ge_int (i j : Int) (st : Store) : oGe (.d (.int i)) (.d (.int j)) st = some (.d (.bl (!decide (i < j))), st) := by
  simp [oGe, oCmp, alD, plD, ltD, toPy, wD, PySem.W.alike, PyData.plain, PyData.depth, PySem.W.dataLt, PySem.W.keyToks, PyProof.Rows.lexLt, PyProof.Rows.itemOrd]
  rfl
theorem lt_int (i j : Int) (st : Store) : oLt (.d (.int i)) (.d (.int j)) st = some (.d (.bl (decide (i < j))), st) := by
  simp [oLt, oCmp, alD, plD, ltD, toPy, wD, PySem.W.alike, PyData.plain, PyData.depth, PySem.W.dataLt, PySem.W.keyToks, PyProof.Rows.lexLt, PyProof.Rows.itemOrd]
  rfl
/-- a comprehension whose test and element leave the store alone -/
theorem lcL_pure {t : Tgt} {tt : Tx} {el : Ex} {ρ : En} {st : Store} {xs : List Iw} (p : Iw → Bool) (g : Iw → W) (h : ∀ x ∈ xs, ∃ ρ1, t.putI st x ρ = some ρ1 ∧ tt ρ1 st = .ok (p x) st ∧ (p x = true → el ρ1 st = .ok (g x) st)) :
    lcL t tt el ρ xs st = .ok ((xs.filter p).map g) st := by
  induction xs with
  | nil => rfl
  | cons x xs ih =>
    obtain ⟨ρ1, h1, h2, h3⟩ := h x List.mem_cons_self
    have ih := ih fun y hy => h y (List.mem_cons_of_mem _ hy)
    simp only [lcL, h1, h2, noEx, R.bind]
    cases hp : p x with
    | true => simp only [if_true, h3 hp, ih, List.filter_cons, hp, List.map_cons]
    | false => simp only [Bool.false_eq_true, if_false, ih, List.filter_cons, hp]
def names7 : List Str := ["a", "at_b", "b_c", "c", "dd", "e_f_g", "h"]
theorem is_name7 : ∀ n ∈ names7, f_is_name [.str n] = .ok (.bl true) := by
  have key : (names7.all fun n => match f_is_name [.str n] with | .ok (.bl true) => true | _ => false) = true := by decide +kernel
  intro n hn
  have q := List.all_eq_true.mp key n hn
  revert q
  cases f_is_name [.str n] with
  | ok x =>
    cases x with
    | bl b => cases b <;> simp
    | _ => simp
  | ex _ _ _ => simp
  | bad => simp
end IL

set_option maxHeartbeats 4000007
namespace IL
open PySem PySem.Spec
open PyProof.Rows L2
theorem eq_str (x y : Str) (st : Store) : oEq (.d (.str x)) (.d (.str y)) st = some (.d (.bl (decide (x = y))), st) := by
  simp [oEq, oCmp, plD2, plD, eqD, toPy, wD, PyData.plain, PyData.depth, PyData.eqv]
  exact Bool.eq_iff_iff.mpr (by simp)
theorem eq_int (x y : Int) (st : Store) : oEq (.d (.int x)) (.d (.int y)) st = some (.d (.bl (decide (x = y))), st) := by
  simp [oEq, oCmp, plD2, plD, eqD, toPy, wD, PyData.plain, PyData.depth, PyData.eqv]
  exact Bool.eq_iff_iff.mpr (by simp)
theorem strs_plain : ∀ ys : List Str, (∀ t : Bool, (toPy (.seq t (ys.map .str))).plain = true ∧ (toPy (.seq t (ys.map .str))).depth ≤ 60)
  | ys, t => by
    have h : ∀ ys : List Str, PyData.plainAll (toPys (ys.map .str)) = true ∧ PyData.depthAll (toPys (ys.map .str)) ≤ 1 := by
      intro ys
      induction ys with
      | nil => simp [toPys, PyData.plainAll, PyData.depthAll]
      | cons y ys ih => simp [toPys, toPy, PyData.plainAll, PyData.depthAll, PyData.plain, PyData.depth, ih]
    have := h ys
    cases t <;> (simp only [toPy, Bool.false_eq_true, if_false, if_true, PyData.plain, PyData.depth]; exact ⟨this.1, by omega⟩)
theorem strs_plD (t : Bool) (ys : List Str) : plD (.seq t (ys.map .str)) = true := by
  have h := strs_plain ys t
  simp [plD, h.1, h.2]
theorem eqD_str (x y : Str) : eqD (.str x) (.str y) = decide (x = y) := by
  simp only [eqD, toPy, PyData.eqv]
  exact Bool.eq_iff_iff.mpr (by simp)
theorem in_strs (x : Str) (t : Bool) (ys : List Str) (st : Store) : oIn false (.d (.str x)) (.d (.seq t (ys.map .str))) st = some (.d (.bl (decide (x ∈ ys))), st) := by
  have h2 : plD (.str x) = true := by simp [plD, toPy, PyData.plain, PyData.depth]
  have e : (ys.map D.str).any (fun z => eqD z (.str x)) = decide (x ∈ ys) := by
    induction ys with
    | nil => simp
    | cons y ys ih =>
      simp only [List.map_cons, List.any_cons, ih, eqD_str]
      by_cases hxy : y = x
      · simp [hxy]
      · have : ¬ x = y := fun q => hxy q.symm
        simp [hxy, this]
  simp [oIn, vw, vwD, wD, h2, strs_plD]
  simpa using e
end IL

set_option maxHeartbeats 4000007
namespace IL
open PySem PySem.Spec
open PyProof.Rows L2
theorem notin_strs (x : Str) (t : Bool) (ys : List Str) (st : Store) : oIn true (.d (.str x)) (.d (.seq t (ys.map .str))) st = some (.d (.bl (decide (x ∉ ys))), st) := by
  have h := in_strs x t ys st
  have h2 : plD (.str x) = true := by simp [plD, toPy, PyData.plain, PyData.depth]
  simp [oIn, vw, vwD, wD, h2, strs_plD] at h ⊢
  rw [h]
end IL

set_option maxHeartbeats 4000007
namespace IL
open PySem PySem.Spec
open PyProof.Rows L2
/-! ### rules for the loops -/
def After (I : En → Store → Prop) (Q : RS → Prop) : RS → Prop
  | .ok .nx ρ st => I ρ st
  | .ok .ct ρ st => I ρ st
  | .ok .bk ρ st => Q (.ok .nx ρ st)
  | r => Q r
theorem forL_rule {t : Tgt} {b : Sx} (I : List Iw → En → Store → Prop) (Q : RS → Prop) (h0 : ∀ ρ st, I [] ρ st → Q (.ok .nx ρ st))
    (h1 : ∀ x l ρ st, I (x :: l) ρ st → ∃ ρ1, t.putI st x ρ = some ρ1 ∧ After (I l) Q (b ρ1 st)) : ∀ xs ρ st, I xs ρ st → Q (forL t b xs ρ st)
  | [], ρ, st, h => h0 ρ st h
  | x :: xs, ρ, st, h => by
    obtain ⟨ρ1, e1, h2⟩ := h1 x xs ρ st h
    show Q (match t.putI st x ρ with
      | none => .bad
      | some ρ1 => match b ρ1 st with
        | .ok .nx ρ2 st2 => forL t b xs ρ2 st2
        | .ok .ct ρ2 st2 => forL t b xs ρ2 st2
        | .ok .bk ρ2 st2 => .ok .nx ρ2 st2
        | r => r)
    rw [e1]
    show Q (match b ρ1 st with
        | .ok .nx ρ2 st2 => forL t b xs ρ2 st2
        | .ok .ct ρ2 st2 => forL t b xs ρ2 st2
        | .ok .bk ρ2 st2 => .ok .nx ρ2 st2
        | r => r)
    cases e : b ρ1 st with
    | bad => rw [e] at h2; exact h2
    | ex c f w ρ2 st2 => rw [e] at h2; exact h2
    | ok fl ρ2 st2 =>
      rw [e] at h2
      cases fl with
      | nx => exact forL_rule I Q h0 h1 xs ρ2 st2 h2
      | ct => exact forL_rule I Q h0 h1 xs ρ2 st2 h2
      | bk => exact h2
      | rt w => exact h2
/-- a comprehension whose tests and elements may change the store (I: what is kept, by the items left and the answers so far) -/
theorem lcL_rule {t : Tgt} {tt : Tx} {el : Ex} {ρ : En} (I : List Iw → List W → Store → Prop)
    (h1 : ∀ x l acc st, I (x :: l) acc st → ∃ ρ1, t.putI st x ρ = some ρ1 ∧ ((∃ st1, tt ρ1 st = .ok false st1 ∧ I l acc st1) ∨ ∃ st1 w st2, tt ρ1 st = .ok true st1 ∧ el ρ1 st1 = .ok w st2 ∧ I l (acc ++ [w]) st2)) :
    ∀ xs acc st, I xs acc st → ∃ ws st', lcL t tt el ρ xs st = .ok ws st' ∧ I [] (acc ++ ws) st'
  | [], acc, st, h => ⟨[], st, rfl, by rwa [List.append_nil]⟩
  | x :: xs, acc, st, h => by
    obtain ⟨ρ1, e1, h2⟩ := h1 x xs acc st h
    rcases h2 with ⟨st1, e2, h2⟩ | ⟨st1, w, st2, e2, e3, h2⟩
    · obtain ⟨ws, st', e4, h3⟩ := lcL_rule I h1 xs acc st1 h2
      exact ⟨ws, st', by simp only [lcL, e1, e2, noEx, R.bind, Bool.false_eq_true, if_false, e4], h3⟩
    · obtain ⟨ws, st', e4, h3⟩ := lcL_rule I h1 xs (acc ++ [w]) st2 h2
      exact ⟨w :: ws, st', by simp only [lcL, e1, e2, noEx, R.bind, if_true, e3, e4], by rwa [List.append_assoc] at h3⟩
/-! ### the task -/
abbrev txs (t : Bool) (l : List Str) : D := .seq t (l.map .str)
structure Dd where
  nm : Str
  nd : List Str
  pt : List Str
  tk : List Str
  pr : Int
structure Tk where
  fs : List Str
  ds : List Dd
  s : List Str
  g : List Str
def DdR (d : Dd) (y : D) : Prop := ∃ f a b c, y = .seq f [.str d.nm, txs a d.nd, txs b d.pt, txs c d.tk, .int d.pr]
def TkR (t : Tk) (x : D) : Prop := ∃ f a b ys c e, x = .seq f [txs a t.fs, .seq b ys, txs c t.s, txs e t.g] ∧ Paired DdR t.ds ys
def dnames : List Str := ["do_a", "do_b", "do_c", "do_d", "do_e", "do_f", "do_g", "do_h", "do_i"]
structure DdOk (fs : List Str) (d : Dd) : Prop where
  nd : d.nd.Sublist fs
  pt : d.pt.Sublist fs
  tk : d.tk.Sublist fs
  pr : 0 ≤ d.pr
structure TkOk (t : Tk) : Prop where
  fs : t.fs.Sublist names7
  nms : t.ds.map (·.nm) = dnames.take t.ds.length
  len : t.ds.length ≤ 8
  ds : ∀ d ∈ t.ds, DdOk t.fs d
  s : t.s.Sublist t.fs
  g : t.g.Sublist t.fs
/-! ### all sublists of a row -/
def subs {α : Type} : List α → List (List α)
  | [] => [[]]
  | x :: xs => subs xs ++ (subs xs).map (x :: ·)
theorem mem_subs {α : Type} {l xs : List α} (h : l.Sublist xs) : l ∈ subs xs := by
  induction h with
  | slnil => exact List.mem_cons_self
  | cons a _ ih => exact List.mem_append_left _ ih
  | cons_cons a _ ih => exact List.mem_append_right _ (List.mem_map_of_mem ih)
theorem sub_nodup {l : List Str} (h : l.Sublist names7) : l.Nodup := h.nodup (by decide +kernel)
theorem first_bad (t : Bool) {l : List Str} (h : l.Sublist names7) : f_first_bad_name [txs t l] = .ok .non := by
  have key : ((subs names7).all fun l => [true, false].all fun t => match f_first_bad_name [txs t l] with | .ok .non => true | _ => false) = true := by decide +kernel
  have q := List.all_eq_true.mp (List.all_eq_true.mp key l (mem_subs h)) t (by cases t <;> decide)
  revert q
  cases f_first_bad_name [txs t l] with
  | ok x => cases x <;> simp
  | ex _ _ _ => simp
  | bad => simp
theorem is_dname : ∀ n ∈ dnames, f_is_name [.str n] = .ok (.bl true) := by
  have key : (dnames.all fun n => match f_is_name [.str n] with | .ok (.bl true) => true | _ => false) = true := by decide +kernel
  intro n hn
  have q := List.all_eq_true.mp key n hn
  revert q
  cases f_is_name [.str n] with
  | ok x =>
    cases x with
    | bl b => cases b <;> simp
    | _ => simp
  | ex _ _ _ => simp
  | bad => simp
/-! ### first_lack, done, after -/
def lackOf (needs state : List Str) : Option Str := needs.find? fun f => decide (f ∉ state)
def optD : Option Str → D
  | none => .non
  | some x => .str x
theorem first_lack_ok (t u : Bool) (needs state : List Str) : f_first_lack [txs t needs, txs u state] = .ok (optD (lackOf needs state)) := by
  have key : ∀ xs ρ st, (∃ l, xs = (l.map .str).map one ∧ st = [] ∧ ∃ w, ρ = [some (.d (txs t needs)), some (.d (txs u state)), w] ∧ lackOf l state = lackOf needs state) →
      outP (match forL (.nm 2) (sIf (mT (mOp (oIn true) (eV 2) (eV 1))) (sRet (eV 2)) sNext) xs ρ st with
        | .ok .nx ρ1 st1 => sRet (eC .non) ρ1 st1
        | r => r) = .ok (optD (lackOf needs state)) := by
    refine forL_rule (fun xs ρ st => ∃ l, xs = (l.map .str).map one ∧ st = [] ∧ ∃ w, ρ = [some (.d (txs t needs)), some (.d (txs u state)), w] ∧ lackOf l state = lackOf needs state)
      (fun r => outP (match r with
        | .ok .nx ρ1 st1 => sRet (eC .non) ρ1 st1
        | r => r) = .ok (optD (lackOf needs state))) ?_ ?_
    · rintro ρ st ⟨l, hl, rfl, w, rfl, e⟩
      cases l with
      | nil => rw [← e]; rfl
      | cons _ _ => cases hl
    · rintro x xs ρ st ⟨l, hl, rfl, w, rfl, e⟩
      cases l with
      | nil => cases hl
      | cons y l =>
        simp only [List.map_cons, List.cons.injEq] at hl
        obtain ⟨rfl, rfl⟩ := hl
        refine ⟨[some (.d (txs t needs)), some (.d (txs u state)), some (.d (.str y))], rfl, ?_⟩
        have h := notin_strs y u state []
        simp only [sIf, mT, mOp, eV, List.getElem?_cons_succ, List.getElem?_cons_zero, R.bind, h, R.of, R.bindS]
        by_cases hy : y ∈ state
        · simp only [hy, not_true_eq_false, decide_false, Bool.false_eq_true, if_false, sNext, After]
          refine ⟨l, rfl, trivial, _, rfl, ?_⟩
          rw [← e]
          simp [lackOf, List.find?_cons, hy]
        · simp only [hy, not_false_eq_true, decide_true, if_true, sRet, eV, List.getElem?_cons_succ, List.getElem?_cons_zero, R.bindS, After]
          rw [← e]
          simp [lackOf, List.find?_cons, hy, optD, outP, deepB]
  exact key _ [some (.d (txs t needs)), some (.d (txs u state)), none] [] ⟨needs, rfl, rfl, _, rfl, rfl⟩
end IL

set_option maxHeartbeats 4000007
namespace IL
open PySem PySem.Spec
open PyProof.Rows L2
/-! ### sorting names -/
def nameAt (i : Nat) : Str := names7.getD i ""
def ixOf (x : Str) : Nat := names7.findIdx fun y => decide (y = x)
theorem nameAt_ixOf : ∀ x ∈ names7, nameAt (ixOf x) = x ∧ ixOf x < 7 := by decide +kernel
theorem leD_names : ∀ i < 7, ∀ j < 7, decide (i ≤ j) = leD (.str (nameAt i)) (.str (nameAt j)) := by decide +kernel
theorem ixs_sorted : (names7.map ixOf).Pairwise (fun i j => decide (i ≤ j) = true) := by decide +kernel
theorem sort_names {A B : List Str} (hB : B.Sublist names7) (hp : A.Perm B) : (A.map D.str).mergeSort leD = B.map D.str := by
  have hA : ∀ x ∈ A, x ∈ names7 := fun x hx => hB.subset (hp.subset hx)
  have e1 : A.map D.str = (A.map ixOf).map (fun i => D.str (nameAt i)) := by
    rw [List.map_map]
    exact List.map_congr_left fun x hx => by show D.str x = D.str (nameAt (ixOf x)); rw [(nameAt_ixOf x (hA x hx)).1]
  have e2 : B.map D.str = (B.map ixOf).map (fun i => D.str (nameAt i)) := by
    rw [List.map_map]
    exact List.map_congr_left fun x hx => by show D.str x = D.str (nameAt (ixOf x)); rw [(nameAt_ixOf x (hB.subset hx)).1]
  have e3 : (A.map ixOf).mergeSort (fun i j => decide (i ≤ j)) = B.map ixOf := by
    refine List.Perm.eq_of_pairwise (le := fun i j => decide (i ≤ j) = true) (fun a b _ _ h1 h2 => ?_) (List.pairwise_mergeSort (fun a b c h1 h2 => ?_) (fun a b => ?_) _) ?_ ?_
    · simp only [decide_eq_true_eq] at h1 h2; omega
    · simp only [decide_eq_true_eq] at h1 h2 ⊢; omega
    · simp only [Bool.or_eq_true, decide_eq_true_eq]; omega
    · exact ixs_sorted.sublist (hB.map ixOf)
    · exact (List.mergeSort_perm _ _).trans (hp.map ixOf)
  rw [e1, e2, ← e3]
  refine (List.map_mergeSort fun a ha b hb => ?_).symm
  obtain ⟨x, hx, rfl⟩ := List.mem_map.mp ha
  obtain ⟨y, hy, rfl⟩ := List.mem_map.mp hb
  exact leD_names _ (nameAt_ixOf x (hA x hx)).2 _ (nameAt_ixOf y (hA y hy)).2
def afterOf (fs : List Str) (d : Dd) (state : List Str) : List Str := fs.filter fun f => decide (f ∈ d.pt) || (decide (f ∈ state) && decide (f ∉ d.tk))
def keptOf (d : Dd) (state : List Str) : List Str := state.filter fun f => decide (f ∉ d.tk) && decide (f ∉ d.pt)
theorem after_sub (fs : List Str) (d : Dd) (state : List Str) : (afterOf fs d state).Sublist fs := List.filter_sublist
theorem done_perm {fs : List Str} {d : Dd} {state : List Str} (hf : fs.Sublist names7) (h : DdOk fs d) (hs : state.Sublist fs) : (keptOf d state ++ d.pt).Perm (afterOf fs d state) := by
  have nf : fs.Nodup := sub_nodup hf
  refine (List.perm_ext_iff_of_nodup ?_ (nf.sublist List.filter_sublist)).mpr fun a => ?_
  · refine List.nodup_append.mpr ⟨(nf.sublist hs).sublist List.filter_sublist, nf.sublist h.pt, fun a ha b hb e => ?_⟩
    subst e
    simp [keptOf] at ha
    exact ha.2.2 hb
  · have h1 : a ∈ state → a ∈ fs := fun h => hs.subset h
    have h2 : a ∈ d.pt → a ∈ fs := fun q => h.pt.subset q
    simp only [keptOf, afterOf, List.mem_append, List.mem_filter, Bool.and_eq_true, Bool.or_eq_true, decide_eq_true_eq]
    by_cases p1 : a ∈ d.pt <;> by_cases p2 : a ∈ state <;> by_cases p3 : a ∈ d.tk <;> simp [p1, p2, p3, h1, h2]
theorem alD_str (x y : Str) : alD (.str x) (.str y) = true := by
  simp [alD, toPy, PySem.W.alike, plD, PyData.plain, PyData.depth]
theorem srt_strs (l : List Str) : srtOk (l.map .str) = true := by
  simp only [srtOk, alAll, Bool.and_eq_true, Bool.or_eq_true, List.all_eq_true]
  refine ⟨fun x hx y hy => ?_, .inr fun x hx => ?_⟩
  · obtain ⟨a, _, rfl⟩ := List.mem_map.mp hx
    obtain ⟨b, _, rfl⟩ := List.mem_map.mp hy
    exact alD_str a b
  · obtain ⟨a, _, rfl⟩ := List.mem_map.mp hx
    rfl
/-- a comprehension over texts that keeps some of them -/
theorem lcL_strs {i : Nat} {tt : Tx} {ρ : En} {st : Store} {l : List Str} (p : Str → Bool) (hi : i < ρ.length) (h : ∀ y ∈ l, tt (ρ.set i (some (.d (.str y)))) st = .ok (p y) st) :
    lcL (.nm i) tt (eV i) ρ ((l.map D.str).map one) st = .ok ((l.filter p).map fun y => .d (.str y)) st := by
  induction l with
  | nil => rfl
  | cons y l ih =>
    have h1 := h y List.mem_cons_self
    have ih := ih fun z hz => h z (List.mem_cons_of_mem _ hz)
    simp only [List.map_cons, lcL, one, Tgt.putI, Tgt.put, h1, noEx, R.bind]
    have e : eV i (ρ.set i (some (.d (.str y)))) st = .ok (.d (.str y)) st := by
      simp only [eV, List.getElem?_set_self hi]
    cases hp : p y with
    | true => simp only [if_true, e, ih, List.filter_cons, hp, List.map_cons]
    | false => simp only [Bool.false_eq_true, if_false, ih, List.filter_cons, hp]
theorem allD_strs (l : List Str) : allD (l.map fun y => W.d (.str y)) = some (l.map .str) := by
  induction l with
  | nil => rfl
  | cons y l ih => simp only [List.map_cons, allD, ih, Option.map_some]
theorem allD_d (l : List D) : allD (l.map W.d) = some l := by
  induction l with
  | nil => rfl
  | cons y l ih => simp only [List.map_cons, allD, ih, Option.map_some]
theorem mkS_d (t : Bool) (l : List D) (st : Store) : mkS true t (l.map W.d) st = some (.d (.seq t l), st) := by
  simp only [mkS, if_true, allD_d]
theorem mkS_strs (t : Bool) (l : List Str) (st : Store) : mkS true t (l.map fun y => W.d (.str y)) st = some (.d (txs t l), st) := by
  simp only [mkS, if_true, allD_strs]
theorem small_of {n : Nat} (h : n ≤ 1000) : n ≤ sizeLine := Nat.le_trans h (by decide)
end IL

set_option maxHeartbeats 4000007
namespace IL
open PySem PySem.Spec
open PyProof.Rows L2
/-! ### the stream -/
def wi (i : Int) : W := .d (.int i)
def hd (T : List (Addr × Str)) (ns : List Int) (a b c : Int) : Store := [.tabs T, .lst (ns.map wi), .lst [.loc 1, .d (.int a), .d (.int b), .d (.int c)]]
structure Hd (T : List (Addr × Str)) (n : Nat) (h : Store) : Prop where
  ex : ∃ ns a b c, h = hd T ns a b c ∧ ns.length ≤ 63 ∧ 0 ≤ a ∧ 0 ≤ b ∧ b ≤ n ∧ 0 ≤ c ∧ c < 2147483629
theorem Hd.len {T n h} (H : Hd T n h) : h.length = 3 := by
  obtain ⟨ns, a, b, c, rfl, _⟩ := H.ex
  rfl
theorem Hd.mono {T n m h} (H : Hd T n h) (l : n ≤ m) : Hd T m h := by
  obtain ⟨ns, a, b, c, e, h1, h2, h3, h4, h5⟩ := H.ex
  exact ⟨ns, a, b, c, e, h1, h2, h3, by omega, h5⟩
def absI (i : Int) : Int := if i < 0 then -i else i
theorem mapO_ints (k : Nat) (st : Store) (ns : List Int) : mapO (deepW k st) (ns.map wi) = some (ns.map .int) := by
  induction ns with
  | nil => rfl
  | cons n ns ih =>
    have e : deepW k st (wi n) = some (.int n) := by cases k <;> rfl
    simp only [List.map_cons, mapO, e, ih]
theorem ints_plain (ns : List Int) : PyData.plainAll (toPys (ns.map .int)) = true ∧ PyData.depthAll (toPys (ns.map .int)) ≤ 1 := by
  induction ns with
  | nil => simp [toPys, PyData.plainAll, PyData.depthAll]
  | cons y ys ih => simp [toPys, toPy, PyData.plainAll, PyData.depthAll, PyData.plain, PyData.depth, ih]
theorem ints_plD (t : Bool) (ns : List Int) : plD (.seq t (ns.map .int)) = true := by
  have h := ints_plain ns
  cases t <;> (simp [plD, toPy, PyData.plain, PyData.depth, h.1]; have := h.2; omega)
theorem eqD_nil (t : Bool) (x : D) (xs : List D) : eqD (.seq t (x :: xs)) (.seq t []) = false := by
  cases t <;> simp [eqD, toPy, toPys, PyData.eqv, PyData.eqvAll]
theorem eqD_nil2 (t : Bool) : eqD (.seq t []) (.seq t []) = true := by
  cases t <;> simp [eqD, toPy, toPys, PyData.eqv, PyData.eqvAll]
def pw_body : Sx := (sSeq (sAsg (.nm 2) (mCall oAbs (mCons (mMeth oPopAt (mOp oIx (eV 0) (eC (.int 0))) (mCons (eC (.int 0)) mNil)) mNil)))
  (sSeq (sSet (eV 0) (eC (.int 3)) (mOp oMod (mCall oInt (mCons (mOp (oAdd true) (mOp (oAdd true) (mOp (oMul true) (mOp oIx (eV 0) (eC (.int 3))) (eC (.int 6151))) (eV 2)) (eC (.int 7))) mNil)) (eC (.int 2147483629))))
  (sSet (eV 0) (eC (.int 1)) (mIf (mT (mOp oGe (eV 2) (mOp oPow (eC (.int 10)) (eC (.int 18))))) (eV 2) (eC (.int 0))))))
def pw_test : Tx := (mAnd (mT (mOp oEq (mOp oIx (eV 0) (eC (.int 1))) (eC (.int 0)))) (mT (mOp oNe (mOp oIx (eV 0) (eC (.int 0))) (mSeq true false mNil))))
theorem mulOk_r (i j : Int) (h : j.natAbs < 2 ^ 64) : mulOk i j = true := by
  simp only [mulOk, h, decide_true, Bool.or_true, Bool.true_or]
theorem draw_body (T : List (Addr × Str)) (i : Int) (ns : List Int) (a b c m : Int) (x2 x3 x4 : Option W) (rest : Store) :
    pw_body [some (.loc 2), some (.d (.int m)), x2, x3, x4] (hd T (i :: ns) a b c ++ rest) =
      .ok .nx [some (.loc 2), some (.d (.int m)), some (.d (.int (absI i))), x3, x4] (hd T ns (if absI i < 10 ^ 18 then 0 else absI i) b ((c * 6151 + absI i + 7) % 2147483629) ++ rest) := by
  have e1 : sAsg (.nm 2) (mCall oAbs (mCons (mMeth oPopAt (mOp oIx (eV 0) (eC (.int 0))) (mCons (eC (.int 0)) mNil)) mNil)) [some (.loc 2), some (.d (.int m)), x2, x3, x4] (hd T (i :: ns) a b c ++ rest) =
      .ok .nx [some (.loc 2), some (.d (.int m)), some (.d (.int (absI i))), x3, x4] (hd T ns a b c ++ rest) := by
    simp [sAsg, mCall, mCons, mMeth, mOp, eV, eC, mNil, R.bind, R.bindS, R.of, oIx, vw, vwS, vwD, hd, atI, ixN, oPopAt, seqIndex?, oAbs, wi, Tgt.put, absI]
  have e2 : sSet (eV 0) (eC (.int 3)) (mOp oMod (mCall oInt (mCons (mOp (oAdd true) (mOp (oAdd true) (mOp (oMul true) (mOp oIx (eV 0) (eC (.int 3))) (eC (.int 6151))) (eV 2)) (eC (.int 7))) mNil)) (eC (.int 2147483629))) [some (.loc 2), some (.d (.int m)), some (.d (.int (absI i))), x3, x4] (hd T ns a b c ++ rest) =
      .ok .nx [some (.loc 2), some (.d (.int m)), some (.d (.int (absI i))), x3, x4] (hd T ns a b ((c * 6151 + absI i + 7) % 2147483629) ++ rest) := by
    have hm : mulOk c 6151 = true := mulOk_r _ _ (by decide)
    simp [sSet, mCall, mCons, mOp, eV, eC, mNil, R.bind, R.bindS, R.of, oIx, vw, vwS, vwD, hd, atI, ixN, oMod, oInt, oAdd, oMul, hm, oSet]
  have e3 : sSet (eV 0) (eC (.int 1)) (mIf (mT (mOp oGe (eV 2) (mOp oPow (eC (.int 10)) (eC (.int 18))))) (eV 2) (eC (.int 0))) [some (.loc 2), some (.d (.int m)), some (.d (.int (absI i))), x3, x4] (hd T ns a b ((c * 6151 + absI i + 7) % 2147483629) ++ rest) =
      .ok .nx [some (.loc 2), some (.d (.int m)), some (.d (.int (absI i))), x3, x4] (hd T ns (if absI i < 10 ^ 18 then 0 else absI i) b ((c * 6151 + absI i + 7) % 2147483629) ++ rest) := by
    have hp : ∀ st : Store, oPow (.d (.int 10)) (.d (.int 18)) st = some (.d (.int (10 ^ 18)), st) := fun st => by simp [oPow, vw, vwD]
    simp only [sSet, mIf, mT, mOp, eV, eC, R.bind, R.bindS, R.of, List.getElem?_cons_succ, List.getElem?_cons_zero, hp, ge_int]
    by_cases h : absI i < 10 ^ 18
    · simp only [h, decide_true, Bool.not_true, Bool.false_eq_true, if_false, if_true]
      simp [R.bindS, vw, vwS, vwD, hd, ixN, oSet]
    · simp only [h, decide_false, Bool.not_false, if_false, if_true]
      simp [eV, R.bindS, vw, vwS, vwD, hd, ixN, oSet]
  simp only [pw_body, sSeq, e1, e2, e3]
theorem draw_test (T : List (Addr × Str)) (ns : List Int) (a b c m : Int) (x2 x3 x4 : Option W) (rest : Store) :
    pw_test [some (.loc 2), some (.d (.int m)), x2, x3, x4] (hd T ns a b c ++ rest) = .ok (decide (a = 0) && !ns.isEmpty) (hd T ns a b c ++ rest) := by
  have e1 : ∀ st : Store, oEq (.d (.int a)) (.d (.int 0)) st = some (.d (.bl (decide (a = 0))), st) := fun st => eq_int a 0 st
  have e2 : oNe (.loc 1) (.d (.seq false [])) (hd T ns a b c ++ rest) = some (.d (.bl (!ns.isEmpty)), hd T ns a b c ++ rest) := by
    have w1 : wD (hd T ns a b c ++ rest) (.loc 1) = some (.seq false (ns.map .int)) := by
      simp [wD, hd, deepW, mapO_ints]
    have p := ints_plD false ns
    have p2 := ints_plD false []
    simp only [List.map_nil] at p2
    have w2 : wD (hd T ns a b c ++ rest) (.d (.seq false [])) = some (.seq false []) := rfl
    simp only [oCmp, w1, w2, plD2, p, p2, Bool.and_self, if_true]
    cases ns with
    | nil => simp [eqD_nil2]
    | cons n ns => simp [eqD_nil]
  have i1 : ∀ st, st = hd T ns a b c ++ rest → mOp oIx (eV 0) (eC (.int 1)) [some (.loc 2), some (.d (.int m)), x2, x3, x4] st = .ok (.d (.int a)) st := by
    rintro st rfl
    simp [mOp, eV, eC, R.bind, R.of, oIx, vw, vwS, vwD, hd, atI, ixN]
  have i0 : ∀ st, st = hd T ns a b c ++ rest → mOp oIx (eV 0) (eC (.int 0)) [some (.loc 2), some (.d (.int m)), x2, x3, x4] st = .ok (.loc 1) st := by
    rintro st rfl
    simp [mOp, eV, eC, R.bind, R.of, oIx, vw, vwS, vwD, hd, atI, ixN]
  have j1 : mOp oEq (mOp oIx (eV 0) (eC (.int 1))) (eC (.int 0)) [some (.loc 2), some (.d (.int m)), x2, x3, x4] (hd T ns a b c ++ rest) = .ok (.d (.bl (decide (a = 0)))) (hd T ns a b c ++ rest) := by
    show ((mOp oIx (eV 0) (eC (.int 1)) [some (.loc 2), some (.d (.int m)), x2, x3, x4] (hd T ns a b c ++ rest)).bind _) = _
    rw [i1 _ rfl]
    simp only [R.bind, eC, e1, R.of]
  have j0 : mOp oNe (mOp oIx (eV 0) (eC (.int 0))) (mSeq true false mNil) [some (.loc 2), some (.d (.int m)), x2, x3, x4] (hd T ns a b c ++ rest) = .ok (.d (.bl (!ns.isEmpty))) (hd T ns a b c ++ rest) := by
    show ((mOp oIx (eV 0) (eC (.int 0)) [some (.loc 2), some (.d (.int m)), x2, x3, x4] (hd T ns a b c ++ rest)).bind _) = _
    rw [i0 _ rfl]
    show R.of (oNe (.loc 1) (.d (.seq false [])) (hd T ns a b c ++ rest)) = _
    rw [e2]
    rfl
  simp only [pw_test, mAnd, mT, j1, R.bind]
  cases h : decide (a = 0) with
  | true => simp only [if_true, j0, Bool.true_and]
  | false => simp only [Bool.false_eq_true, if_false, Bool.false_and]
theorem absI_nn (i : Int) : 0 ≤ absI i := by unfold absI; split <;> omega
/-- the loop that takes cells -/
theorem draw_while (T : List (Addr × Str)) (m : Int) (x3 x4 : Option W) (rest : Store) (b : Int) : ∀ (ns : List Int) (a c : Int) (x2 : Option W) (k : Nat), 0 ≤ a → 0 ≤ c → c < 2147483629 → ns.length < k →
    ∃ ns' a' c' x2', whN pw_test pw_body k [some (.loc 2), some (.d (.int m)), x2, x3, x4] (hd T ns a b c ++ rest) = .ok .nx [some (.loc 2), some (.d (.int m)), x2', x3, x4] (hd T ns' a' b c' ++ rest) ∧ ns'.length ≤ ns.length ∧ 0 ≤ a' ∧ 0 ≤ c' ∧ c' < 2147483629
  | ns, a, c, x2, 0, _, _, _, h => by omega
  | ns, a, c, x2, k + 1, ha, hc, hc2, h => by
    have e : whN pw_test pw_body (k + 1) [some (.loc 2), some (.d (.int m)), x2, x3, x4] (hd T ns a b c ++ rest) = whI pw_test pw_body (whN pw_test pw_body k) [some (.loc 2), some (.d (.int m)), x2, x3, x4] (hd T ns a b c ++ rest) := rfl
    rw [e]
    simp only [whI, draw_test, R.bindS]
    cases hb : (decide (a = 0) && !ns.isEmpty) with
    | false =>
      simp only [Bool.false_eq_true, if_false]
      exact ⟨ns, a, c, x2, rfl, Nat.le_refl _, ha, hc, hc2⟩
    | true =>
      simp only [if_true]
      cases ns with
      | nil => simp at hb
      | cons i ns =>
        rw [draw_body]
        simp only
        have hn : 0 ≤ (if absI i < 10 ^ 18 then 0 else absI i) := by have := absI_nn i; split <;> omega
        obtain ⟨ns', a', c', x2', h1, h2, h3, h4, h5⟩ := draw_while T m x3 x4 rest b ns (if absI i < 10 ^ 18 then 0 else absI i) ((c * 6151 + absI i + 7) % 2147483629) (some (.d (.int (absI i)))) k hn (by omega) (by omega) (by simp at h; omega)
        exact ⟨ns', a', c', x2', h1, by simp; omega, h3, h4, h5⟩
end IL

set_option maxHeartbeats 4000007
namespace IL
open PySem PySem.Spec
open PyProof.Rows L2
theorem gt_int (i j : Int) (st : Store) : oGt (.d (.int i)) (.d (.int j)) st = some (.d (.bl (decide (j < i))), st) := by
  simp [oGt, oCmp, alD, plD, ltD, toPy, wD, PySem.W.alike, PyData.plain, PyData.depth, PySem.W.dataLt, PySem.W.keyToks, PyProof.Rows.lexLt, PyProof.Rows.itemOrd]
  rfl
theorem f_L_draw_eq (ws : List W) (st : Store) : f_L_draw ws st = outW (m_L_draw (initE 5 ws) st) := rfl
def dr_fin : Sx := (sSeq (sAsg (.nm 4) (mOp oMod (mCall oInt (mCons (mOp oPow (mOp (oAdd true) (mOp (oAdd true) (mOp oIx (eV 0) (eC (.int 3))) (mOp (oMul true) (eC (.int 8191)) (mOp oIx (eV 0) (eC (.int 2))))) (eC (.int 50021))) (eC (.int 5))) mNil)) (eC (.int 2147483587))))
  (sRet (mOp oMod (mOp oMod (mCall oInt (mCons (mOp oPow (mOp (oAdd true) (mOp (oAdd true) (mOp (oMul true) (eV 4) (eC (.int 40009))) (mOp (oMul true) (eC (.int 20011)) (mOp oIx (eV 0) (eC (.int 2))))) (eC (.int 31))) (eC (.int 3))) mNil)) (eC (.int 1000000009))) (eV 1))))
def dr_dig : Sx := (sSeq (sAsg (.nm 3) (mOp oMod (mCall oInt (mCons (mOp oIx (eV 0) (eC (.int 1))) mNil)) (eV 1)))
  (sSeq (sSet (eV 0) (eC (.int 1)) (mOp oDiv (mOp oIx (eV 0) (eC (.int 1))) (eV 1)))
  (sRet (eV 3))))
theorem m_draw_split : m_L_draw = sSeq (sSet (eV 0) (eC (.int 2)) (mOp (oAdd true) (mOp oIx (eV 0) (eC (.int 2))) (eC (.int 1)))) (sSeq (sWhile (fun _ _ => 100000) pw_test pw_body) (sSeq (sIf (mT (mOp oGt (mOp oIx (eV 0) (eC (.int 1))) (eC (.int 0)))) dr_dig sNext) dr_fin)) := rfl
theorem dr_dig_ok (T : List (Addr × Str)) (ns : List Int) (a b c m : Int) (x2 x3 x4 : Option W) (rest : Store) (hm : 0 < m) (hm2 : m < 1073741824) :
    dr_dig [some (.loc 2), some (.d (.int m)), x2, x3, x4] (hd T ns a b c ++ rest) = .ok (.rt (.d (.int (a % m)))) [some (.loc 2), some (.d (.int m)), x2, some (.d (.int (a % m))), x4] (hd T ns (a / m) b c ++ rest) := by
  simp [dr_dig, sSeq, sAsg, sSet, sRet, mCall, mCons, mOp, eV, eC, mNil, R.bind, R.bindS, R.of, oIx, vw, vwS, vwD, hd, atI, ixN, oMod, oInt, oDiv, hm, hm2, oSet, Tgt.put]
theorem dr_fin_ok (T : List (Addr × Str)) (ns : List Int) (a b c m : Int) (x2 x3 x4 : Option W) (rest : Store) (hm : 0 < m) (hb : 0 ≤ b) (hb2 : b < 2 ^ 45) (hc : 0 ≤ c) (hc2 : c < 2147483629) :
    ∃ k ρ, dr_fin [some (.loc 2), some (.d (.int m)), x2, x3, x4] (hd T ns a b c ++ rest) = .ok (.rt (.d (.int k))) ρ (hd T ns a b c ++ rest) ∧ 0 ≤ k ∧ k < m := by
  have p1 : (c + 8191 * b + 50021).natAbs < 2 ^ 64 := by omega
  have hM : 0 ≤ (c + 8191 * b + 50021) ^ 5 % 2147483587 ∧ (c + 8191 * b + 50021) ^ 5 % 2147483587 < 2147483587 := ⟨Int.emod_nonneg _ (by decide), Int.emod_lt_of_pos _ (by decide)⟩
  generalize hMM : (c + 8191 * b + 50021) ^ 5 % 2147483587 = M at hM
  have p2 : (M * 40009 + 20011 * b + 31).natAbs < 2 ^ 64 := by omega
  have q1 : mulOk 8191 b = true := mulOk_r _ _ (by omega)
  have q2 : mulOk M 40009 = true := mulOk_r _ _ (by omega)
  have q3 : mulOk 20011 b = true := mulOk_r _ _ (by omega)
  refine ⟨(M * 40009 + 20011 * b + 31) ^ 3 % 1000000009 % m, [some (.loc 2), some (.d (.int m)), x2, x3, some (.d (.int M))], ?_, Int.emod_nonneg _ (by omega), Int.emod_lt_of_pos _ hm⟩
  have w1 : ∀ st, st = hd T ns a b c ++ rest → sAsg (.nm 4) (mOp oMod (mCall oInt (mCons (mOp oPow (mOp (oAdd true) (mOp (oAdd true) (mOp oIx (eV 0) (eC (.int 3))) (mOp (oMul true) (eC (.int 8191)) (mOp oIx (eV 0) (eC (.int 2))))) (eC (.int 50021))) (eC (.int 5))) mNil)) (eC (.int 2147483587))) [some (.loc 2), some (.d (.int m)), x2, x3, x4] st = .ok .nx [some (.loc 2), some (.d (.int m)), x2, x3, some (.d (.int M))] st := by
    rintro st rfl
    simp [sAsg, mCall, mCons, mOp, eV, eC, mNil, R.bind, R.bindS, R.of, oIx, vw, vwS, vwD, hd, atI, ixN, oAdd, oMul, q1, oPow, p1, oInt, oMod, Tgt.put, hMM]
  show sSeq _ _ _ _ = _
  unfold sSeq
  rw [w1 _ rfl]
  simp [sRet, mCall, mCons, mOp, eV, eC, mNil, R.bind, R.bindS, R.of, oIx, vw, vwS, vwD, hd, atI, ixN, oAdd, oMul, q2, q3, oPow, p2, oInt, oMod, hm]
theorem draw_ok {T : List (Addr × Str)} {n : Nat} {h : Store} (H : Hd T n h) (rest : Store) (m : Int) (hm : 0 < m) (hm2 : m < 1073741824) (hn : n < 2 ^ 44) :
    ∃ (k : Int) (h' : Store), f_L_draw [.loc 2, .d (.int m)] (h ++ rest) = .ok (.d (.int k)) (h' ++ rest) ∧ 0 ≤ k ∧ k < m ∧ Hd T (n + 1) h' := by
  obtain ⟨ns, a, b, c, rfl, l1, l2, l3, l4, l5, l6⟩ := H.ex
  have e1 : sSet (eV 0) (eC (.int 2)) (mOp (oAdd true) (mOp oIx (eV 0) (eC (.int 2))) (eC (.int 1))) [some (.loc 2), some (.d (.int m)), none, none, none] (hd T ns a b c ++ rest) = .ok .nx [some (.loc 2), some (.d (.int m)), none, none, none] (hd T ns a (b + 1) c ++ rest) := by
    simp [sSet, mCall, mCons, mOp, eV, eC, mNil, R.bind, R.bindS, R.of, oIx, vw, vwS, vwD, hd, atI, ixN, oAdd, oSet]
  obtain ⟨ns', a', c', x2', h1, h2, h3, h4, h5⟩ := draw_while T m none none rest (b + 1) ns a c none 100000 l2 l5 l6 (by omega)
  have e2 : mT (mOp oGt (mOp oIx (eV 0) (eC (.int 1))) (eC (.int 0))) [some (.loc 2), some (.d (.int m)), x2', none, none] (hd T ns' a' (b + 1) c' ++ rest) = .ok (decide (0 < a')) (hd T ns' a' (b + 1) c' ++ rest) := by
    have g := gt_int a' 0 (hd T ns' a' (b + 1) c' ++ rest)
    have i1 : mOp oIx (eV 0) (eC (.int 1)) [some (.loc 2), some (.d (.int m)), x2', none, none] (hd T ns' a' (b + 1) c' ++ rest) = .ok (.d (.int a')) (hd T ns' a' (b + 1) c' ++ rest) := by
      simp [mOp, eV, eC, R.bind, R.of, oIx, vw, vwS, vwD, hd, atI, ixN]
    show R.bind (R.bind (mOp oIx (eV 0) (eC (.int 1)) [some (.loc 2), some (.d (.int m)), x2', none, none] (hd T ns' a' (b + 1) c' ++ rest)) _) _ = _
    rw [i1]
    simp only [R.bind, eC, g, R.of]
  rw [f_L_draw_eq, m_draw_split]
  have e0 : initE 5 [W.loc 2, .d (.int m)] = [some (.loc 2), some (.d (.int m)), none, none, none] := rfl
  rw [e0]
  simp only [sSeq, e1, sWhile, h1, sIf, e2, R.bindS]
  by_cases ha : 0 < a'
  · simp only [ha, decide_true, if_true, dr_dig_ok T ns' a' (b + 1) c' m x2' none none rest hm hm2, outW]
    refine ⟨a' % m, hd T ns' (a' / m) (b + 1) c', rfl, Int.emod_nonneg _ (by omega), Int.emod_lt_of_pos _ hm, ⟨ns', a' / m, b + 1, c', rfl, by omega, Int.ediv_nonneg h3 (by omega), by omega, by omega, h4, h5⟩⟩
  · obtain ⟨k, ρ, q1, q2, q3⟩ := dr_fin_ok T ns' a' (b + 1) c' m x2' none none rest hm (by omega) (by omega) h4 h5
    simp only [ha, decide_false, Bool.false_eq_true, if_false, sNext, q1, outW]
    exact ⟨k, hd T ns' a' (b + 1) c', rfl, q2, q3, ⟨ns', a', b + 1, c', rfl, by omega, h3, by omega, by omega, h4, h5⟩⟩
end IL

set_option maxHeartbeats 4000007
namespace IL
open PySem PySem.Spec
open PyProof.Rows L2
/-! ### picks and drawn rows of facts -/
theorem atI_nat {α : Type} (xs : List α) (k : Int) (x : α) (h0 : 0 ≤ k) (h : xs[k.toNat]? = some x) : L2.atI xs k = some x := by
  have hl : k.toNat < xs.length := (List.getElem?_eq_some_iff.mp h).1
  simp only [L2.atI, L2.ixN, h0, if_true]
  rw [if_pos (by omega)]
  simpa using h
theorem f_L_pick_eq (ws : List W) (st : Store) : f_L_pick ws st = outW (m_L_pick (initE 2 ws) st) := rfl
theorem pick_ok {T : List (Addr × Str)} {n : Nat} {h : Store} (H : Hd T n h) (rest : Store) (t : Bool) (xs : List D) (hx : xs ≠ []) (hl : xs.length ≤ 1000) (hn : n < 2 ^ 44) :
    ∃ x ∈ xs, ∃ h', f_L_pick [.loc 2, .d (.seq t xs)] (h ++ rest) = .ok (.d x) (h' ++ rest) ∧ Hd T (n + 1) h' := by
  have hp : 0 < xs.length := List.length_pos_iff.mpr hx
  obtain ⟨k, h', e, k0, k1, H'⟩ := draw_ok H rest (xs.length : Int) (by omega) (by omega) hn
  have hk : k.toNat < xs.length := by omega
  refine ⟨xs[k.toNat], List.getElem_mem hk, h', ?_, H'⟩
  have ea : L2.atI (xs.map W.d) k = some (.d xs[k.toNat]) := atI_nat _ _ _ k0 (by rw [List.getElem?_map, List.getElem?_eq_getElem hk]; rfl)
  have el : oLen [.d (.seq t xs)] (h ++ rest) = some (.d (.int xs.length), h ++ rest) := by simp [oLen, vw, vwD]
  rw [f_L_pick_eq]
  simp only [m_L_pick, initE, List.map_cons, List.map_nil, List.length_cons, List.length_nil, Nat.reduceAdd, Nat.sub_self, List.replicate_zero, List.append_nil, sRet, mOp, mRaw, mCall, mCons, mNil, eV, List.getElem?_cons_zero, List.getElem?_cons_succ, R.bind, R.bindS, R.of, el, if_true, e]
  simp only [oIx, vw, vwD, ea, Option.map_some, outW]
theorem lcL_draw {T : List (Addr × Str)} {i : Nat} {tt : Tx} {ρ : En} {rest : Store} (hi : i < ρ.length)
    (htt : ∀ (y : Str) (n : Nat) (h : Store), Hd T n h → n < 2 ^ 44 → ∃ b h', tt (ρ.set i (some (.d (.str y)))) (h ++ rest) = .ok b (h' ++ rest) ∧ Hd T (n + 1) h') :
    ∀ (l : List Str) (n : Nat) (h : Store), Hd T n h → n + l.length ≤ 2 ^ 44 → ∃ (l' : List Str) (h' : Store), lcL (.nm i) tt (eV i) ρ ((l.map D.str).map one) (h ++ rest) = .ok (l'.map fun y => W.d (.str y)) (h' ++ rest) ∧ l'.Sublist l ∧ Hd T (n + l.length) h'
  | [], n, h, H, _ => ⟨[], h, rfl, .slnil, H⟩
  | y :: l, n, h, H, hn => by
    simp only [List.length_cons] at hn
    obtain ⟨b, h1, e1, H1⟩ := htt y n h H (by omega)
    obtain ⟨l', h2, e2, s2, H2⟩ := lcL_draw hi htt l (n + 1) h1 H1 (by omega)
    have H2 : Hd T (n + (l.length + 1)) h2 := H2.mono (by omega)
    have e : eV i (ρ.set i (some (.d (.str y)))) (h1 ++ rest) = .ok (.d (.str y)) (h1 ++ rest) := by
      simp only [eV, List.getElem?_set_self hi]
    cases b with
    | true =>
      refine ⟨y :: l', h2, ?_, s2.cons_cons y, H2⟩
      simp only [List.map_cons, lcL, one, Tgt.putI, Tgt.put, e1, noEx, R.bind, if_true, e]
      rw [e2]
    | false =>
      refine ⟨l', h2, ?_, s2.cons y, H2⟩
      simp only [List.map_cons, lcL, one, Tgt.putI, Tgt.put, e1, noEx, R.bind, Bool.false_eq_true, if_false]
      exact e2
theorem f_L_some_eq (ws : List W) (st : Store) : f_L_some ws st = outW (m_L_some (initE 4 ws) st) := rfl
theorem some_ok {T : List (Addr × Str)} {n : Nat} {h : Store} (H : Hd T n h) (rest : Store) (t : Bool) (l : List Str) (r : Int) (hr : 0 < r) (hr2 : r < 1000) (hl : l.length ≤ 7) (hn : n < 2 ^ 43) :
    ∃ l' h', f_L_some [.loc 2, .d (txs t l), .d (.int r)] (h ++ rest) = .ok (.d (txs false l')) (h' ++ rest) ∧ l'.Sublist l ∧ Hd T (n + 7) h' := by
  obtain ⟨l', h', e, s, H'⟩ := lcL_draw (T := T) (i := 3) (tt := mT (mOp oEq (mRaw f_L_draw 2 (mCons (eV 0) (mCons (eV 2) mNil))) (eC (.int 0)))) (ρ := [some (.loc 2), some (.d (txs t l)), some (.d (.int r)), none]) (rest := rest) (by simp) (fun y n h H hn => by
    obtain ⟨k, h1, e1, k0, k1, H1⟩ := draw_ok H rest r hr (by omega) hn
    refine ⟨decide (k = 0), h1, ?_, H1⟩
    simp only [mT, mOp, mRaw, mCons, mNil, eV, eC, List.set_cons_succ, List.set_cons_zero, List.getElem?_cons_zero, List.getElem?_cons_succ, R.bind, R.of, List.length_cons, List.length_nil, Nat.reduceAdd, if_true, e1, eq_int k 0 (h1 ++ rest)]) l n h H (by omega)
  refine ⟨l', h', ?_, s, H'.mono (by omega)⟩
  have hs : (l'.map fun y => W.d (.str y)).length ≤ sizeLine := small_of (by rw [List.length_map]; have := s.length_le; omega)
  rw [f_L_some_eq]
  have e0 : initE 4 [W.loc 2, .d (txs t l), .d (.int r)] = [some (.loc 2), some (.d (txs t l)), some (.d (.int r)), none] := rfl
  have es : sqOf (h ++ rest) (.d (txs t l)) = .dat t (l.map .str) := rfl
  rw [e0]
  simp only [m_L_some, sRet, mLc, srSeq, eV, List.getElem?_cons_zero, List.getElem?_cons_succ, R.bind, es, lcS, wipeE, List.set_cons_succ, List.set_cons_zero]
  have e' : lcL (.nm 3) (mT (mOp oEq (mRaw f_L_draw 2 (mCons (eV 0) (mCons (eV 2) mNil))) (eC (.int 0)))) (eV 3) [some (.loc 2), some (.d (txs t l)), some (.d (.int r)), none] (List.map one (List.map D.str l)) (h ++ rest) = _ := e
  rw [e']
  simp only [R.bind, hs, if_true, mkS_strs, R.of, R.bindS, outW]
end IL

set_option maxHeartbeats 4000007
namespace IL
open PySem PySem.Spec
open PyProof.Rows L2
/-! ### the drawn task -/
theorem names7_len : names7.length = 7 := rfl
theorem sub7 {l : List Str} (h : l.Sublist names7) : l.length ≤ 7 := h.length_le
def rt (fs : List Str) (N : Nat) (way free : Int) (w7 w8 w9 w10 w11 w12 w13 w14 w15 : Option W) : En :=
  [some (.loc 2), some (.d (.int 7)), some (.d (txs false names7)), some (.d (txs false fs)), some (.d (.int way)), some (.loc N), some (.d (.int free)), w7, w8, w9, w10, w11, w12, w13, w14, w15]
def tb1 : Sx := (sPar3 8 9 10 (mCons (mRaw f_L_some 3 (mCons (eV 0) (mCons (eV 3) (mCons (eC (.int 3)) mNil)))) (mCons (mRaw f_L_some 3 (mCons (eV 0) (mCons (eV 3) (mCons (eC (.int 3)) mNil)))) (mCons (mRaw f_L_some 3 (mCons (eV 0) (mCons (eV 3) (mCons (eC (.int 3)) mNil)))) mNil))))
def tb2 : Sx := (sIf (mAnd (mT (mOp oEq (eV 4) (eC (.int 0)))) (mT (mOp oGt (mCall oLen (mCons (eV 3) mNil)) (eC (.int 1))))) (sSeq (sPar2 11 12 (mCons (mRaw f_L_pick 2 (mCons (eV 0) (mCons (eV 3) mNil))) (mCons (mRaw f_L_pick 2 (mCons (eV 0) (mCons (eV 3) mNil))) mNil)))
  (sPar3 8 9 10 (mCons (mSeq true false (mCons (eV 11) mNil)) (mCons (mSeq true false (mCons (eV 12) mNil)) (mCons (mSeq true false (mCons (eV 11) mNil)) mNil))))) sNext)
def tb3 : Sx := (sIf (mT (mOp oEq (eV 4) (eC (.int 1)))) (sAsg (.nm 10) (mIf (mT (mOp oEq (mRaw f_L_draw 2 (mCons (eV 0) (mCons (eC (.int 3)) mNil))) (eC (.int 0)))) (eV 10) (mSeq true false mNil))) sNext)
def tb4 : Sx := (sDrop (mMeth oAppend (eV 5) (mCons (mSeq true true (mCons (mOp (oAdd true) (eC (.str "do_")) (mOp oIx (eC (.str "abcdefghi")) (eV 7))) (mCons (eV 8) (mCons (eV 9) (mCons (eV 10) (mCons (mRaw f_L_draw 2 (mCons (eV 0) (mCons (mOp (oAdd true) (eV 6) (eC (.int 1))) mNil))) mNil)))))) mNil)))
def tbody : Sx := sSeq tb1 (sSeq tb2 (sSeq tb3 tb4))
section
variable {T : List (Addr × Str)} {n : Nat} {h rest : Store} {fs : List Str} {N : Nat} {way free : Int} {w7 w8 w9 w10 w11 w12 w13 w14 w15 : Option W}
theorem tb1_ok (H : Hd T n h) (hf : fs.Sublist names7) (hn : n + 100 ≤ 2 ^ 43) :
    ∃ (a b c : List Str) (h' : Store), tb1 (rt fs N way free w7 w8 w9 w10 w11 w12 w13 w14 w15) (h ++ rest) = .ok .nx (rt fs N way free w7 (some (.d (txs false a))) (some (.d (txs false b))) (some (.d (txs false c))) w11 w12 w13 w14 w15) (h' ++ rest) ∧ a.Sublist fs ∧ b.Sublist fs ∧ c.Sublist fs ∧ Hd T (n + 21) h' := by
  obtain ⟨a, h1, e1, s1, H1⟩ := some_ok H rest false fs 3 (by decide) (by decide) (sub7 hf) (by omega)
  obtain ⟨b, h2, e2, s2, H2⟩ := some_ok H1 rest false fs 3 (by decide) (by decide) (sub7 hf) (by omega)
  obtain ⟨c, h3, e3, s3, H3⟩ := some_ok H2 rest false fs 3 (by decide) (by decide) (sub7 hf) (by omega)
  refine ⟨a, b, c, h3, ?_, s1, s2, s3, H3⟩
  simp only [tb1, rt, sAsg, sPar2, sPar3, sIf, sRet, sDrop, sNext, mT, mOp, mUn, mCall, mCons, mNil, mRaw, mIf, mAnd, mOr, mNot, eV, eC, R.bind, R.bindS, R.of, List.getElem?_cons_zero, List.getElem?_cons_succ, List.set_cons_zero, List.set_cons_succ, List.length_cons, List.length_nil, Nat.reduceAdd, if_true, Tgt.put, e1, e2, e3]
theorem len_txs (t : Bool) (l : List Str) (st : Store) : oLen [.d (txs t l)] st = some (.d (.int l.length), st) := by simp [oLen, vw, vwD]
theorem mSeq1 (x : D) (ρ : En) (st : Store) (m : Ex) (h : m ρ st = .ok (.d x) st) : mSeq true false (mCons m mNil) ρ st = .ok (.d (.seq false [x])) st := by
  simp only [mSeq, mCons, mNil, h, R.bind, List.length_cons, List.length_nil]
  rfl
theorem mSeq0 (ρ : En) (st : Store) : mSeq true false mNil ρ st = .ok (.d (.seq false [])) st := rfl
theorem tb2_ok (H : Hd T n h) {a b c : List Str} (ha : a.Sublist fs) (hb : b.Sublist fs) (hc : c.Sublist fs) (hf : fs.Sublist names7) (hn : n + 100 ≤ 2 ^ 43) :
    ∃ (a' b' c' : List Str) (w11' w12' : Option W) (h' : Store), tb2 (rt fs N way free w7 (some (.d (txs false a))) (some (.d (txs false b))) (some (.d (txs false c))) w11 w12 w13 w14 w15) (h ++ rest) = .ok .nx (rt fs N way free w7 (some (.d (txs false a'))) (some (.d (txs false b'))) (some (.d (txs false c'))) w11' w12' w13 w14 w15) (h' ++ rest) ∧ a'.Sublist fs ∧ b'.Sublist fs ∧ c'.Sublist fs ∧ Hd T (n + 2) h' := by
  by_cases hw : way = 0
  · by_cases hl : 1 < (fs.length : Int)
    · have hne : fs.map D.str ≠ [] := by intro e; have := congrArg List.length e; simp at this; subst this; simp at hl
      have h7 := sub7 hf
      obtain ⟨x, hx, h1, e1, H1⟩ := pick_ok H rest false (fs.map .str) hne (by rw [List.length_map]; omega) (by omega)
      obtain ⟨y, hy, h2, e2, H2⟩ := pick_ok H1 rest false (fs.map .str) hne (by rw [List.length_map]; omega) (by omega)
      obtain ⟨x, hx, rfl⟩ := List.mem_map.mp hx
      obtain ⟨y, hy, rfl⟩ := List.mem_map.mp hy
      refine ⟨[x], [y], [x], some (.d (.str x)), some (.d (.str y)), h2, ?_, by simpa using hx, by simpa using hy, by simpa using hx, H2⟩
      simp only [tb2, rt, sAsg, sPar2, sPar3, sIf, sRet, sDrop, sNext, mT, mOp, mUn, mCall, mCons, mNil, mRaw, mIf, mAnd, mOr, mNot, eV, eC, R.bind, R.bindS, R.of, List.getElem?_cons_zero, List.getElem?_cons_succ, List.set_cons_zero, List.set_cons_succ, List.length_cons, List.length_nil, Nat.reduceAdd, if_true, Tgt.put, sSeq, eq_int, gt_int, len_txs, hw, hl, decide_true, e1, e2]
      rfl
    · refine ⟨a, b, c, w11, w12, h, ?_, ha, hb, hc, H.mono (by omega)⟩
      simp only [tb2, rt, sAsg, sPar2, sPar3, sIf, sRet, sDrop, sNext, mT, mOp, mUn, mCall, mCons, mNil, mRaw, mIf, mAnd, mOr, mNot, eV, eC, R.bind, R.bindS, R.of, List.getElem?_cons_zero, List.getElem?_cons_succ, List.set_cons_zero, List.set_cons_succ, List.length_cons, List.length_nil, Nat.reduceAdd, if_true, Tgt.put, sSeq, eq_int, gt_int, len_txs, hw, hl, decide_true, decide_false, Bool.false_eq_true, if_false]
  · refine ⟨a, b, c, w11, w12, h, ?_, ha, hb, hc, H.mono (by omega)⟩
    simp only [tb2, rt, sAsg, sPar2, sPar3, sIf, sRet, sDrop, sNext, mT, mOp, mUn, mCall, mCons, mNil, mRaw, mIf, mAnd, mOr, mNot, eV, eC, R.bind, R.bindS, R.of, List.getElem?_cons_zero, List.getElem?_cons_succ, List.set_cons_zero, List.set_cons_succ, List.length_cons, List.length_nil, Nat.reduceAdd, if_true, Tgt.put, sSeq, eq_int, hw, decide_false, Bool.false_eq_true, if_false]
theorem tb3_ok (H : Hd T n h) {c : List Str} (hc : c.Sublist fs) (hn : n + 100 ≤ 2 ^ 43) :
    ∃ (c' : List Str) (h' : Store), tb3 (rt fs N way free w7 w8 w9 (some (.d (txs false c))) w11 w12 w13 w14 w15) (h ++ rest) = .ok .nx (rt fs N way free w7 w8 w9 (some (.d (txs false c'))) w11 w12 w13 w14 w15) (h' ++ rest) ∧ c'.Sublist fs ∧ Hd T (n + 1) h' := by
  by_cases hw : way = 1
  · obtain ⟨k, h1, e1, k0, k1, H1⟩ := draw_ok H rest 3 (by decide) (by decide) (by omega)
    by_cases hk : k = 0
    · refine ⟨c, h1, ?_, hc, H1⟩
      simp only [tb3, rt, sAsg, sPar2, sPar3, sIf, sRet, sDrop, sNext, mT, mOp, mUn, mCall, mCons, mNil, mRaw, mIf, mAnd, mOr, mNot, eV, eC, R.bind, R.bindS, R.of, List.getElem?_cons_zero, List.getElem?_cons_succ, List.set_cons_zero, List.set_cons_succ, List.length_cons, List.length_nil, Nat.reduceAdd, if_true, Tgt.put, eq_int, hw, decide_true, e1, hk]
    · refine ⟨[], h1, ?_, List.nil_sublist _, H1⟩
      simp only [tb3, rt, sAsg, sPar2, sPar3, sIf, sRet, sDrop, sNext, mT, mOp, mUn, mCall, mCons, mNil, mRaw, mIf, mAnd, mOr, mNot, eV, eC, R.bind, R.bindS, R.of, List.getElem?_cons_zero, List.getElem?_cons_succ, List.set_cons_zero, List.set_cons_succ, List.length_cons, List.length_nil, Nat.reduceAdd, if_true, Tgt.put, eq_int, hw, decide_true, e1, hk, decide_false, Bool.false_eq_true, if_false]
      rfl
  · refine ⟨c, h, ?_, hc, H.mono (by omega)⟩
    simp only [tb3, rt, sAsg, sPar2, sPar3, sIf, sRet, sDrop, sNext, mT, mOp, mUn, mCall, mCons, mNil, mRaw, mIf, mAnd, mOr, mNot, eV, eC, R.bind, R.bindS, R.of, List.getElem?_cons_zero, List.getElem?_cons_succ, List.set_cons_zero, List.set_cons_succ, List.length_cons, List.length_nil, Nat.reduceAdd, if_true, Tgt.put, eq_int, hw, decide_false, Bool.false_eq_true, if_false]
def dnm (k : Nat) : Str := dnames.getD k ""
theorem dname_ok (k : Nat) (hk : k < 9) (st : Store) : ∃ c, oIx (.d (.str "abcdefghi")) (.d (.int (k : Int))) st = some (.d (.str c), st) ∧ oAdd true (.d (.str "do_")) (.d (.str c)) st = some (.d (.str (dnm k)), st) := by
  match k, hk with
  | 0, _ => exact ⟨"a", rfl, rfl⟩
  | 1, _ => exact ⟨"b", rfl, rfl⟩
  | 2, _ => exact ⟨"c", rfl, rfl⟩
  | 3, _ => exact ⟨"d", rfl, rfl⟩
  | 4, _ => exact ⟨"e", rfl, rfl⟩
  | 5, _ => exact ⟨"f", rfl, rfl⟩
  | 6, _ => exact ⟨"g", rfl, rfl⟩
  | 7, _ => exact ⟨"h", rfl, rfl⟩
  | 8, _ => exact ⟨"i", rfl, rfl⟩
theorem at3 (H : Hd T n h) (so : SO) : (h ++ (rest ++ [so]))[3 + rest.length]? = some so := by
  rw [← List.append_assoc, List.getElem?_append_right (by simp [H.len])]
  simp [H.len]
theorem set3 (H : Hd T n h) (so so' : SO) : (h ++ (rest ++ [so])).set (3 + rest.length) so' = h ++ (rest ++ [so']) := by
  rw [List.set_append_right _ _ (by simp [H.len]), H.len]
  rw [List.set_append_right _ _ (by simp)]
  simp
/-- append to the list that stands last -/
theorem app3 (H : Hd T n h) (ws : List W) (w : W) (hl : ws.length < 1000) : oAppend (.loc (3 + rest.length)) [w] (h ++ (rest ++ [.lst ws])) = some (.d .non, h ++ (rest ++ [.lst (ws ++ [w])])) := by
  have : ws.length < sizeLine := Nat.lt_of_lt_of_le hl (by decide)
  simp only [oAppend, at3 H, this, if_true, set3 H]
theorem tb4_ok (H : Hd T n h) {a b c : List Str} {k : Nat} (hk : k < 9) {ys : List W} (hy : ys.length < 1000) (hfr : 0 ≤ free) (hfr2 : free ≤ 20) (hn : n + 100 ≤ 2 ^ 43) :
    ∃ (p : Int) (h' : Store), tb4 (rt fs (3 + rest.length) way free (some (.d (.int k))) (some (.d (txs false a))) (some (.d (txs false b))) (some (.d (txs false c))) w11 w12 w13 w14 w15) (h ++ (rest ++ [.lst ys])) =
      .ok .nx (rt fs (3 + rest.length) way free (some (.d (.int k))) (some (.d (txs false a))) (some (.d (txs false b))) (some (.d (txs false c))) w11 w12 w13 w14 w15) (h' ++ (rest ++ [.lst (ys ++ [.d (.seq true [.str (dnm k), txs false a, txs false b, txs false c, .int p])])])) ∧ 0 ≤ p ∧ Hd T (n + 1) h' := by
  obtain ⟨p, h1, e1, k0, k1, H1⟩ := draw_ok H (rest ++ [.lst ys]) (free + 1) (by omega) (by omega) (by omega)
  obtain ⟨ch, ec, ed⟩ := dname_ok k hk (h ++ (rest ++ [.lst ys]))
  refine ⟨p, h1, ?_, k0, H1⟩
  have e2 : oAdd true (.d (.int free)) (.d (.int 1)) (h ++ (rest ++ [.lst ys])) = some (.d (.int (free + 1)), h ++ (rest ++ [.lst ys])) := rfl
  have e3 : vw (h ++ (rest ++ [.lst ys])) (.loc (3 + rest.length)) = .sq false ys := by simp only [vw, at3 H, vwS]
  simp only [tb4, rt, sDrop, mMeth, eV, List.getElem?_cons_zero, List.getElem?_cons_succ, R.bind, e3, mSeq, mCons, mOp, eC, ec, R.of, ed, mRaw, e2, mNil, List.length_cons, List.length_nil, Nat.reduceAdd, if_true, e1]
  have e4 : mkS true true [.d (.str (dnm k)), .d (txs false a), .d (txs false b), .d (txs false c), .d (.int p)] (h1 ++ (rest ++ [.lst ys])) = some (.d (.seq true [.str (dnm k), txs false a, txs false b, txs false c, .int p]), h1 ++ (rest ++ [.lst ys])) := rfl
  have e5 : 5 ≤ sizeLine := by decide
  simp only [e4, e5, if_true, R.bind, app3 H1 _ _ hy, R.of, R.bindS]
theorem tbody_ok (H : Hd T n h) (hf : fs.Sublist names7) {k : Nat} (hk : k < 9) {ys : List W} (hy : ys.length < 1000) (hfr : 0 ≤ free) (hfr2 : free ≤ 20) (hn : n + 100 ≤ 2 ^ 42) :
    ∃ (d : Dd) (y : D) (w8 w9 w10 w11 w12 : Option W) (h' : Store), tbody (rt fs (3 + rest.length) way free (some (.d (.int k))) v8 v9 v10 v11 v12 w13 w14 w15) (h ++ (rest ++ [.lst ys])) =
      .ok .nx (rt fs (3 + rest.length) way free (some (.d (.int k))) w8 w9 w10 w11 w12 w13 w14 w15) (h' ++ (rest ++ [.lst (ys ++ [.d y])])) ∧ DdR d y ∧ DdOk fs d ∧ d.nm = dnm k ∧ Hd T (n + 25) h' := by
  obtain ⟨a, b, c, h1, e1, a1, b1, c1, H1⟩ := tb1_ok (rest := rest ++ [.lst ys]) (fs := fs) (N := 3 + rest.length) (way := way) (free := free) (w7 := some (.d (.int k))) (w8 := v8) (w9 := v9) (w10 := v10) (w11 := v11) (w12 := v12) (w13 := w13) (w14 := w14) (w15 := w15) H hf (by omega)
  obtain ⟨a', b', c', w11, w12, h2, e2, a2, b2, c2, H2⟩ := tb2_ok (rest := rest ++ [.lst ys]) (fs := fs) (N := 3 + rest.length) (way := way) (free := free) (w7 := some (.d (.int k))) (w11 := v11) (w12 := v12) (w13 := w13) (w14 := w14) (w15 := w15) H1 a1 b1 c1 hf (by omega)
  obtain ⟨c'', h3, e3, c3, H3⟩ := tb3_ok (rest := rest ++ [.lst ys]) (fs := fs) (N := 3 + rest.length) (way := way) (free := free) (w7 := some (.d (.int k))) (w8 := some (.d (txs false a'))) (w9 := some (.d (txs false b'))) (w11 := w11) (w12 := w12) (w13 := w13) (w14 := w14) (w15 := w15) H2 c2 (by omega)
  obtain ⟨p, h4, e4, p0, H4⟩ := tb4_ok (rest := rest) (fs := fs) (way := way) (free := free) (w11 := w11) (w12 := w12) (w13 := w13) (w14 := w14) (w15 := w15) (a := a') (b := b') (c := c'') H3 hk hy hfr hfr2 (by omega)
  refine ⟨⟨dnm k, a', b', c'', p⟩, .seq true [.str (dnm k), txs false a', txs false b', txs false c'', .int p], some (.d (txs false a')), some (.d (txs false b')), some (.d (txs false c'')), w11, w12, h4, ?_, ⟨true, false, false, false, rfl⟩, ⟨a2, b2, c3, p0⟩, rfl, H4.mono (by omega)⟩
  simp only [tbody, sSeq, e1, e2, e3, e4]
end
end IL

set_option maxHeartbeats 4000007
namespace IL
open PySem PySem.Spec
open PyProof.Rows L2
def tk1 : Sx := (sAsg (.nm 2) (mSl true (mSeq true false (mCons (eC (.str "a")) (mCons (eC (.str "at_b")) (mCons (eC (.str "b_c")) (mCons (eC (.str "c")) (mCons (eC (.str "dd")) (mCons (eC (.str "e_f_g")) (mCons (eC (.str "h")) mNil)))))))) mP0 (mP (eV 1))))
def tk2 : Sx := (sAsg (.nm 3) (mLc true (srSeq (eV 2)) (.nm 15) [15] (mT (mOp oGt (mRaw f_L_draw 2 (mCons (eV 0) (mCons (eC (.int 5)) mNil))) (eC (.int 0)))) (eV 15)))
def tk3 : Sx := (sPar2 4 5 (mCons (mRaw f_L_draw 2 (mCons (eV 0) (mCons (eC (.int 4)) mNil))) (mCons (mSeq false false mNil) mNil)))
def tk4 : Sx := (sAsg (.nm 6) (mRaw f_L_pick 2 (mCons (eV 0) (mCons (mSeq true false (mCons (eC (.int 1)) (mCons (eC (.int 5)) (mCons (eC (.int 20)) mNil)))) mNil))))
def tk5 : Sx := (sFor (srRng1 (mCons (mRaw f_L_draw 2 (mCons (eV 0) (mCons (eC (.int 9)) mNil))) mNil)) (.nm 7) tbody)
def tk6 : Sx := (sPar2 13 14 (mCons (mRaw f_L_some 3 (mCons (eV 0) (mCons (eV 3) (mCons (eC (.int 3)) mNil)))) (mCons (mRaw f_L_some 3 (mCons (eV 0) (mCons (eV 3) (mCons (mRaw f_L_pick 2 (mCons (eV 0) (mCons (mSeq true false (mCons (eC (.int 2)) (mCons (eC (.int 3)) (mCons (eC (.int 5)) mNil)))) mNil))) mNil)))) mNil)))
def tk7 : Sx := (sIf (mAnd (mT (mOp oEq (eV 4) (eC (.int 0)))) (mT (mOp oNe (eV 3) (mSeq true false mNil)))) (sPar2 13 14 (mCons (mSeq true false (mCons (mRaw f_L_pick 2 (mCons (eV 0) (mCons (eV 3) mNil))) mNil)) (mCons (mSeq true false (mCons (mRaw f_L_pick 2 (mCons (eV 0) (mCons (eV 3) mNil))) mNil)) mNil))) sNext)
def tk8 : Sx := (sRet (mSeq true true (mCons (eV 3) (mCons (eV 5) (mCons (eV 13) (mCons (eV 14) mNil))))))
theorem m_task_split : m_L_task = sSeq tk1 (sSeq tk2 (sSeq tk3 (sSeq tk4 (sSeq tk5 (sSeq tk6 (sSeq tk7 tk8)))))) := rfl
theorem paired_snoc {α β : Type} {R : α → β → Prop} {as : List α} {bs : List β} {a : α} {b : β} (h : Paired R as bs) (r : R a b) : Paired R (as ++ [a]) (bs ++ [b]) := by
  induction h with
  | nil => exact .cons r .nil
  | cons r1 _ ih => exact .cons r1 ih
theorem dtake : ∀ k < 9, dnames.take k ++ [dnm k] = dnames.take (k + 1) := by decide +kernel
section
variable {T : List (Addr × Str)} {rest : Store} {fs : List Str} {way free : Int} {w13 w14 w15 : Option W}
theorem tfor_ok (hf : fs.Sublist names7) (hfr : 0 ≤ free) (hfr2 : free ≤ 20) : ∀ (m k : Nat), k + m ≤ 8 → ∀ (n : Nat) (h : Store) (ds : List Dd) (ys : List D) (w7 w8 w9 w10 w11 w12 : Option W), Hd T n h → n + 25 * m + 100 ≤ 2 ^ 42 → Paired DdR ds ys → ys.length = k → ds.length = k → (∀ d ∈ ds, DdOk fs d) → ds.map (·.nm) = dnames.take k →
    ∃ (ds' : List Dd) (ys' : List D) (v7 v8 v9 v10 v11 v12 : Option W) (h' : Store), forL (.nm 7) tbody (rngL k m) (rt fs (3 + rest.length) way free w7 w8 w9 w10 w11 w12 w13 w14 w15) (h ++ (rest ++ [.lst (ys.map .d)])) =
      .ok .nx (rt fs (3 + rest.length) way free v7 v8 v9 v10 v11 v12 w13 w14 w15) (h' ++ (rest ++ [.lst (ys'.map .d)])) ∧ Paired DdR ds' ys' ∧ ds'.length = k + m ∧ (∀ d ∈ ds', DdOk fs d) ∧ ds'.map (·.nm) = dnames.take (k + m) ∧ Hd T (n + 25 * m) h'
  | 0, k, _, n, h, ds, ys, w7, w8, w9, w10, w11, w12, H, _, p, l1, l2, q1, q2 => ⟨ds, ys, w7, w8, w9, w10, w11, w12, h, rfl, p, l2, q1, q2, H⟩
  | m + 1, k, hk, n, h, ds, ys, w7, w8, w9, w10, w11, w12, H, hn, p, l1, l2, q1, q2 => by
    obtain ⟨d, y, v8, v9, v10, v11, v12, h1, e1, r1, o1, nm1, H1⟩ := tbody_ok (fs := fs) (way := way) (free := free) (rest := rest) (v8 := w8) (v9 := w9) (v10 := w10) (v11 := w11) (v12 := w12) (w13 := w13) (w14 := w14) (w15 := w15) H hf (k := k) (by omega) (ys := ys.map .d) (by rw [List.length_map]; omega) hfr hfr2 (by omega)
    have e1' : ys.map W.d ++ [.d y] = (ys ++ [y]).map W.d := by simp
    rw [e1'] at e1
    obtain ⟨ds', ys', u7, u8, u9, u10, u11, u12, h2, e2, r2, l3, o2, nm2, H2⟩ := tfor_ok hf hfr hfr2 m (k + 1) (by omega) (n + 25) h1 (ds ++ [d]) (ys ++ [y]) (some (.d (.int k))) v8 v9 v10 v11 v12 H1 (by omega) (paired_snoc p r1) (by simp [l1]) (by simp [l2])
      (fun z hz => by rcases List.mem_append.mp hz with hz | hz; exact q1 z hz; simp at hz; subst hz; exact o1) (by rw [List.map_append, q2, ← dtake k (by omega), List.map_cons, List.map_nil, nm1])
    refine ⟨ds', ys', u7, u8, u9, u10, u11, u12, h2, ?_, r2, by omega, o2, by rw [nm2]; congr 1; omega, H2.mono (by omega)⟩
    have e0 : (rt fs (3 + rest.length) way free w7 w8 w9 w10 w11 w12 w13 w14 w15).set 7 (some (.d (.int k))) = rt fs (3 + rest.length) way free (some (.d (.int k))) w8 w9 w10 w11 w12 w13 w14 w15 := rfl
    simp only [rngL, forL, one, Tgt.putI, Tgt.put, e0, e1]
    exact e2
end
theorem deepB_d (b k : Nat) (st : Store) (x : D) : deepB b k st (.d x) = some x := by cases k <;> rfl
theorem mapO_deepB_d (b k : Nat) (st : Store) (xs : List D) : mapO (deepB b k st) (xs.map W.d) = some xs := by
  induction xs with
  | nil => rfl
  | cons x xs ih => simp only [List.map_cons, mapO, deepB_d, ih]
def Low (rest : Store) : Prop := rest.all (lowO (3 + rest.length)) = true
theorem Hd.low {T n h} (H : Hd T n h) (N : Nat) : h.all (lowO (3 + N)) = true := by
  obtain ⟨ns, a, b, c, rfl, _⟩ := H.ex
  simp only [hd, List.all_cons, List.all_nil, lowO, lowW, Bool.and_true, Bool.true_and, Bool.and_eq_true, decide_eq_true_eq, List.all_eq_true]
  refine ⟨fun x hx => ?_, by omega⟩
  obtain ⟨i, _, rfl⟩ := List.mem_map.mp hx
  rfl
theorem take3 {T n h} (H : Hd T n h) (rest more : Store) : (h ++ (rest ++ more)).take (3 + rest.length) = h ++ rest := by
  rw [← List.append_assoc]
  exact List.take_left' (by simp [H.len])
theorem eqD_nil3 (l : List Str) : eqD (txs false l) (.seq false []) = l.isEmpty := by
  cases l with
  | nil => exact eqD_nil2 false
  | cons x xs => exact eqD_nil false _ _
theorem ne_nil (l : List Str) (st : Store) : oNe (.d (txs false l)) (.d (.seq false [])) st = some (.d (.bl (!l.isEmpty)), st) := by
  have p1 := strs_plD false l
  have p2 := strs_plD false []
  simp only [List.map_nil] at p2
  simp only [oCmp, wD, plD2, p1, p2, Bool.and_self, if_true, eqD_nil3]
end IL

set_option maxHeartbeats 4000007
namespace IL
open PySem PySem.Spec
open PyProof.Rows L2
theorem f_L_task_eq (ws : List W) (st : Store) : f_L_task ws st = cutTo st.length (outW (m_L_task (initE 16 ws) st)) := rfl
section
variable {T : List (Addr × Str)} {n : Nat} {h rest : Store} {fs : List Str} {N : Nat} {way free : Int} {w7 w8 w9 w10 w11 w12 w13 w14 w15 : Option W}
theorem tk6_ok (H : Hd T n h) (hf : fs.Sublist names7) (hn : n + 100 ≤ 2 ^ 43) :
    ∃ (a b : List Str) (h' : Store), tk6 (rt fs N way free w7 w8 w9 w10 w11 w12 w13 w14 w15) (h ++ rest) = .ok .nx (rt fs N way free w7 w8 w9 w10 w11 w12 (some (.d (txs false a))) (some (.d (txs false b))) w15) (h' ++ rest) ∧ a.Sublist fs ∧ b.Sublist fs ∧ Hd T (n + 15) h' := by
  obtain ⟨a, h1, e1, s1, H1⟩ := some_ok H rest false fs 3 (by decide) (by decide) (sub7 hf) (by omega)
  obtain ⟨x, hx, h2, e2, H2⟩ := pick_ok H1 rest false [.int 2, .int 3, .int 5] (by simp) (by decide) (by omega)
  obtain ⟨r, rfl, hr, hr2⟩ : ∃ r : Int, x = .int r ∧ 0 < r ∧ r < 1000 := by
    simp only [List.mem_cons, List.not_mem_nil, or_false] at hx
    rcases hx with rfl | rfl | rfl
    · exact ⟨2, rfl, by decide, by decide⟩
    · exact ⟨3, rfl, by decide, by decide⟩
    · exact ⟨5, rfl, by decide, by decide⟩
  obtain ⟨b, h3, e3, s3, H3⟩ := some_ok H2 rest false fs r hr hr2 (sub7 hf) (by omega)
  refine ⟨a, b, h3, ?_, s1, s3, H3.mono (by omega)⟩
  have es : ∀ (ρ : En) (st : Store), mSeq true false (mCons (eC (.int 2)) (mCons (eC (.int 3)) (mCons (eC (.int 5)) mNil))) ρ st = .ok (.d (.seq false [.int 2, .int 3, .int 5])) st := fun ρ st => rfl
  simp only [tk6, rt, sAsg, sPar2, sPar3, sIf, sRet, sDrop, sNext, mT, mOp, mUn, mCall, mCons, mNil, mRaw, mIf, mAnd, mOr, mNot, eV, eC, R.bind, R.bindS, R.of, List.getElem?_cons_zero, List.getElem?_cons_succ, List.set_cons_zero, List.set_cons_succ, List.length_cons, List.length_nil, Nat.reduceAdd, if_true, Tgt.put, e1, es, e2, e3]
theorem tk7_ok (H : Hd T n h) {a b : List Str} (ha : a.Sublist fs) (hb : b.Sublist fs) (hf : fs.Sublist names7) (hn : n + 100 ≤ 2 ^ 43) :
    ∃ (a' b' : List Str) (h' : Store), tk7 (rt fs N way free w7 w8 w9 w10 w11 w12 (some (.d (txs false a))) (some (.d (txs false b))) w15) (h ++ rest) = .ok .nx (rt fs N way free w7 w8 w9 w10 w11 w12 (some (.d (txs false a'))) (some (.d (txs false b'))) w15) (h' ++ rest) ∧ a'.Sublist fs ∧ b'.Sublist fs ∧ Hd T (n + 2) h' := by
  have e0 : ∀ (ρ : En) (st : Store), mSeq true false mNil ρ st = .ok (.d (.seq false [])) st := fun ρ st => rfl
  by_cases hw : way = 0
  · cases hl : fs.isEmpty with
    | false =>
      have hne : fs.map D.str ≠ [] := by intro e; have := congrArg List.length e; simp at this; subst this; simp at hl
      have h7 := sub7 hf
      obtain ⟨x, hx, h1, e1, H1⟩ := pick_ok H rest false (fs.map .str) hne (by rw [List.length_map]; omega) (by omega)
      obtain ⟨y, hy, h2, e2, H2⟩ := pick_ok H1 rest false (fs.map .str) hne (by rw [List.length_map]; omega) (by omega)
      obtain ⟨x, hx, rfl⟩ := List.mem_map.mp hx
      obtain ⟨y, hy, rfl⟩ := List.mem_map.mp hy
      refine ⟨[x], [y], h2, ?_, by simpa using hx, by simpa using hy, H2⟩
      have es : ∀ (p : D) (st : Store), R.of (mkS true false [.d p] st) = .ok (.d (.seq false [p])) st := fun p st => rfl
      have e5 : 1 ≤ sizeLine := by decide
      simp only [tk7, rt, mSeq, mkS, allD, sAsg, sPar2, sPar3, sIf, sRet, sDrop, sNext, mT, mOp, mUn, mCall, mCons, mNil, mRaw, mIf, mAnd, mOr, mNot, eV, eC, R.bind, R.bindS, R.of, List.getElem?_cons_zero, List.getElem?_cons_succ, List.set_cons_zero, List.set_cons_succ, List.length_cons, List.length_nil, Nat.reduceAdd, if_true, Tgt.put, eq_int, hw, decide_true, ne_nil, hl, Bool.not_false, e1, e2, Nat.zero_le, e5, Option.map_some]
      rfl
    | true =>
      refine ⟨a, b, h, ?_, ha, hb, H.mono (by omega)⟩
      simp only [tk7, rt, sAsg, sPar2, sPar3, sIf, sRet, sDrop, sNext, mT, mOp, mUn, mCall, mCons, mNil, mRaw, mIf, mAnd, mOr, mNot, eV, eC, R.bind, R.bindS, R.of, List.getElem?_cons_zero, List.getElem?_cons_succ, List.set_cons_zero, List.set_cons_succ, List.length_cons, List.length_nil, Nat.reduceAdd, if_true, Tgt.put, e0, eq_int, hw, decide_true, ne_nil, hl, Bool.not_true, Bool.false_eq_true, if_false]
  · refine ⟨a, b, h, ?_, ha, hb, H.mono (by omega)⟩
    simp only [tk7, rt, sAsg, sPar2, sPar3, sIf, sRet, sDrop, sNext, mT, mOp, mUn, mCall, mCons, mNil, mRaw, mIf, mAnd, mOr, mNot, eV, eC, R.bind, R.bindS, R.of, List.getElem?_cons_zero, List.getElem?_cons_succ, List.set_cons_zero, List.set_cons_succ, List.length_cons, List.length_nil, Nat.reduceAdd, if_true, Tgt.put, eq_int, hw, decide_false, Bool.false_eq_true, if_false]
end
theorem task_ok {T : List (Addr × Str)} {n : Nat} {h : Store} (H : Hd T n h) (rest : Store) (hr : Low rest) (hn : n + 1000 ≤ 2 ^ 42) :
    ∃ (t : Tk) (x : D) (h' : Store), f_L_task [.loc 2, .d (.int 7)] (h ++ rest) = .ok (.d x) (h' ++ rest) ∧ TkOk t ∧ TkR t x ∧ Hd T (n + 300) h' := by
  have z0 : initE 16 [W.loc 2, .d (.int 7)] = [some (.loc 2), some (.d (.int 7)), none, none, none, none, none, none, none, none, none, none, none, none, none, none] := rfl
  have z1 : tk1 [some (.loc 2), some (.d (.int 7)), none, none, none, none, none, none, none, none, none, none, none, none, none, none] (h ++ rest) = .ok .nx [some (.loc 2), some (.d (.int 7)), some (.d (txs false names7)), none, none, none, none, none, none, none, none, none, none, none, none, none] (h ++ rest) := rfl
  obtain ⟨fs, h1, e1, s1, H1⟩ := lcL_draw (T := T) (i := 15) (tt := (mT (mOp oGt (mRaw f_L_draw 2 (mCons (eV 0) (mCons (eC (.int 5)) mNil))) (eC (.int 0))))) (ρ := [some (.loc 2), some (.d (.int 7)), some (.d (txs false names7)), none, none, none, none, none, none, none, none, none, none, none, none, none]) (rest := rest) (by decide) (fun y n h H hn => by
    obtain ⟨k, h1, e1, k0, k1, H1⟩ := draw_ok H rest 5 (by decide) (by decide) hn
    refine ⟨decide (0 < k), h1, ?_, H1⟩
    simp only [sAsg, sPar2, sPar3, sIf, sRet, sDrop, sNext, mT, mOp, mUn, mCall, mCons, mNil, mRaw, mIf, mAnd, mOr, mNot, eV, eC, R.bind, R.bindS, R.of, List.getElem?_cons_zero, List.getElem?_cons_succ, List.set_cons_zero, List.set_cons_succ, List.length_cons, List.length_nil, Nat.reduceAdd, if_true, Tgt.put, e1, gt_int]) names7 n h H (by rw [names7_len]; omega)
  rw [names7_len] at H1
  have hl1 : (fs.map fun y => W.d (.str y)).length ≤ sizeLine := small_of (by rw [List.length_map]; have := sub7 s1; omega)
  have z2 : tk2 [some (.loc 2), some (.d (.int 7)), some (.d (txs false names7)), none, none, none, none, none, none, none, none, none, none, none, none, none] (h ++ rest) = .ok .nx [some (.loc 2), some (.d (.int 7)), some (.d (txs false names7)), some (.d (txs false fs)), none, none, none, none, none, none, none, none, none, none, none, none] (h1 ++ rest) := by
    have es : sqOf (h ++ rest) (.d (txs false names7)) = .dat false (names7.map .str) := rfl
    simp only [tk2, sAsg, mLc, srSeq, eV, List.getElem?_cons_zero, List.getElem?_cons_succ, R.bind, es, lcS, wipeE, List.set_cons_succ, List.set_cons_zero]
    have e1' : lcL (.nm 15) (mT (mOp oGt (mRaw f_L_draw 2 (mCons (eV 0) (mCons (eC (.int 5)) mNil))) (eC (.int 0)))) (eV 15) [some (.loc 2), some (.d (.int 7)), some (.d (txs false names7)), none, none, none, none, none, none, none, none, none, none, none, none, none] (List.map one (List.map D.str names7)) (h ++ rest) = _ := e1
    rw [e1']
    simp only [R.bind, hl1, if_true, mkS_strs, R.of, R.bindS, Tgt.put, List.set_cons_succ, List.set_cons_zero]
  obtain ⟨way, h2, e2, _, _, H2⟩ := draw_ok H1 rest 4 (by decide) (by decide) (by omega)
  have hN : (h2 ++ rest).length = 3 + rest.length := by simp [H2.len]
  have z3 : tk3 [some (.loc 2), some (.d (.int 7)), some (.d (txs false names7)), some (.d (txs false fs)), none, none, none, none, none, none, none, none, none, none, none, none] (h1 ++ rest) = .ok .nx [some (.loc 2), some (.d (.int 7)), some (.d (txs false names7)), some (.d (txs false fs)), some (.d (.int way)), some (.loc (3 + rest.length)), none, none, none, none, none, none, none, none, none, none] (h2 ++ (rest ++ [.lst []])) := by
    have es : ∀ (ρ : En) (st : Store), mSeq false false mNil ρ st = .ok (.loc st.length) (st ++ [.lst []]) := fun ρ st => rfl
    simp only [tk3, sAsg, sPar2, sPar3, sIf, sRet, sDrop, sNext, mT, mOp, mUn, mCall, mCons, mNil, mRaw, mIf, mAnd, mOr, mNot, eV, eC, R.bind, R.bindS, R.of, List.getElem?_cons_zero, List.getElem?_cons_succ, List.set_cons_zero, List.set_cons_succ, List.length_cons, List.length_nil, Nat.reduceAdd, if_true, Tgt.put, e2, es, hN, List.append_assoc]
  obtain ⟨x, hx, h3, e3, H3⟩ := pick_ok H2 (rest ++ [.lst []]) false [.int 1, .int 5, .int 20] (by simp) (by decide) (by omega)
  obtain ⟨free, rfl, hr1, hr2⟩ : ∃ r : Int, x = .int r ∧ 0 ≤ r ∧ r ≤ 20 := by
    simp only [List.mem_cons, List.not_mem_nil, or_false] at hx
    rcases hx with rfl | rfl | rfl
    · exact ⟨1, rfl, by decide, by decide⟩
    · exact ⟨5, rfl, by decide, by decide⟩
    · exact ⟨20, rfl, by decide, by decide⟩
  have z4 : tk4 [some (.loc 2), some (.d (.int 7)), some (.d (txs false names7)), some (.d (txs false fs)), some (.d (.int way)), some (.loc (3 + rest.length)), none, none, none, none, none, none, none, none, none, none] (h2 ++ (rest ++ [.lst []])) = .ok .nx (rt fs (3 + rest.length) way free none none none none none none none none none) (h3 ++ (rest ++ [.lst []])) := by
    have es : ∀ (ρ : En) (st : Store), mSeq true false (mCons (eC (.int 1)) (mCons (eC (.int 5)) (mCons (eC (.int 20)) mNil))) ρ st = .ok (.d (.seq false [.int 1, .int 5, .int 20])) st := fun ρ st => rfl
    simp only [tk4, rt, sAsg, sPar2, sPar3, sIf, sRet, sDrop, sNext, mT, mOp, mUn, mCall, mCons, mNil, mRaw, mIf, mAnd, mOr, mNot, eV, eC, R.bind, R.bindS, R.of, List.getElem?_cons_zero, List.getElem?_cons_succ, List.set_cons_zero, List.set_cons_succ, List.length_cons, List.length_nil, Nat.reduceAdd, if_true, Tgt.put, es, e3]
  obtain ⟨k, h4, e4, k0, k1, H4⟩ := draw_ok H3 (rest ++ [.lst []]) 9 (by decide) (by decide) (by omega)
  obtain ⟨ds, ys, v7, v8, v9, v10, v11, v12, h5, e5, r5, l5, o5, nm5, H5⟩ := tfor_ok (T := T) (rest := rest) (fs := fs) (way := way) (free := free) (w13 := none) (w14 := none) (w15 := none) s1 hr1 hr2 k.toNat 0 (by omega) (n + 10) h4 [] [] none none none none none none (H4.mono (by omega)) (by omega) .nil rfl rfl (by simp) rfl
  have z5 : tk5 (rt fs (3 + rest.length) way free none none none none none none none none none) (h3 ++ (rest ++ [.lst []])) = .ok .nx (rt fs (3 + rest.length) way free v7 v8 v9 v10 v11 v12 none none none) (h5 ++ (rest ++ [.lst (ys.map .d)])) := by
    have ei : inR k = true := by simp only [inR, Bool.and_eq_true, decide_eq_true_eq]; omega
    have e0 : eV 0 (rt fs (3 + rest.length) way free none none none none none none none none none) (h3 ++ (rest ++ [.lst []])) = .ok (.loc 2) (h3 ++ (rest ++ [.lst []])) := rfl
    simp only [tk5, sFor, srRng1, mCons, mNil, mRaw, e0, eC, R.bind, List.length_cons, List.length_nil, Nat.reduceAdd, if_true, e4, asInt, ei, R.bindS, forS]
    exact e5
  obtain ⟨a, b, h6, e6, a6, b6, H6⟩ := tk6_ok (rest := rest ++ [.lst (ys.map .d)]) (fs := fs) (N := 3 + rest.length) (way := way) (free := free) (w7 := v7) (w8 := v8) (w9 := v9) (w10 := v10) (w11 := v11) (w12 := v12) (w13 := none) (w14 := none) (w15 := none) H5 s1 (by omega)
  obtain ⟨a', b', h7, e7, a7, b7, H7⟩ := tk7_ok (rest := rest ++ [.lst (ys.map .d)]) (fs := fs) (N := 3 + rest.length) (way := way) (free := free) (w7 := v7) (w8 := v8) (w9 := v9) (w10 := v10) (w11 := v11) (w12 := v12) (w15 := none) H6 a6 b6 s1 (by omega)
  have hN7 : (h7 ++ (rest ++ [SO.lst (ys.map .d)])).length = 3 + rest.length + 1 := by simp [H7.len]; omega
  have z8 : tk8 (rt fs (3 + rest.length) way free v7 v8 v9 v10 v11 v12 (some (.d (txs false a'))) (some (.d (txs false b'))) none) (h7 ++ (rest ++ [.lst (ys.map .d)])) = .ok (.rt (.loc (3 + rest.length + 1))) (rt fs (3 + rest.length) way free v7 v8 v9 v10 v11 v12 (some (.d (txs false a'))) (some (.d (txs false b'))) none) (h7 ++ (rest ++ [.lst (ys.map .d), .tup [.d (txs false fs), .loc (3 + rest.length), .d (txs false a'), .d (txs false b')]])) := by
    have es : ∀ st : Store, mkS true true [.d (txs false fs), .loc (3 + rest.length), .d (txs false a'), .d (txs false b')] st = some (.loc st.length, st ++ [.tup [.d (txs false fs), .loc (3 + rest.length), .d (txs false a'), .d (txs false b')]]) := fun st => rfl
    have e5 : 4 ≤ sizeLine := by decide
    simp only [tk8, rt, mSeq, sAsg, sPar2, sPar3, sIf, sRet, sDrop, sNext, mT, mOp, mUn, mCall, mCons, mNil, mRaw, mIf, mAnd, mOr, mNot, eV, eC, R.bind, R.bindS, R.of, List.getElem?_cons_zero, List.getElem?_cons_succ, List.set_cons_zero, List.set_cons_succ, List.length_cons, List.length_nil, Nat.reduceAdd, if_true, Tgt.put, e5, es, hN7, List.append_assoc, List.cons_append, List.nil_append]
  refine ⟨⟨fs, ds, a', b'⟩, .seq true [txs false fs, .seq false ys, txs false a', txs false b'], h7, ?_, ⟨s1, by show ds.map (·.nm) = dnames.take ds.length; rw [nm5, l5], by show ds.length ≤ 8; omega, o5, a7, b7⟩, ⟨true, false, false, ys, false, false, rfl, r5⟩, H7.mono (by omega)⟩
  have ez : m_L_task (initE 16 [W.loc 2, .d (.int 7)]) (h ++ rest) = .ok (.rt (.loc (3 + rest.length + 1))) (rt fs (3 + rest.length) way free v7 v8 v9 v10 v11 v12 (some (.d (txs false a'))) (some (.d (txs false b'))) none) (h7 ++ (rest ++ [.lst (ys.map .d), .tup [.d (txs false fs), .loc (3 + rest.length), .d (txs false a'), .d (txs false b')]])) := by
    rw [m_task_split, z0]
    simp only [sSeq, z1, z2, z3, z4, z5, e6, e7, z8]
  have hb : (h ++ rest).length = 3 + rest.length := by simp [H.len]
  rw [f_L_task_eq, ez, hb]
  have c1 : ((h7 ++ (rest ++ [SO.lst (ys.map .d), .tup [.d (txs false fs), .loc (3 + rest.length), .d (txs false a'), .d (txs false b')]])).take (3 + rest.length)) = h7 ++ rest := take3 H7 rest _
  have c2 : (h7 ++ rest).all (lowO (3 + rest.length)) = true := by
    rw [List.all_append, H7.low, Bool.true_and]; exact hr
  have g1 : (h7 ++ (rest ++ [SO.lst (ys.map .d), .tup [.d (txs false fs), .loc (3 + rest.length), .d (txs false a'), .d (txs false b')]]))[3 + rest.length + 1]? = some (.tup [.d (txs false fs), .loc (3 + rest.length), .d (txs false a'), .d (txs false b')]) := by
    rw [← List.append_assoc, List.getElem?_append_right (by simp only [List.length_append, H7.len]; omega)]
    have : 3 + rest.length + 1 - (h7 ++ rest).length = 1 := by simp only [List.length_append, H7.len]; omega
    rw [this]; rfl
  have g0 : (h7 ++ (rest ++ [SO.lst (ys.map .d), .tup [.d (txs false fs), .loc (3 + rest.length), .d (txs false a'), .d (txs false b')]]))[3 + rest.length]? = some (.lst (ys.map .d)) := by
    rw [← List.append_assoc, List.getElem?_append_right (by simp [H7.len])]
    have : 3 + rest.length - (h7 ++ rest).length = 0 := by simp only [List.length_append, H7.len]; omega
    rw [this]; rfl
  have hl : (h7 ++ (rest ++ [SO.lst (ys.map .d), .tup [.d (txs false fs), .loc (3 + rest.length), .d (txs false a'), .d (txs false b')]])).length = 3 + rest.length + 2 := by simp [H7.len]; omega
  simp only [outW, cutTo, c1, c2, if_true, hl, deepB, g1, g0, Nat.le_refl, Nat.le_succ, mapO, deepB_d, mapO_deepB_d, Option.map_some]
end IL

set_option maxHeartbeats 4000007
namespace IL
open PySem PySem.Spec
open PyProof.Rows L2
/-! ### evaluation of pure calls, comprehensions -/
theorem callP1 (P : List D → Pr) (x : D) (st : Store) : callP P 1 [.d x] st = okFlat true (P [x]) st := rfl
theorem callP2 (P : List D → Pr) (x y : D) (st : Store) : callP P 2 [.d x, .d y] st = okFlat true (P [x, y]) st := rfl
theorem callP3 (P : List D → Pr) (x y z : D) (st : Store) : callP P 3 [.d x, .d y, .d z] st = okFlat true (P [x, y, z]) st := rfl
theorem okF_ok (x : D) (st : Store) : okFlat true (.ok x) st = .ok (.d x) st := rfl
theorem okF_ex (c f : Str) (x : D) (st : Store) : okFlat true (.ex c f x) st = .ex c f (.d x) st := rfl
theorem lcL_map {i : Nat} {el : Ex} {ρ : En} {st : Store} {xs : List D} (g : D → D) (h : ∀ x ∈ xs, el (ρ.set i (some (.d x))) st = .ok (.d (g x)) st) :
    lcL (.nm i) tYesX el ρ (xs.map one) st = .ok ((xs.map g).map .d) st := by
  induction xs with
  | nil => rfl
  | cons y l ih =>
    have h1 := h y List.mem_cons_self
    have ih := ih fun z hz => h z (List.mem_cons_of_mem _ hz)
    simp only [List.map_cons, lcL, one, Tgt.putI, Tgt.put, tYesX, h1, noEx, R.bind, if_true]
    rw [ih]
theorem mLc_map {m el : Ex} {ρ : En} {st : Store} {t : Bool} {xs : List D} (i : Nat) (hm : m ρ st = .ok (.d (.seq t xs)) st) (g : D → D) (hl : xs.length ≤ 1000) (h : ∀ x ∈ xs, el (ρ.set i (some (.d x))) st = .ok (.d (g x)) st) :
    mLc true (srSeq m) (.nm i) [i] tYesX el ρ st = .ok (.d (.seq false (xs.map g))) st := by
  have es : sqOf st (.d (.seq t xs)) = .dat t xs := rfl
  have h' : ∀ x ∈ xs, el ((ρ.set i none).set i (some (.d x))) st = .ok (.d (g x)) st := fun x hx => by rw [List.set_set]; exact h x hx
  have h3 : ((xs.map g).map W.d).length ≤ sizeLine := small_of (by simpa using hl)
  simp only [mLc, srSeq, hm, R.bind, es, lcS, wipeE, lcL_map g h', h3, if_true, mkS_d, R.of]
theorem mLc_strs {m : Ex} {tt : Tx} {ρ : En} {st : Store} {t : Bool} {l : List Str} (i : Nat) (hi : i < ρ.length) (hm : m ρ st = .ok (.d (txs t l)) st) (p : Str → Bool) (hl : l.length ≤ 1000) (h : ∀ y ∈ l, tt (ρ.set i (some (.d (.str y)))) st = .ok (p y) st) :
    mLc true (srSeq m) (.nm i) [i] tt (eV i) ρ st = .ok (.d (txs false (l.filter p))) st := by
  have es : sqOf st (.d (txs t l)) = .dat t (l.map .str) := rfl
  have h' : ∀ y ∈ l, tt ((ρ.set i none).set i (some (.d (.str y)))) st = .ok (p y) st := fun x hx => by rw [List.set_set]; exact h x hx
  have h3 : ((l.filter p).map fun y => W.d (.str y)).length ≤ sizeLine := small_of (by rw [List.length_map]; exact Nat.le_trans (List.length_filter_le _ _) hl)
  simp only [mLc, srSeq, hm, R.bind, es, lcS, wipeE, lcL_strs p (by simpa using hi) h', h3, if_true, mkS_strs, R.of]
theorem blOf_map (bs : List Bool) : mapO blOf (bs.map D.bl) = some bs := by
  induction bs with
  | nil => rfl
  | cons b bs ih => simp only [List.map_cons, mapO, blOf, ih]
theorem all_bls {α : Type} (xs : List α) (p : α → Bool) (st : Store) : oAll [.d (.seq false (xs.map fun x => .bl (p x)))] st = some (.d (.bl (xs.all p)), st) := by
  have e : (xs.map fun x => D.bl (p x)) = (xs.map p).map D.bl := by rw [List.map_map]; rfl
  have e2 : vw st (.d (.seq false ((xs.map p).map D.bl))) = .sq false (((xs.map p).map D.bl).map .d) := rfl
  rw [e]
  simp only [oAll, e2, allD_d, Option.bind_some, blOf_map, List.all_map]
  rfl
theorem mAll_ok {M : Ex} {ρ : En} {st : Store} {α : Type} (xs : List α) (p : α → Bool) (h : M ρ st = .ok (.d (.seq false (xs.map fun x => .bl (p x)))) st) : mCall oAll (mCons M mNil) ρ st = .ok (.d (.bl (xs.all p))) st := by
  simp only [mCall, mCons, h, R.bind, mNil, all_bls, R.of]
theorem mIx_ok {M : Ex} {ρ : En} {st : Store} {t : Bool} {xs : List D} {k : Nat} {x : D} (h : M ρ st = .ok (.d (.seq t xs)) st) (hx : xs[k]? = some x) : mOp oIx M (eC (.int k)) ρ st = .ok (.d x) st := by
  have ea : L2.atI (xs.map W.d) k = some (.d x) := atI_nat _ _ _ (by omega) (by rw [List.getElem?_map, Int.toNat_natCast, hx]; rfl)
  simp only [mOp, h, R.bind, eC, oIx, vw, vwD, ea, Option.map_some, R.of]
theorem eV_ok {i : Nat} {ρ : En} {w : W} (st : Store) (h : ρ[i]? = some (some w)) : eV i ρ st = .ok w st := by simp only [eV, h]
/-! ### the task's look -/
theorem f_are_facts_eq (a b : D) : f_are_facts [a, b] = outP (m_are_facts [some (.d a), some (.d b), none] []) := rfl
theorem are_facts_ok (t u : Bool) {fs l : List Str} (hf : fs.Sublist names7) (hl : l.Sublist fs) : f_are_facts [txs t fs, txs u l] = .ok (.bl true) := by
  have b := first_bad u (hl.trans hf)
  have e1 : mLc true (srSeq (eV 1)) (.nm 2) [2] tYesX (mOp (oIn false) (eV 2) (eV 0)) [some (.d (txs t fs)), some (.d (txs u l)), none] [] = .ok (.d (.seq false ((l.map D.str).map fun x => .bl true))) [] := by
    refine mLc_map 2 (t := u) rfl (fun x => .bl true) (by rw [List.length_map]; have := hl.length_le; have := sub7 hf; omega) fun x hx => ?_
    obtain ⟨y, hy, rfl⟩ := List.mem_map.mp hx
    have hy : y ∈ fs := hl.subset hy
    simp only [callP1, callP2, callP3, okF_ok, okF_ex, mPure, sAsg, sPar2, sPar3, sIf, sRet, sDrop, sNext, mT, mOp, mUn, mCall, mCons, mNil, mRaw, mIf, mAnd, mOr, mNot, eV, eC, R.bind, R.bindS, R.of, List.getElem?_cons_zero, List.getElem?_cons_succ, List.set_cons_zero, List.set_cons_succ, List.length_cons, List.length_nil, Nat.reduceAdd, if_true, Tgt.put, in_strs y t fs [], hy, decide_true]
  have e2 := mAll_ok (l.map D.str) (fun _ => true) e1
  rw [f_are_facts_eq]
  have i0 : ∀ st : Store, oIsN true (.d .non) (.d .non) st = some (.d (.bl false), st) := fun st => rfl
  have e3 : (sIf (mOr (mNot (mT (mPure f_is_list 1 (mCons (eV 1) mNil)))) (mT (mOp (oIsN true) (mPure f_first_bad_name 1 (mCons (eV 1) mNil)) (eC .non)))) (sRet (eC (.bl false))) sNext) [some (.d (txs t fs)), some (.d (txs u l)), none] [] = .ok .nx [some (.d (txs t fs)), some (.d (txs u l)), none] [] := by
    simp only [callP1, callP2, callP3, okF_ok, okF_ex, mPure, sAsg, sPar2, sPar3, sIf, sRet, sDrop, sNext, mT, mOp, mUn, mCall, mCons, mNil, mRaw, mIf, mAnd, mOr, mNot, eV, eC, R.bind, R.bindS, R.of, List.getElem?_cons_zero, List.getElem?_cons_succ, List.set_cons_zero, List.set_cons_succ, List.length_cons, List.length_nil, Nat.reduceAdd, if_true, Tgt.put, is_list_seq, b, i0, Bool.not_true, Bool.false_eq_true, if_false]
  simp only [m_are_facts, sSeq, e3, sRet, e2, R.bindS]
  simp only [List.all_eq_true.mpr (fun _ _ => rfl : ∀ x ∈ l.map D.str, (fun _ => true) x = true)]
  rfl
end IL

set_option maxHeartbeats 4000007
namespace IL
open PySem PySem.Spec
open PyProof.Rows L2
theorem f_is_number_eq (a : D) : f_is_number [a] = outP (m_is_number [some (.d a)] []) := rfl
theorem is_number_int (p : Int) : f_is_number [.int p] = .ok (.bl (!decide (p < 0))) := by
  rw [f_is_number_eq]
  simp only [m_is_number, mAndV, callP1, callP2, callP3, okF_ok, okF_ex, mPure, sAsg, sPar2, sPar3, sIf, sRet, sDrop, sNext, mT, mOp, mUn, mCall, mCons, mNil, mRaw, mIf, mAnd, mOr, mNot, eV, eC, R.bind, R.bindS, R.of, List.getElem?_cons_zero, List.getElem?_cons_succ, List.set_cons_zero, List.set_cons_succ, List.length_cons, List.length_nil, Nat.reduceAdd, if_true, Tgt.put, is_whole_int, ge_int]
  rfl
theorem f_is_deed_eq (a b : D) : f_is_deed [a, b] = outP (m_is_deed [some (.d a), some (.d b), none] []) := rfl
theorem is_deed_ok (t : Bool) {fs : List Str} (hf : fs.Sublist names7) {d : Dd} {y : D} (r : DdR d y) (o : DdOk fs d) (hn : d.nm ∈ dnames) : f_is_deed [txs t fs, y] = .ok (.bl true) := by
  obtain ⟨f, a, b, c, rfl⟩ := r
  have q1 := is_row_seq f [.str d.nm, txs a d.nd, txs b d.pt, txs c d.tk, .int d.pr] 5
  have q2 := is_dname d.nm hn
  have q3 := is_number_int d.pr
  have hp : decide (d.pr < 0) = false := decide_eq_false (by have := o.pr; omega)
  rw [hp] at q3
  have i0 : ∀ st : Store, oIx (.d (.seq f [.str d.nm, txs a d.nd, txs b d.pt, txs c d.tk, .int d.pr])) (.d (.int 0)) st = some (.d (.str d.nm), st) := fun st => rfl
  have i4 : ∀ st : Store, oIx (.d (.seq f [.str d.nm, txs a d.nd, txs b d.pt, txs c d.tk, .int d.pr])) (.d (.int 4)) st = some (.d (.int d.pr), st) := fun st => rfl
  have e3 : (sIf (mOr (mNot (mT (mPure f_is_row 2 (mCons (eV 1) (mCons (eC (.int 5)) mNil))))) (mOr (mNot (mT (mPure f_is_name 1 (mCons (mOp oIx (eV 1) (eC (.int 0))) mNil)))) (mNot (mT (mPure f_is_number 1 (mCons (mOp oIx (eV 1) (eC (.int 4))) mNil)))))) (sRet (eC (.bl false))) sNext) [some (.d (txs t fs)), some (.d (.seq f [.str d.nm, txs a d.nd, txs b d.pt, txs c d.tk, .int d.pr])), none] [] = .ok .nx [some (.d (txs t fs)), some (.d (.seq f [.str d.nm, txs a d.nd, txs b d.pt, txs c d.tk, .int d.pr])), none] [] := by
    simp only [callP1, callP2, callP3, okF_ok, okF_ex, mPure, sAsg, sPar2, sPar3, sIf, sRet, sDrop, sNext, mT, mOp, mUn, mCall, mCons, mNil, mRaw, mIf, mAnd, mOr, mNot, eV, eC, R.bind, R.bindS, R.of, List.getElem?_cons_zero, List.getElem?_cons_succ, List.set_cons_zero, List.set_cons_succ, List.length_cons, List.length_nil, Nat.reduceAdd, if_true, Tgt.put, q1, q2, q3, i0, i4]
    rfl
  have e1 : mLc true (srSeq (mSl true (eV 1) (mP (eC (.int 1))) (mP (eC (.int 4))))) (.nm 2) [2] tYesX (mPure f_are_facts 2 (mCons (eV 0) (mCons (eV 2) mNil))) [some (.d (txs t fs)), some (.d (.seq f [.str d.nm, txs a d.nd, txs b d.pt, txs c d.tk, .int d.pr])), none] [] = .ok (.d (.seq false (([txs a d.nd, txs b d.pt, txs c d.tk] : List D).map fun x => .bl true))) [] := by
    refine mLc_map 2 (t := f) (xs := [txs a d.nd, txs b d.pt, txs c d.tk]) rfl (fun x => .bl true) (by simp) fun x hx => ?_
    have e : f_are_facts [txs t fs, x] = .ok (.bl true) := by
      simp only [List.mem_cons, List.not_mem_nil, or_false] at hx
      rcases hx with rfl | rfl | rfl
      · exact are_facts_ok t a hf o.nd
      · exact are_facts_ok t b hf o.pt
      · exact are_facts_ok t c hf o.tk
    simp only [callP1, callP2, callP3, okF_ok, okF_ex, mPure, sAsg, sPar2, sPar3, sIf, sRet, sDrop, sNext, mT, mOp, mUn, mCall, mCons, mNil, mRaw, mIf, mAnd, mOr, mNot, eV, eC, R.bind, R.bindS, R.of, List.getElem?_cons_zero, List.getElem?_cons_succ, List.set_cons_zero, List.set_cons_succ, List.length_cons, List.length_nil, Nat.reduceAdd, if_true, Tgt.put, e]
  have e2 := mAll_ok ([txs a d.nd, txs b d.pt, txs c d.tk] : List D) (fun _ => true) e1
  rw [f_is_deed_eq]
  simp only [m_is_deed, sSeq, e3, sRet, e2, R.bindS]
  rfl
theorem f_fault_of_eq (a : D) : f_fault_of [a] = outP (m_fault_of [some (.d a), none, none, none, none] []) := rfl
def fo_body : Sx := (sSeq (sIf (mOr (mNot (mT (mPure f_is_deed 2 (mCons (mOp oIx (eV 0) (eC (.int 0))) (mCons (eV 4) mNil))))) (mT (mOp (oIn false) (mOp oIx (eV 4) (eC (.int 0))) (eV 2)))) (sRet (mSeq true true (mCons (eC (.str "deeds")) (mCons (eV 3) mNil)))) sNext)
  (sDrop (mMeth oAppend (eV 2) (mCons (mOp oIx (eV 4) (eC (.int 0))) mNil))))
theorem mapO_deepW_d (k : Nat) (st : Store) (xs : List D) : mapO (deepW k st) (xs.map W.d) = some xs := by
  induction xs with
  | nil => rfl
  | cons x xs ih =>
    have e : deepW k st (.d x) = some x := by cases k <;> rfl
    simp only [List.map_cons, mapO, e, ih]
theorem fo_for (t : Bool) {fs : List Str} (hf : fs.Sublist names7) {x : D} (hx : ∀ st : Store, oIx (.d x) (.d (.int 0)) st = some (.d (txs t fs), st)) : ∀ (ds : List Dd) (ys : List D) (i : Nat) (pre : List Str) (v3 v4 : Option W), Paired DdR ds ys → (∀ d ∈ ds, DdOk fs d) → (pre ++ ds.map (·.nm)).Nodup → (∀ d ∈ ds, d.nm ∈ dnames) → pre.length + ds.length ≤ 100 →
    ∃ (u3 u4 : Option W) (st' : Store), forL (.tp [.nm 3, .nm 4]) fo_body (enumD i ys) [some (.d x), some (.d .non), some (.loc 0), v3, v4] [.lst ((pre.map D.str).map W.d)] = .ok .nx [some (.d x), some (.d .non), some (.loc 0), u3, u4] st'
  | [], _, i, pre, v3, v4, .nil, _, _, _, _ => ⟨v3, v4, _, rfl⟩
  | d :: ds, y :: ys, i, pre, v3, v4, .cons r p, o, nd, nm, hl => by
    have hn := nm d List.mem_cons_self
    have e1 := is_deed_ok t hf r (o d List.mem_cons_self) hn
    have hni : d.nm ∉ pre := by
      intro hm
      exact (List.nodup_append.mp nd).2.2 _ hm _ (by simp) rfl
    have ei : ∀ st : Store, oIx (.d y) (.d (.int 0)) st = some (.d (.str d.nm), st) := by
      obtain ⟨f, a, b, c, rfl⟩ := r
      exact fun st => rfl
    have e2 : oIn false (.d (.str d.nm)) (.loc 0) [.lst ((pre.map D.str).map W.d)] = some (.d (.bl false), [.lst ((pre.map D.str).map W.d)]) := by
      have w1 : wD [.lst ((pre.map D.str).map W.d)] (.loc 0) = some (txs false pre) := by
        show (Option.map (D.seq false) (mapO (deepW 0 [.lst ((pre.map D.str).map W.d)]) ((pre.map D.str).map W.d))) = _
        rw [mapO_deepW_d]; rfl
      have h := in_strs d.nm false pre []
      have h2 : plD (.str d.nm) = true := by simp [plD, toPy, PyData.plain, PyData.depth]
      simp [oIn, vw, vwD, wD, h2, strs_plD] at h
      have v1 : vw [.lst ((pre.map D.str).map W.d)] (.loc 0) = .sq false ((pre.map D.str).map W.d) := rfl
      simp only [oIn, v1, w1]
      have w2 : wD [.lst ((pre.map D.str).map W.d)] (.d (.str d.nm)) = some (.str d.nm) := rfl
      simp only [w2, h2, strs_plD, and_self, if_true, Bool.false_eq_true, if_false]
      simp [h, hni]
    have e3 : oAppend (.loc 0) [.d (.str d.nm)] [.lst ((pre.map D.str).map W.d)] = some (.d .non, [.lst (((pre ++ [d.nm]).map D.str).map W.d)]) := by
      have : ((pre.map D.str).map W.d).length < sizeLine := Nat.lt_of_lt_of_le (by simp at hl ⊢; omega : _ < 1000) (by decide)
      simp only [oAppend, List.getElem?_cons_zero, this, if_true, List.set_cons_zero, List.map_append, List.map_cons, List.map_nil]
    have v1 : vw [.lst ((pre.map D.str).map W.d)] (.loc 0) = .sq false ((pre.map D.str).map W.d) := rfl
    have eb : fo_body [some (.d x), some (.d .non), some (.loc 0), some (.d (.int i)), some (.d y)] [.lst ((pre.map D.str).map W.d)] = .ok .nx [some (.d x), some (.d .non), some (.loc 0), some (.d (.int i)), some (.d y)] [.lst (((pre ++ [d.nm]).map D.str).map W.d)] := by
      simp only [fo_body, sSeq, mMeth, callP1, callP2, callP3, okF_ok, okF_ex, mPure, sAsg, sPar2, sPar3, sIf, sRet, sDrop, sNext, mT, mOp, mUn, mCall, mCons, mNil, mRaw, mIf, mAnd, mOr, mNot, eV, eC, R.bind, R.bindS, R.of, List.getElem?_cons_zero, List.getElem?_cons_succ, List.set_cons_zero, List.set_cons_succ, List.length_cons, List.length_nil, Nat.reduceAdd, if_true, Tgt.put, hx, e1, Bool.not_true, Bool.false_eq_true, if_false, ei, e2, v1, e3]
    have ep : Tgt.putI [.lst ((pre.map D.str).map W.d)] (.tp [.nm 3, .nm 4]) (.two (.d (.int i)) (.d y)) [some (.d x), some (.d .non), some (.loc 0), v3, v4] = some [some (.d x), some (.d .non), some (.loc 0), some (.d (.int i)), some (.d y)] := rfl
    obtain ⟨u3, u4, st', e5⟩ := fo_for t hf hx ds ys (i + 1) (pre ++ [d.nm]) (some (.d (.int i))) (some (.d y)) p (fun z hz => o z (List.mem_cons_of_mem _ hz)) (by simpa using nd) (fun z hz => nm z (List.mem_cons_of_mem _ hz)) (by simp at hl ⊢; omega)
    refine ⟨u3, u4, st', ?_⟩
    show (match Tgt.putI [.lst ((pre.map D.str).map W.d)] (.tp [.nm 3, .nm 4]) (.two (.d (.int i)) (.d y)) [some (.d x), some (.d .non), some (.loc 0), v3, v4] with
      | none => RS.bad
      | some ρ1 => match fo_body ρ1 [.lst ((pre.map D.str).map W.d)] with
        | .ok .nx ρ2 st2 => forL (.tp [.nm 3, .nm 4]) fo_body (enumD (i + 1) ys) ρ2 st2
        | .ok .ct ρ2 st2 => forL (.tp [.nm 3, .nm 4]) fo_body (enumD (i + 1) ys) ρ2 st2
        | .ok .bk ρ2 st2 => .ok .nx ρ2 st2
        | r => r) = _
    rw [ep]
    simp only [eb]
    exact e5
end IL

set_option maxHeartbeats 4000007
namespace IL
open PySem PySem.Spec
open PyProof.Rows L2
theorem dnames_nodup : dnames.Nodup := by decide +kernel
theorem TkOk.nodup {t : Tk} (o : TkOk t) : (t.ds.map (·.nm)).Nodup := by rw [o.nms]; exact dnames_nodup.sublist (List.take_sublist _ _)
theorem TkOk.dn {t : Tk} (o : TkOk t) : ∀ d ∈ t.ds, d.nm ∈ dnames := fun d hd => by
  have : d.nm ∈ t.ds.map (·.nm) := List.mem_map_of_mem hd
  rw [o.nms] at this
  exact List.mem_of_mem_take this
theorem fault_of_ok {t : Tk} {x : D} (r : TkR t x) (o : TkOk t) : f_fault_of [x] = .ok .non := by
  obtain ⟨f, a, b, ys, c, e, rfl, p⟩ := r
  have q1 := is_row_seq f [txs a t.fs, .seq b ys, txs c t.s, txs e t.g] 4
  have q2 := first_bad a o.fs
  have q3 := are_facts_ok a c o.fs o.s
  have q4 := are_facts_ok a e o.fs o.g
  have i0 : ∀ st : Store, oIx (.d (.seq f [txs a t.fs, .seq b ys, txs c t.s, txs e t.g])) (.d (.int 0)) st = some (.d (txs a t.fs), st) := fun st => rfl
  have i1 : ∀ st : Store, oIx (.d (.seq f [txs a t.fs, .seq b ys, txs c t.s, txs e t.g])) (.d (.int 1)) st = some (.d (.seq b ys), st) := fun st => rfl
  have i2 : ∀ st : Store, oIx (.d (.seq f [txs a t.fs, .seq b ys, txs c t.s, txs e t.g])) (.d (.int 2)) st = some (.d (txs c t.s), st) := fun st => rfl
  have i3 : ∀ st : Store, oIx (.d (.seq f [txs a t.fs, .seq b ys, txs c t.s, txs e t.g])) (.d (.int 3)) st = some (.d (txs e t.g), st) := fun st => rfl
  have n0 : ∀ st : Store, oIsN true (.d .non) (.d .non) st = some (.d (.bl false), st) := fun st => rfl
  have s0 : ∀ (ρ : En) (st : Store), mSeq false false mNil ρ st = .ok (.loc st.length) (st ++ [.lst []]) := fun ρ st => rfl
  obtain ⟨u3, u4, st', ef⟩ := fo_for a (x := .seq f [txs a t.fs, .seq b ys, txs c t.s, txs e t.g]) o.fs i0 t.ds ys 0 [] none none p o.ds (by simpa using o.nodup) o.dn (by have := o.len; simp; omega)
  rw [f_fault_of_eq]
  generalize hX : D.seq f [txs a t.fs, .seq b ys, txs c t.s, txs e t.g] = X at *
  have e1 : (sIf (mOr (mNot (mT (mPure f_is_row 2 (mCons (eV 0) (mCons (eC (.int 4)) mNil))))) (mOr (mNot (mT (mPure f_is_list 1 (mCons (mOp oIx (eV 0) (eC (.int 0))) mNil)))) (mNot (mT (mPure f_is_list 1 (mCons (mOp oIx (eV 0) (eC (.int 1))) mNil)))))) (sRet (mSeq true true (mCons (eC (.str "form")) mNil))) sNext) [some (.d X), none, none, none, none] [] = .ok .nx [some (.d X), none, none, none, none] [] := by
    simp only [callP1, callP2, callP3, okF_ok, okF_ex, mPure, sAsg, sPar2, sPar3, sIf, sRet, sDrop, sNext, mT, mOp, mUn, mCall, mCons, mNil, mRaw, mIf, mAnd, mOr, mNot, eV, eC, R.bind, R.bindS, R.of, List.getElem?_cons_zero, List.getElem?_cons_succ, List.set_cons_zero, List.set_cons_succ, List.length_cons, List.length_nil, Nat.reduceAdd, if_true, Tgt.put, q1, i0, i1, is_list_seq]
    rfl
  have e2 : (sAsg (.nm 1) (mPure f_first_bad_name 1 (mCons (mOp oIx (eV 0) (eC (.int 0))) mNil))) [some (.d X), none, none, none, none] [] = .ok .nx [some (.d X), some (.d .non), none, none, none] [] := by
    simp only [callP1, callP2, callP3, okF_ok, okF_ex, mPure, sAsg, sPar2, sPar3, sIf, sRet, sDrop, sNext, mT, mOp, mUn, mCall, mCons, mNil, mRaw, mIf, mAnd, mOr, mNot, eV, eC, R.bind, R.bindS, R.of, List.getElem?_cons_zero, List.getElem?_cons_succ, List.set_cons_zero, List.set_cons_succ, List.length_cons, List.length_nil, Nat.reduceAdd, if_true, Tgt.put, i0, q2]
  have e3 : (sIf (mT (mOp (oIsN true) (eV 1) (eC .non))) (sRet (mSeq true true (mCons (eC (.str "facts")) (mCons (eV 1) mNil)))) sNext) [some (.d X), some (.d .non), none, none, none] [] = .ok .nx [some (.d X), some (.d .non), none, none, none] [] := by
    simp only [callP1, callP2, callP3, okF_ok, okF_ex, mPure, sAsg, sPar2, sPar3, sIf, sRet, sDrop, sNext, mT, mOp, mUn, mCall, mCons, mNil, mRaw, mIf, mAnd, mOr, mNot, eV, eC, R.bind, R.bindS, R.of, List.getElem?_cons_zero, List.getElem?_cons_succ, List.set_cons_zero, List.set_cons_succ, List.length_cons, List.length_nil, Nat.reduceAdd, if_true, Tgt.put, n0, Bool.false_eq_true, if_false]
  have e4 : (sAsg (.nm 2) (mSeq false false mNil)) [some (.d X), some (.d .non), none, none, none] [] = .ok .nx [some (.d X), some (.d .non), some (.loc 0), none, none] [.lst []] := rfl
  have e5 : (sFor (srEnum (mOp oIx (eV 0) (eC (.int 1)))) (.tp [(.nm 3), (.nm 4)]) fo_body) [some (.d X), some (.d .non), some (.loc 0), none, none] [.lst []] = .ok .nx [some (.d X), some (.d .non), some (.loc 0), u3, u4] st' := by
    have es : sqOf [.lst []] (.d (.seq b ys)) = .dat b ys := rfl
    simp only [sFor, srEnum, callP1, callP2, callP3, okF_ok, okF_ex, mPure, sAsg, sPar2, sPar3, sIf, sRet, sDrop, sNext, mT, mOp, mUn, mCall, mCons, mNil, mRaw, mIf, mAnd, mOr, mNot, eV, eC, R.bind, R.bindS, R.of, List.getElem?_cons_zero, List.getElem?_cons_succ, List.set_cons_zero, List.set_cons_succ, List.length_cons, List.length_nil, Nat.reduceAdd, if_true, Tgt.put, i1, es, forS]
    exact ef
  have e6 : (sIf (mNot (mT (mPure f_are_facts 2 (mCons (mOp oIx (eV 0) (eC (.int 0))) (mCons (mOp oIx (eV 0) (eC (.int 2))) mNil))))) (sRet (mSeq true true (mCons (eC (.str "start")) mNil))) sNext) [some (.d X), some (.d .non), some (.loc 0), u3, u4] st' = .ok .nx [some (.d X), some (.d .non), some (.loc 0), u3, u4] st' := by
    simp only [callP1, callP2, callP3, okF_ok, okF_ex, mPure, sAsg, sPar2, sPar3, sIf, sRet, sDrop, sNext, mT, mOp, mUn, mCall, mCons, mNil, mRaw, mIf, mAnd, mOr, mNot, eV, eC, R.bind, R.bindS, R.of, List.getElem?_cons_zero, List.getElem?_cons_succ, List.set_cons_zero, List.set_cons_succ, List.length_cons, List.length_nil, Nat.reduceAdd, if_true, Tgt.put, i0, i2, q3, Bool.not_true, Bool.false_eq_true, if_false]
  have e7 : (sRet (mIf (mT (mPure f_are_facts 2 (mCons (mOp oIx (eV 0) (eC (.int 0))) (mCons (mOp oIx (eV 0) (eC (.int 3))) mNil)))) (eC .non) (mSeq true true (mCons (eC (.str "goal")) mNil)))) [some (.d X), some (.d .non), some (.loc 0), u3, u4] st' = .ok (.rt (.d .non)) [some (.d X), some (.d .non), some (.loc 0), u3, u4] st' := by
    simp only [callP1, callP2, callP3, okF_ok, okF_ex, mPure, sAsg, sPar2, sPar3, sIf, sRet, sDrop, sNext, mT, mOp, mUn, mCall, mCons, mNil, mRaw, mIf, mAnd, mOr, mNot, eV, eC, R.bind, R.bindS, R.of, List.getElem?_cons_zero, List.getElem?_cons_succ, List.set_cons_zero, List.set_cons_succ, List.length_cons, List.length_nil, Nat.reduceAdd, if_true, Tgt.put, i0, i3, q4]
  have em : m_fault_of [some (.d X), none, none, none, none] [] = .ok (.rt (.d .non)) [some (.d X), some (.d .non), some (.loc 0), u3, u4] st' := by
    show sSeq _ (sSeq _ (sSeq _ (sSeq _ (sSeq (sFor _ _ fo_body) _)))) _ _ = _
    simp only [sSeq, e1, e2, e3, e4, e5, e6, e7]
  rw [em]
  simp only [outP, deepB_d]
theorem f_check_task_eq (a : D) : f_check_task [a] = outP (m_check_task [some (.d a), none] []) := rfl
theorem check_task_ok {t : Tk} {x : D} (r : TkR t x) (o : TkOk t) : f_check_task [x] = .ok .non := by
  have e := fault_of_ok r o
  have n0 : ∀ st : Store, oIsN true (.d .non) (.d .non) st = some (.d (.bl false), st) := fun st => rfl
  rw [f_check_task_eq]
  simp only [m_check_task, sSeq, callP1, callP2, callP3, okF_ok, okF_ex, mPure, sAsg, sPar2, sPar3, sIf, sRet, sDrop, sNext, mT, mOp, mUn, mCall, mCons, mNil, mRaw, mIf, mAnd, mOr, mNot, eV, eC, R.bind, R.bindS, R.of, List.getElem?_cons_zero, List.getElem?_cons_succ, List.set_cons_zero, List.set_cons_succ, List.length_cons, List.length_nil, Nat.reduceAdd, if_true, Tgt.put, e, n0, Bool.false_eq_true, if_false, outP]
/-! ### done, after, open -/
theorem f_done_eq (a b : D) : f_done [a, b] = outP (m_done [some (.d a), some (.d b), none, none] []) := rfl
theorem mAnd_ok {t1 t2 : Tx} {ρ : En} {st : Store} {b1 b2 : Bool} (h1 : t1 ρ st = .ok b1 st) (h2 : t2 ρ st = .ok b2 st) : mAnd t1 t2 ρ st = .ok (b1 && b2) st := by
  simp only [mAnd, h1, R.bind]
  cases b1 <;> simp [h2]
theorem mOr_ok {t1 t2 : Tx} {ρ : En} {st : Store} {b1 b2 : Bool} (h1 : t1 ρ st = .ok b1 st) (h2 : t2 ρ st = .ok b2 st) : mOr t1 t2 ρ st = .ok (b1 || b2) st := by
  simp only [mOr, h1, R.bind]
  cases b1 <;> simp [h2]
theorem done_ok {fs : List Str} (hf : fs.Sublist names7) {d : Dd} {y : D} (r : DdR d y) (o : DdOk fs d) (u : Bool) {s : List Str} (hs : s.Sublist fs) : f_done [y, txs u s] = .ok (txs false (afterOf fs d s)) := by
  obtain ⟨f, a, b, c, rfl⟩ := r
  have hp := done_perm hf o hs
  have l1 : s.length ≤ 7 := Nat.le_trans hs.length_le (sub7 hf)
  have l2 : d.pt.length ≤ 7 := Nat.le_trans o.pt.length_le (sub7 hf)
  have i2 : ∀ st : Store, oIx (.d (.seq f [.str d.nm, txs a d.nd, txs b d.pt, txs c d.tk, .int d.pr])) (.d (.int 2)) st = some (.d (txs b d.pt), st) := fun st => rfl
  have i3 : ∀ st : Store, oIx (.d (.seq f [.str d.nm, txs a d.nd, txs b d.pt, txs c d.tk, .int d.pr])) (.d (.int 3)) st = some (.d (txs c d.tk), st) := fun st => rfl
  rw [f_done_eq]
  generalize hX : D.seq f [.str d.nm, txs a d.nd, txs b d.pt, txs c d.tk, .int d.pr] = X at *
  have e1 : mLc true (srSeq (eV 1)) (.nm 3) [3] (mAnd (mT (mOp (oIn true) (eV 3) (mOp oIx (eV 0) (eC (.int 3))))) (mT (mOp (oIn true) (eV 3) (mOp oIx (eV 0) (eC (.int 2)))))) (eV 3) [some (.d X), some (.d (txs u s)), none, none] [] = .ok (.d (txs false (keptOf d s))) [] := by
    refine mLc_strs 3 (by simp) (t := u) rfl _ (by omega) fun y hy => ?_
    refine mAnd_ok ?_ ?_
    · simp only [callP1, callP2, callP3, okF_ok, okF_ex, mPure, sAsg, sPar2, sPar3, sIf, sRet, sDrop, sNext, mT, mOp, mUn, mCall, mCons, mNil, mRaw, mIf, mAnd, mOr, mNot, eV, eC, R.bind, R.bindS, R.of, List.getElem?_cons_zero, List.getElem?_cons_succ, List.set_cons_zero, List.set_cons_succ, List.length_cons, List.length_nil, Nat.reduceAdd, if_true, Tgt.put, i3, notin_strs]
    · simp only [callP1, callP2, callP3, okF_ok, okF_ex, mPure, sAsg, sPar2, sPar3, sIf, sRet, sDrop, sNext, mT, mOp, mUn, mCall, mCons, mNil, mRaw, mIf, mAnd, mOr, mNot, eV, eC, R.bind, R.bindS, R.of, List.getElem?_cons_zero, List.getElem?_cons_succ, List.set_cons_zero, List.set_cons_succ, List.length_cons, List.length_nil, Nat.reduceAdd, if_true, Tgt.put, i2, notin_strs]
  have hk : (keptOf d s).length ≤ 7 := Nat.le_trans (List.length_filter_le _ _) l1
  have e2 : ∀ st : Store, oList true [.d (txs b d.pt)] st = some (.d (txs false d.pt), st) := fun st => mkS_d false (d.pt.map .str) st
  have e3 : ∀ st : Store, oAdd true (.d (txs false (keptOf d s))) (.d (txs false d.pt)) st = some (.d (txs false (keptOf d s ++ d.pt)), st) := fun st => by
    have hl : (keptOf d s).length + d.pt.length ≤ sizeLine := small_of (by omega)
    simp only [oAdd, vw, vwD, List.length_map, hl, if_true]
    rw [← List.map_append, ← List.map_append, mkS_d]
  have e4 : ∀ st : Store, oSorted true [.d (txs false (keptOf d s ++ d.pt))] st = some (.d (txs false (afterOf fs d s)), st) := fun st => by
    have hl : ((keptOf d s ++ d.pt).map D.str).length ≤ sizeLine := small_of (by rw [List.length_map, List.length_append]; omega)
    simp only [oSorted, vw, vwD, allD_d, hl, srt_strs, and_self, if_true]
    rw [sort_names ((after_sub fs d s).trans hf) hp, mkS_d]
  simp only [m_done, sSeq, sAsg, e1, R.bindS, Tgt.put, List.set_cons_succ, List.set_cons_zero]
  simp only [callP1, callP2, callP3, okF_ok, okF_ex, mPure, sAsg, sPar2, sPar3, sIf, sRet, sDrop, sNext, mT, mOp, mUn, mCall, mCons, mNil, mRaw, mIf, mAnd, mOr, mNot, eV, eC, R.bind, R.bindS, R.of, List.getElem?_cons_zero, List.getElem?_cons_succ, List.set_cons_zero, List.set_cons_succ, List.length_cons, List.length_nil, Nat.reduceAdd, if_true, Tgt.put, i2, e2, e3, e4, outP, deepB_d]
theorem f_L_after_eq (a b c : D) : f_L_after [a, b, c] = outP (m_L_after [some (.d a), some (.d b), some (.d c), none, none, none, none, none, none] []) := rfl
theorem pair_at {α β : Type} {R : α → β → Prop} {as : List α} {bs : List β} (h : Paired R as bs) : ∀ {k : Nat} {a : α}, as[k]? = some a → ∃ b, bs[k]? = some b ∧ R a b := by
  induction h with
  | nil => intro k a e; simp at e
  | cons r _ ih =>
    intro k a e
    cases k with
    | zero => simp at e; subst e; exact ⟨_, rfl, r⟩
    | succ k => exact ih (by simpa using e)
theorem ix_seq (t : Bool) (xs : List D) (k : Nat) {x : D} (h : xs[k]? = some x) (st : Store) : oIx (.d (.seq t xs)) (.d (.int k)) st = some (.d x, st) := by
  have ea : L2.atI (xs.map W.d) k = some (.d x) := atI_nat _ _ _ (by omega) (by rw [List.getElem?_map, Int.toNat_natCast, h]; rfl)
  simp only [oIx, vw, vwD, ea, Option.map_some]
theorem after_ok {t : Tk} {x : D} (r : TkR t x) (o : TkOk t) (u : Bool) (s : List Str) {k : Nat} {d : Dd} (hk : t.ds[k]? = some d) : f_L_after [x, txs u s, .int k] = .ok (txs false (afterOf t.fs d s)) := by
  obtain ⟨f, a, b, ys, c, e, rfl, p⟩ := r
  obtain ⟨y, hy, r⟩ := pair_at p hk
  obtain ⟨f', a', b', c', rfl⟩ := r
  have i0 : ∀ st : Store, oIx (.d (.seq f [txs a t.fs, .seq b ys, txs c t.s, txs e t.g])) (.d (.int 0)) st = some (.d (txs a t.fs), st) := fun st => rfl
  have i1 : ∀ st : Store, oIx (.d (.seq f [txs a t.fs, .seq b ys, txs c t.s, txs e t.g])) (.d (.int 1)) st = some (.d (.seq b ys), st) := fun st => rfl
  have ik := ix_seq b ys k hy []
  rw [f_L_after_eq]
  generalize hX : D.seq f [txs a t.fs, .seq b ys, txs c t.s, txs e t.g] = X at *
  have e1 : (sAsg (.tp [(.nm 3), (.nm 4), (.nm 5), (.nm 6), (.nm 7)]) (mOp oIx (mOp oIx (eV 0) (eC (.int 1))) (eV 2))) [some (.d X), some (.d (txs u s)), some (.d (.int k)), none, none, none, none, none, none] [] = .ok .nx [some (.d X), some (.d (txs u s)), some (.d (.int k)), some (.d (.str d.nm)), some (.d (txs a' d.nd)), some (.d (txs b' d.pt)), some (.d (txs c' d.tk)), some (.d (.int d.pr)), none] [] := by
    simp only [callP1, callP2, callP3, okF_ok, okF_ex, mPure, sAsg, sPar2, sPar3, sIf, sRet, sDrop, sNext, mT, mOp, mUn, mCall, mCons, mNil, mRaw, mIf, mAnd, mOr, mNot, eV, eC, R.bind, R.bindS, R.of, List.getElem?_cons_zero, List.getElem?_cons_succ, List.set_cons_zero, List.set_cons_succ, List.length_cons, List.length_nil, Nat.reduceAdd, if_true, Tgt.put, i1, ik]
    rfl
  have e2 : mLc true (srSeq (mOp oIx (eV 0) (eC (.int 0)))) (.nm 8) [8] (mOr (mT (mOp (oIn false) (eV 8) (eV 5))) (mAnd (mT (mOp (oIn false) (eV 8) (eV 1))) (mT (mOp (oIn true) (eV 8) (eV 6))))) (eV 8) [some (.d X), some (.d (txs u s)), some (.d (.int k)), some (.d (.str d.nm)), some (.d (txs a' d.nd)), some (.d (txs b' d.pt)), some (.d (txs c' d.tk)), some (.d (.int d.pr)), none] [] = .ok (.d (txs false (afterOf t.fs d s))) [] := by
    refine mLc_strs 8 (by simp) (t := a) (by simp only [callP1, callP2, callP3, okF_ok, okF_ex, mPure, sAsg, sPar2, sPar3, sIf, sRet, sDrop, sNext, mT, mOp, mUn, mCall, mCons, mNil, mRaw, mIf, mAnd, mOr, mNot, eV, eC, R.bind, R.bindS, R.of, List.getElem?_cons_zero, List.getElem?_cons_succ, List.set_cons_zero, List.set_cons_succ, List.length_cons, List.length_nil, Nat.reduceAdd, if_true, Tgt.put, i0]) _ (by have := sub7 o.fs; omega) fun y hy => ?_
    refine mOr_ok ?_ (mAnd_ok ?_ ?_)
    · simp only [callP1, callP2, callP3, okF_ok, okF_ex, mPure, sAsg, sPar2, sPar3, sIf, sRet, sDrop, sNext, mT, mOp, mUn, mCall, mCons, mNil, mRaw, mIf, mAnd, mOr, mNot, eV, eC, R.bind, R.bindS, R.of, List.getElem?_cons_zero, List.getElem?_cons_succ, List.set_cons_zero, List.set_cons_succ, List.length_cons, List.length_nil, Nat.reduceAdd, if_true, Tgt.put, in_strs]
    · simp only [callP1, callP2, callP3, okF_ok, okF_ex, mPure, sAsg, sPar2, sPar3, sIf, sRet, sDrop, sNext, mT, mOp, mUn, mCall, mCons, mNil, mRaw, mIf, mAnd, mOr, mNot, eV, eC, R.bind, R.bindS, R.of, List.getElem?_cons_zero, List.getElem?_cons_succ, List.set_cons_zero, List.set_cons_succ, List.length_cons, List.length_nil, Nat.reduceAdd, if_true, Tgt.put, in_strs]
    · simp only [callP1, callP2, callP3, okF_ok, okF_ex, mPure, sAsg, sPar2, sPar3, sIf, sRet, sDrop, sNext, mT, mOp, mUn, mCall, mCons, mNil, mRaw, mIf, mAnd, mOr, mNot, eV, eC, R.bind, R.bindS, R.of, List.getElem?_cons_zero, List.getElem?_cons_succ, List.set_cons_zero, List.set_cons_succ, List.length_cons, List.length_nil, Nat.reduceAdd, if_true, Tgt.put, notin_strs]
  simp only [m_L_after, sSeq, e1, sRet, e2, R.bindS, outP, deepB_d]
end IL

set_option maxHeartbeats 4000007
namespace IL
open PySem PySem.Spec
open PyProof.Rows L2
/-! ### rows of deeds looked at -/
def isNat : D → Bool
  | .int i => !decide (i < 0)
  | _ => false
def natOf : D → Nat
  | .int i => i.toNat
  | _ => 0
def smp : D → Bool
  | .non => true | .bl _ => true | .int _ => true | .str _ => true | .seq _ _ => true
  | _ => false
theorem nat_int {x : D} (h : isNat x = true) : x = .int (natOf x : Nat) := by
  cases x with
  | int i => simp [isNat] at h; simp [natOf]; omega
  | _ => cases h
theorem whole_smp {x : D} (h : smp x = true) : f_is_whole [x] = .ok (.bl (match x with | .int _ => true | _ => false)) := by
  cases x with
  | dct _ => cases h
  | dcT _ => cases h
  | scr _ => cases h
  | _ => rfl
theorem Lwhole_smp {x : D} (h : smp x = true) : f_L_is_whole [x] = .ok (.bl (match x with | .int _ => true | _ => false)) := by
  cases x with
  | dct _ => cases h
  | dcT _ => cases h
  | scr _ => cases h
  | _ => rfl
theorem number_smp {x : D} (h : smp x = true) : f_is_number [x] = .ok (.bl (isNat x)) := by
  cases x with
  | int i => exact is_number_int i
  | dct _ => cases h
  | dcT _ => cases h
  | scr _ => cases h
  | _ => rfl
def alongR (t : Tk) : Nat → List Nat → List Str → D × D
  | _, [], s => (.non, txs false s)
  | i, k :: r, s => match t.ds[k]? with
    | none => (.seq true [.str "deed", .int i], .non)
    | some d => match lackOf d.nd s with
      | some f => (.seq true [.str "needs", .int i, .str f], .non)
      | none => alongR t (i + 1) r (afterOf t.fs d s)
def alongD (t : Tk) (x : D) : D × D := match x with
  | .seq _ xs => if xs.all isNat = true then alongR t 0 (xs.map natOf) t.s else (.seq true [.str "form"], .non)
  | _ => (.seq true [.str "form"], .non)
/-- what a thing may be -/
def gd : D → Bool
  | .non => true | .bl _ => true | .int _ => true | .str _ => true | .dct kvs => kvs.isEmpty
  | .seq _ xs => xs.all smp && decide (xs.length ≤ 100)
  | _ => false
def fa_body : Sx := (sSeq (sIf (mT (mOp oGe (eV 4) (mCall oLen (mCons (mOp oIx (eV 0) (eC (.int 1))) mNil)))) (sRet (mSeq true true (mCons (mSeq true true (mCons (eC (.str "deed")) (mCons (eV 3) mNil))) (mCons (eC .non) mNil)))) sNext)
  (sSeq (sAsg (.nm 5) (mPure f_first_lack 2 (mCons (mOp oIx (mOp oIx (mOp oIx (eV 0) (eC (.int 1))) (eV 4)) (eC (.int 1))) (mCons (eV 2) mNil))))
  (sSeq (sIf (mT (mOp (oIsN true) (eV 5) (eC .non))) (sRet (mSeq true true (mCons (mSeq true true (mCons (eC (.str "needs")) (mCons (eV 3) (mCons (eV 5) mNil)))) (mCons (eC .non) mNil)))) sNext)
  (sAsg (.nm 2) (mPure f_done 2 (mCons (mOp oIx (mOp oIx (eV 0) (eC (.int 1))) (eV 4)) (mCons (eV 2) mNil)))))))
def fa_fin : Sx := (sRet (mSeq true true (mCons (eC .non) (mCons (eV 2) mNil))))
theorem isN_str (x : Str) (st : Store) : oIsN true (.d (.str x)) (.d .non) st = some (.d (.bl true), st) := rfl
theorem isN_non (st : Store) : oIsN true (.d .non) (.d .non) st = some (.d (.bl false), st) := rfl
theorem len_seq (t : Bool) (xs : List D) (st : Store) : oLen [.d (.seq t xs)] st = some (.d (.int xs.length), st) := by simp [oLen, vw, vwD]
theorem pair_len {α β : Type} {R : α → β → Prop} {as : List α} {bs : List β} (h : Paired R as bs) : as.length = bs.length := by
  induction h with
  | nil => rfl
  | cons _ _ ih => simp [ih]
def outF (fin : Sx) (r : RS) : Pr := outP (match r with
  | .ok .nx ρ st => fin ρ st
  | r => r)
theorem forL_cons (t : Tgt) (b : Sx) (x : Iw) (xs : List Iw) (ρ : En) (st : Store) : forL t b (x :: xs) ρ st = (match t.putI st x ρ with
    | none => .bad
    | some ρ1 => match b ρ1 st with
      | .ok .nx ρ2 st2 => forL t b xs ρ2 st2
      | .ok .ct ρ2 st2 => forL t b xs ρ2 st2
      | .ok .bk ρ2 st2 => .ok .nx ρ2 st2
      | r => r) := rfl
theorem fa_for {t : Tk} (o : TkOk t) {f a b c e : Bool} {ys : List D} (p : Paired DdR t.ds ys) (x : D) : ∀ (xs : List D) (i : Nat) (s : List Str) (v3 v4 v5 : Option W), (∀ x ∈ xs, isNat x = true) → s.Sublist t.fs →
    outF fa_fin (forL (.tp [.nm 3, .nm 4]) fa_body (enumD i xs) [some (.d (.seq f [txs a t.fs, .seq b ys, txs c t.s, txs e t.g])), some (.d x), some (.d (txs false s)), v3, v4, v5] []) = .ok (.seq true [(alongR t i (xs.map natOf) s).1, (alongR t i (xs.map natOf) s).2])
  | [], i, s, v3, v4, v5, _, _ => rfl
  | z :: xs, i, s, v3, v4, v5, hz, hs => by
    obtain ⟨k, rfl⟩ : ∃ k : Nat, z = .int k := ⟨natOf z, nat_int (hz z List.mem_cons_self)⟩
    have i1 : ∀ st : Store, oIx (.d (.seq f [txs a t.fs, .seq b ys, txs c t.s, txs e t.g])) (.d (.int 1)) st = some (.d (.seq b ys), st) := fun st => rfl
    have ih := fun s v3 v4 v5 => fa_for o (f := f) (a := a) (b := b) (c := c) (e := e) p x xs (i + 1) s v3 v4 v5 (fun x hx => hz x (List.mem_cons_of_mem _ hx))
    generalize hX : D.seq f [txs a t.fs, .seq b ys, txs c t.s, txs e t.g] = X at *
    have hn : natOf (.int (k : Int)) = k := rfl
    simp only [List.map_cons, hn, alongR]
    have ep : Tgt.putI [] (.tp [.nm 3, .nm 4]) (.two (.d (.int i)) (.d (.int k))) [some (.d X), some (.d x), some (.d (txs false s)), v3, v4, v5] = some [some (.d X), some (.d x), some (.d (txs false s)), some (.d (.int i)), some (.d (.int k)), v5] := rfl
    rw [enumD, forL_cons, ep]
    have hlen : ys.length = t.ds.length := (pair_len p).symm
    cases hd : t.ds[k]? with
    | none =>
      have hk : ¬ ((k : Int) < (ys.length : Int)) := by have := List.getElem?_eq_none_iff.mp hd; omega
      have eb : fa_body [some (.d X), some (.d x), some (.d (txs false s)), some (.d (.int i)), some (.d (.int k)), v5] [] = .ok (.rt (.d (.seq true [.seq true [.str "deed", .int i], .non]))) [some (.d X), some (.d x), some (.d (txs false s)), some (.d (.int i)), some (.d (.int k)), v5] [] := by
        simp only [fa_body, sSeq, callP1, callP2, callP3, okF_ok, okF_ex, mPure, sAsg, sPar2, sPar3, sIf, sRet, sDrop, sNext, mT, mOp, mUn, mCall, mCons, mNil, mRaw, mIf, mAnd, mOr, mNot, eV, eC, R.bind, R.bindS, R.of, List.getElem?_cons_zero, List.getElem?_cons_succ, List.set_cons_zero, List.set_cons_succ, List.length_cons, List.length_nil, Nat.reduceAdd, if_true, Tgt.put, i1, len_seq, ge_int, hk, decide_false, Bool.not_false]
        rfl
      simp only [eb, outF, outP, deepB_d]
    | some d =>
      have hk : ((k : Int) < (ys.length : Int)) := by have := (List.getElem?_eq_some_iff.mp hd).1; omega
      obtain ⟨y, hy, r⟩ := pair_at p hd
      have od : DdOk t.fs d := o.ds d (List.mem_of_getElem? hd)
      have ik := fun st => ix_seq b ys k hy st
      have e1 := done_ok o.fs r od false hs
      obtain ⟨a', hnd⟩ : ∃ a', ∀ st : Store, oIx (.d y) (.d (.int 1)) st = some (.d (txs a' d.nd), st) := by
        obtain ⟨f, a, b, c, rfl⟩ := r
        exact ⟨a, fun st => rfl⟩
      have e2 := first_lack_ok a' false d.nd s
      cases hl : lackOf d.nd s with
      | some g =>
        rw [hl] at e2
        have eb : fa_body [some (.d X), some (.d x), some (.d (txs false s)), some (.d (.int i)), some (.d (.int k)), v5] [] = .ok (.rt (.d (.seq true [.seq true [.str "needs", .int i, .str g], .non]))) [some (.d X), some (.d x), some (.d (txs false s)), some (.d (.int i)), some (.d (.int k)), some (.d (.str g))] [] := by
          simp only [fa_body, sSeq, callP1, callP2, callP3, okF_ok, okF_ex, mPure, sAsg, sPar2, sPar3, sIf, sRet, sDrop, sNext, mT, mOp, mUn, mCall, mCons, mNil, mRaw, mIf, mAnd, mOr, mNot, eV, eC, R.bind, R.bindS, R.of, List.getElem?_cons_zero, List.getElem?_cons_succ, List.set_cons_zero, List.set_cons_succ, List.length_cons, List.length_nil, Nat.reduceAdd, if_true, Tgt.put, i1, len_seq, ge_int, hk, decide_true, Bool.not_true, Bool.false_eq_true, if_false, ik, hnd, e2, optD, isN_str]
          rfl
        simp only [eb, hl, outF, outP, deepB_d]
      | none =>
        rw [hl] at e2
        have eb : fa_body [some (.d X), some (.d x), some (.d (txs false s)), some (.d (.int i)), some (.d (.int k)), v5] [] = .ok .nx [some (.d X), some (.d x), some (.d (txs false (afterOf t.fs d s))), some (.d (.int i)), some (.d (.int k)), some (.d .non)] [] := by
          simp only [fa_body, sSeq, callP1, callP2, callP3, okF_ok, okF_ex, mPure, sAsg, sPar2, sPar3, sIf, sRet, sDrop, sNext, mT, mOp, mUn, mCall, mCons, mNil, mRaw, mIf, mAnd, mOr, mNot, eV, eC, R.bind, R.bindS, R.of, List.getElem?_cons_zero, List.getElem?_cons_succ, List.set_cons_zero, List.set_cons_succ, List.length_cons, List.length_nil, Nat.reduceAdd, if_true, Tgt.put, i1, len_seq, ge_int, hk, decide_true, Bool.not_true, Bool.false_eq_true, if_false, ik, hnd, e2, optD, isN_non, e1]
        simp only [eb, hl]
        exact ih _ _ _ _ (after_sub _ _ _)
theorem f_fault_along_eq (a b : D) : f_fault_along [a, b] = outP (m_fault_along [some (.d a), some (.d b), none, none, none, none] []) := rfl
theorem is_list_gd {x : D} (h : gd x = true) : f_is_list [x] = .ok (.bl (match x with | .seq _ _ => true | _ => false)) := by
  cases x with
  | dcT _ => cases h
  | scr _ => cases h
  | _ => rfl
theorem fault_along_ok {t : Tk} {X : D} (r : TkR t X) (o : TkOk t) {x : D} (g : gd x = true) : f_fault_along [X, x] = .ok (.seq true [(alongD t x).1, (alongD t x).2]) := by
  obtain ⟨f, a, b, ys, c, e, rfl, p⟩ := r
  have i2 : ∀ st : Store, oIx (.d (.seq f [txs a t.fs, .seq b ys, txs c t.s, txs e t.g])) (.d (.int 2)) st = some (.d (txs c t.s), st) := fun st => rfl
  have ef := fun xs h => fa_for o (f := f) (a := a) (b := b) (c := c) (e := e) p x xs 0 t.s none none none h o.s
  generalize hX : D.seq f [txs a t.fs, .seq b ys, txs c t.s, txs e t.g] = X at *
  have q := is_list_gd g
  rw [f_fault_along_eq]
  show outP (sSeq (sIf (mOr (mNot (mT (mPure f_is_list 1 (mCons (eV 1) mNil)))) (mNot (mT (mCall oAll (mCons (mLc true (srSeq (eV 1)) (.nm 4) [4] tYesX (mPure f_is_number 1 (mCons (eV 4) mNil))) mNil))))) (sRet (mSeq true true (mCons (mSeq true true (mCons (eC (.str "form")) mNil)) (mCons (eC .non) mNil)))) sNext)
    (sSeq (sAsg (.nm 2) (mCall (oList true) (mCons (mOp oIx (eV 0) (eC (.int 2))) mNil))) (sSeq (sFor (srEnum (eV 1)) (.tp [(.nm 3), (.nm 4)]) fa_body) fa_fin)) _ _) = _
  by_cases hs : ∃ u xs, x = .seq u xs
  · obtain ⟨u, xs, rfl⟩ := hs
    simp only at q
    have gs : xs.all smp = true ∧ xs.length ≤ 100 := by simpa [gd] using g
    have el : mLc true (srSeq (eV 1)) (.nm 4) [4] tYesX (mPure f_is_number 1 (mCons (eV 4) mNil)) [some (.d X), some (.d (.seq u xs)), none, none, none, none] [] = .ok (.d (.seq false (xs.map fun x => .bl (isNat x)))) [] := by
      refine mLc_map 4 (t := u) rfl _ (by omega) fun z hz => ?_
      have e1 := number_smp (List.all_eq_true.mp gs.1 z hz)
      simp only [callP1, callP2, callP3, okF_ok, okF_ex, mPure, sAsg, sPar2, sPar3, sIf, sRet, sDrop, sNext, mT, mOp, mUn, mCall, mCons, mNil, mRaw, mIf, mAnd, mOr, mNot, eV, eC, R.bind, R.bindS, R.of, List.getElem?_cons_zero, List.getElem?_cons_succ, List.set_cons_zero, List.set_cons_succ, List.length_cons, List.length_nil, Nat.reduceAdd, if_true, Tgt.put, e1]
    have ea := mAll_ok xs isNat el
    have t1 : mNot (mT (mPure f_is_list 1 (mCons (eV 1) mNil))) [some (.d X), some (.d (.seq u xs)), none, none, none, none] [] = .ok false [] := by
      simp only [callP1, callP2, callP3, okF_ok, okF_ex, mPure, sAsg, sPar2, sPar3, sIf, sRet, sDrop, sNext, mT, mOp, mUn, mCall, mCons, mNil, mRaw, mIf, mAnd, mOr, mNot, eV, eC, R.bind, R.bindS, R.of, List.getElem?_cons_zero, List.getElem?_cons_succ, List.set_cons_zero, List.set_cons_succ, List.length_cons, List.length_nil, Nat.reduceAdd, if_true, Tgt.put, q, Bool.not_true]
    have t2 : mNot (mT (mCall oAll (mCons (mLc true (srSeq (eV 1)) (.nm 4) [4] tYesX (mPure f_is_number 1 (mCons (eV 4) mNil))) mNil))) [some (.d X), some (.d (.seq u xs)), none, none, none, none] [] = .ok (!xs.all isNat) [] := by
      simp only [mNot, mT, ea, R.bind]
    have t3 := mOr_ok t1 t2
    cases hb : xs.all isNat with
    | false =>
      rw [hb] at t3
      simp only [sSeq, sIf, t3, R.bindS, Bool.not_false, Bool.or_true, if_true, alongD, hb]
      rfl
    | true =>
      rw [hb] at t3
      have e3 : ∀ st : Store, oList true [.d (txs c t.s)] st = some (.d (txs false t.s), st) := fun st => mkS_d false (t.s.map .str) st
      have e1 : (sIf (mOr (mNot (mT (mPure f_is_list 1 (mCons (eV 1) mNil)))) (mNot (mT (mCall oAll (mCons (mLc true (srSeq (eV 1)) (.nm 4) [4] tYesX (mPure f_is_number 1 (mCons (eV 4) mNil))) mNil))))) (sRet (mSeq true true (mCons (mSeq true true (mCons (eC (.str "form")) mNil)) (mCons (eC .non) mNil)))) sNext) [some (.d X), some (.d (.seq u xs)), none, none, none, none] [] = .ok .nx [some (.d X), some (.d (.seq u xs)), none, none, none, none] [] := by
        simp only [sIf, t3, R.bindS, Bool.not_true, Bool.or_false, Bool.false_eq_true, if_false, sNext]
      have e2 : sAsg (.nm 2) (mCall (oList true) (mCons (mOp oIx (eV 0) (eC (.int 2))) mNil)) [some (.d X), some (.d (.seq u xs)), none, none, none, none] [] = .ok .nx [some (.d X), some (.d (.seq u xs)), some (.d (txs false t.s)), none, none, none] [] := by
        simp only [callP1, callP2, callP3, okF_ok, okF_ex, mPure, sAsg, sPar2, sPar3, sIf, sRet, sDrop, sNext, mT, mOp, mUn, mCall, mCons, mNil, mRaw, mIf, mAnd, mOr, mNot, eV, eC, R.bind, R.bindS, R.of, List.getElem?_cons_zero, List.getElem?_cons_succ, List.set_cons_zero, List.set_cons_succ, List.length_cons, List.length_nil, Nat.reduceAdd, if_true, Tgt.put, i2, e3]
      have es : sqOf [] (.d (.seq u xs)) = .dat u xs := rfl
      have e4 := ef xs (List.all_eq_true.mp hb)
      simp only [sSeq, e1, e2, sFor, srEnum, eV, List.getElem?_cons_zero, List.getElem?_cons_succ, R.bind, es, R.bindS, forS]
      simp only [alongD, hb, if_true]
      exact e4
  · have q' : f_is_list [x] = .ok (.bl false) := by
      rw [q]
      cases x with
      | seq u xs => exact absurd ⟨u, xs, rfl⟩ hs
      | _ => rfl
    have ead : alongD t x = (.seq true [.str "form"], .non) := by
      cases x with
      | seq u xs => exact absurd ⟨u, xs, rfl⟩ hs
      | _ => rfl
    simp only [sSeq, sIf, mOr, mNot, mT, callP1, callP2, callP3, okF_ok, okF_ex, mPure, sAsg, sPar2, sPar3, sIf, sRet, sDrop, sNext, mT, mOp, mUn, mCall, mCons, mNil, mRaw, mIf, mAnd, mOr, mNot, eV, eC, R.bind, R.bindS, R.of, List.getElem?_cons_zero, List.getElem?_cons_succ, List.set_cons_zero, List.set_cons_succ, List.length_cons, List.length_nil, Nat.reduceAdd, if_true, Tgt.put, q', Bool.not_false, ead]
    rfl
end IL

set_option maxHeartbeats 4000007
namespace IL
open PySem PySem.Spec
open PyProof.Rows L2
def la_body : Sx := (sSeq (sIf (mT (mOp oGe (eV 4) (mCall oLen (mCons (mOp oIx (eV 0) (eC (.int 1))) mNil)))) (sRet (mSeq true true (mCons (mSeq true true (mCons (eC (.str "deed")) (mCons (eV 3) mNil))) (mCons (eC .non) mNil)))) sNext)
  (sSeq (sAsg (.nm 5) (mLc true (srSeq (mOp oIx (mOp oIx (mOp oIx (eV 0) (eC (.int 1))) (eV 4)) (eC (.int 1)))) (.nm 6) [6] (mT (mOp (oIn true) (eV 6) (eV 2))) (eV 6)))
  (sSeq (sIf (mT (mOp oNe (eV 5) (mSeq true false mNil))) (sRet (mSeq true true (mCons (mSeq true true (mCons (eC (.str "needs")) (mCons (eV 3) (mCons (mOp oIx (eV 5) (eC (.int 0))) mNil)))) (mCons (eC .non) mNil)))) sNext)
  (sAsg (.nm 2) (mPure f_L_after 3 (mCons (eV 0) (mCons (eV 2) (mCons (eV 4) mNil))))))))
theorem lack_head (nd s : List Str) : (nd.filter fun y => decide (y ∉ s)).head? = lackOf nd s := List.head?_filter
theorem mSeq0' (ρ : En) (st : Store) : mSeq true false mNil ρ st = .ok (.d (.seq false [])) st := rfl
theorem la_for {t : Tk} (o : TkOk t) {f a b c e : Bool} {ys : List D} (p : Paired DdR t.ds ys) (x : D) : ∀ (xs : List D) (i : Nat) (s : List Str) (v3 v4 v5 v6 : Option W), (∀ x ∈ xs, isNat x = true) →
    outF fa_fin (forL (.tp [.nm 3, .nm 4]) la_body (enumD i xs) [some (.d (.seq f [txs a t.fs, .seq b ys, txs c t.s, txs e t.g])), some (.d x), some (.d (txs false s)), v3, v4, v5, v6] []) = .ok (.seq true [(alongR t i (xs.map natOf) s).1, (alongR t i (xs.map natOf) s).2])
  | [], i, s, v3, v4, v5, v6, _ => rfl
  | z :: xs, i, s, v3, v4, v5, v6, hz => by
    obtain ⟨k, rfl⟩ : ∃ k : Nat, z = .int k := ⟨natOf z, nat_int (hz z List.mem_cons_self)⟩
    have i1 : ∀ st : Store, oIx (.d (.seq f [txs a t.fs, .seq b ys, txs c t.s, txs e t.g])) (.d (.int 1)) st = some (.d (.seq b ys), st) := fun st => rfl
    have ih := fun s v3 v4 v5 v6 => la_for o (f := f) (a := a) (b := b) (c := c) (e := e) p x xs (i + 1) s v3 v4 v5 v6 (fun x hx => hz x (List.mem_cons_of_mem _ hx))
    have ha := fun d hd => after_ok (t := t) (x := .seq f [txs a t.fs, .seq b ys, txs c t.s, txs e t.g]) ⟨f, a, b, ys, c, e, rfl, p⟩ o false s (k := k) (d := d) hd
    generalize hX : D.seq f [txs a t.fs, .seq b ys, txs c t.s, txs e t.g] = X at *
    have hn : natOf (.int (k : Int)) = k := rfl
    simp only [List.map_cons, hn, alongR]
    have ep : Tgt.putI [] (.tp [.nm 3, .nm 4]) (.two (.d (.int i)) (.d (.int k))) [some (.d X), some (.d x), some (.d (txs false s)), v3, v4, v5, v6] = some [some (.d X), some (.d x), some (.d (txs false s)), some (.d (.int i)), some (.d (.int k)), v5, v6] := rfl
    rw [enumD, forL_cons, ep]
    have hlen : ys.length = t.ds.length := (pair_len p).symm
    cases hd : t.ds[k]? with
    | none =>
      have hk : ¬ ((k : Int) < (ys.length : Int)) := by have := List.getElem?_eq_none_iff.mp hd; omega
      have eb : la_body [some (.d X), some (.d x), some (.d (txs false s)), some (.d (.int i)), some (.d (.int k)), v5, v6] [] = .ok (.rt (.d (.seq true [.seq true [.str "deed", .int i], .non]))) [some (.d X), some (.d x), some (.d (txs false s)), some (.d (.int i)), some (.d (.int k)), v5, v6] [] := by
        simp only [la_body, sSeq, callP1, callP2, callP3, okF_ok, okF_ex, mPure, sAsg, sPar2, sPar3, sIf, sRet, sDrop, sNext, mT, mOp, mUn, mCall, mCons, mNil, mRaw, mIf, mAnd, mOr, mNot, eV, eC, R.bind, R.bindS, R.of, List.getElem?_cons_zero, List.getElem?_cons_succ, List.set_cons_zero, List.set_cons_succ, List.length_cons, List.length_nil, Nat.reduceAdd, if_true, Tgt.put, i1, len_seq, ge_int, hk, decide_false, Bool.not_false]
        rfl
      simp only [eb, outF, outP, deepB_d]
    | some d =>
      have hk : ((k : Int) < (ys.length : Int)) := by have := (List.getElem?_eq_some_iff.mp hd).1; omega
      obtain ⟨y, hy, r⟩ := pair_at p hd
      have od : DdOk t.fs d := o.ds d (List.mem_of_getElem? hd)
      have ik := fun st => ix_seq b ys k hy st
      have e1 := ha d hd
      obtain ⟨a', hnd⟩ : ∃ a', ∀ st : Store, oIx (.d y) (.d (.int 1)) st = some (.d (txs a' d.nd), st) := by
        obtain ⟨f, a, b, c, rfl⟩ := r
        exact ⟨a, fun st => rfl⟩
      have e2 : mLc true (srSeq (mOp oIx (mOp oIx (mOp oIx (eV 0) (eC (.int 1))) (eV 4)) (eC (.int 1)))) (.nm 6) [6] (mT (mOp (oIn true) (eV 6) (eV 2))) (eV 6) [some (.d X), some (.d x), some (.d (txs false s)), some (.d (.int i)), some (.d (.int k)), v5, v6] [] = .ok (.d (txs false (d.nd.filter fun y => decide (y ∉ s)))) [] := by
        refine mLc_strs 6 (by simp) (t := a') (by simp only [callP1, callP2, callP3, okF_ok, okF_ex, mPure, sAsg, sPar2, sPar3, sIf, sRet, sDrop, sNext, mT, mOp, mUn, mCall, mCons, mNil, mRaw, mIf, mAnd, mOr, mNot, eV, eC, R.bind, R.bindS, R.of, List.getElem?_cons_zero, List.getElem?_cons_succ, List.set_cons_zero, List.set_cons_succ, List.length_cons, List.length_nil, Nat.reduceAdd, if_true, Tgt.put, i1, ik, hnd]) _ (by have := sub7 (od.nd.trans o.fs); omega) fun y hy => ?_
        simp only [callP1, callP2, callP3, okF_ok, okF_ex, mPure, sAsg, sPar2, sPar3, sIf, sRet, sDrop, sNext, mT, mOp, mUn, mCall, mCons, mNil, mRaw, mIf, mAnd, mOr, mNot, eV, eC, R.bind, R.bindS, R.of, List.getElem?_cons_zero, List.getElem?_cons_succ, List.set_cons_zero, List.set_cons_succ, List.length_cons, List.length_nil, Nat.reduceAdd, if_true, Tgt.put, notin_strs]
      have eg : sIf (mT (mOp oGe (eV 4) (mCall oLen (mCons (mOp oIx (eV 0) (eC (.int 1))) mNil)))) (sRet (mSeq true true (mCons (mSeq true true (mCons (eC (.str "deed")) (mCons (eV 3) mNil))) (mCons (eC .non) mNil)))) sNext [some (.d X), some (.d x), some (.d (txs false s)), some (.d (.int i)), some (.d (.int k)), v5, v6] [] = .ok .nx [some (.d X), some (.d x), some (.d (txs false s)), some (.d (.int i)), some (.d (.int k)), v5, v6] [] := by
        simp only [callP1, callP2, callP3, okF_ok, okF_ex, mPure, sAsg, sPar2, sPar3, sIf, sRet, sDrop, sNext, mT, mOp, mUn, mCall, mCons, mNil, mRaw, mIf, mAnd, mOr, mNot, eV, eC, R.bind, R.bindS, R.of, List.getElem?_cons_zero, List.getElem?_cons_succ, List.set_cons_zero, List.set_cons_succ, List.length_cons, List.length_nil, Nat.reduceAdd, if_true, Tgt.put, i1, len_seq, ge_int, hk, decide_true, Bool.not_true, Bool.false_eq_true, if_false]
      have ea : (sAsg (.nm 5) (mLc true (srSeq (mOp oIx (mOp oIx (mOp oIx (eV 0) (eC (.int 1))) (eV 4)) (eC (.int 1)))) (.nm 6) [6] (mT (mOp (oIn true) (eV 6) (eV 2))) (eV 6))) [some (.d X), some (.d x), some (.d (txs false s)), some (.d (.int i)), some (.d (.int k)), v5, v6] [] = .ok .nx [some (.d X), some (.d x), some (.d (txs false s)), some (.d (.int i)), some (.d (.int k)), some (.d (txs false (d.nd.filter fun y => decide (y ∉ s)))), v6] [] := by
        simp only [sAsg, e2, R.bindS, Tgt.put, List.set_cons_succ, List.set_cons_zero]
      have hh := lack_head d.nd s
      generalize hL : (d.nd.filter fun y => decide (y ∉ s)) = L at *
      cases L with
      | cons g L =>
        have hl : lackOf d.nd s = some g := by rw [← hh]; rfl
        have i0 : ∀ st : Store, oIx (.d (txs false (g :: L))) (.d (.int 0)) st = some (.d (.str g), st) := fun st => ix_seq false ((g :: L).map .str) 0 rfl st
        have eb : la_body [some (.d X), some (.d x), some (.d (txs false s)), some (.d (.int i)), some (.d (.int k)), v5, v6] [] = .ok (.rt (.d (.seq true [.seq true [.str "needs", .int i, .str g], .non]))) [some (.d X), some (.d x), some (.d (txs false s)), some (.d (.int i)), some (.d (.int k)), some (.d (txs false (g :: L))), v6] [] := by
          simp only [la_body, sSeq, eg, ea]
          have ec : mT (mOp oNe (eV 5) (mSeq true false mNil)) [some (.d X), some (.d x), some (.d (txs false s)), some (.d (.int i)), some (.d (.int k)), some (.d (txs false (g :: L))), v6] [] = .ok true [] := by
            simp only [callP1, callP2, callP3, okF_ok, okF_ex, mPure, sAsg, sPar2, sPar3, sIf, sRet, sDrop, sNext, mT, mOp, mUn, mCall, mCons, mNil, mRaw, mIf, mAnd, mOr, mNot, eV, eC, R.bind, R.bindS, R.of, List.getElem?_cons_zero, List.getElem?_cons_succ, List.set_cons_zero, List.set_cons_succ, List.length_cons, List.length_nil, Nat.reduceAdd, if_true, Tgt.put, mSeq0', ne_nil, List.isEmpty_cons, Bool.not_false]
          have es : mSeq true true (mCons (mSeq true true (mCons (eC (.str "needs")) (mCons (eV 3) (mCons (mOp oIx (eV 5) (eC (.int 0))) mNil)))) (mCons (eC .non) mNil)) [some (.d X), some (.d x), some (.d (txs false s)), some (.d (.int i)), some (.d (.int k)), some (.d (txs false (g :: L))), v6] [] = .ok (.d (.seq true [.seq true [.str "needs", .int i, .str g], .non])) [] := by
            simp only [mSeq, callP1, callP2, callP3, okF_ok, okF_ex, mPure, sAsg, sPar2, sPar3, sIf, sRet, sDrop, sNext, mT, mOp, mUn, mCall, mCons, mNil, mRaw, mIf, mAnd, mOr, mNot, eV, eC, R.bind, R.bindS, R.of, List.getElem?_cons_zero, List.getElem?_cons_succ, List.set_cons_zero, List.set_cons_succ, List.length_cons, List.length_nil, Nat.reduceAdd, if_true, Tgt.put, i0]
            rfl
          simp only [sIf, ec, R.bindS, if_true, sRet, es]
        simp only [eb, hl, outF, outP, deepB_d]
      | nil =>
        have hl : lackOf d.nd s = none := by rw [← hh]; rfl
        have eb : la_body [some (.d X), some (.d x), some (.d (txs false s)), some (.d (.int i)), some (.d (.int k)), v5, v6] [] = .ok .nx [some (.d X), some (.d x), some (.d (txs false (afterOf t.fs d s))), some (.d (.int i)), some (.d (.int k)), some (.d (txs false [])), v6] [] := by
          simp only [la_body, sSeq, eg, ea]
          simp only [callP1, callP2, callP3, okF_ok, okF_ex, mPure, sAsg, sPar2, sPar3, sIf, sRet, sDrop, sNext, mT, mOp, mUn, mCall, mCons, mNil, mRaw, mIf, mAnd, mOr, mNot, eV, eC, R.bind, R.bindS, R.of, List.getElem?_cons_zero, List.getElem?_cons_succ, List.set_cons_zero, List.set_cons_succ, List.length_cons, List.length_nil, Nat.reduceAdd, if_true, Tgt.put, mSeq0', ne_nil, List.isEmpty_nil, Bool.not_true, Bool.false_eq_true, if_false, e1]
        simp only [eb, hl]
        exact ih _ _ _ _ _
theorem f_L_along_eq (a b : D) : f_L_along [a, b] = outP (m_L_along [some (.d a), some (.d b), none, none, none, none, none] []) := rfl
theorem mIs_gd {x : D} (h : gd x = true) {ρ : En} {i : Nat} (st : Store) (e : ρ[i]? = some (some (.d x))) : mIs [.l, .t] (eV i) ρ st = .ok (.d (.bl (match x with | .seq _ _ => true | _ => false))) st := by
  simp only [mIs, eV, e, R.bind]
  cases x with
  | dcT _ => cases h
  | scr _ => cases h
  | _ => rfl
theorem L_along_ok {t : Tk} {X : D} (r : TkR t X) (o : TkOk t) {x : D} (g : gd x = true) : f_L_along [X, x] = .ok (.seq true [(alongD t x).1, (alongD t x).2]) := by
  obtain ⟨f, a, b, ys, c, e, rfl, p⟩ := r
  have i2 : ∀ st : Store, oIx (.d (.seq f [txs a t.fs, .seq b ys, txs c t.s, txs e t.g])) (.d (.int 2)) st = some (.d (txs c t.s), st) := fun st => rfl
  have ef := fun xs h => la_for o (f := f) (a := a) (b := b) (c := c) (e := e) p x xs 0 t.s none none none none h
  generalize hX : D.seq f [txs a t.fs, .seq b ys, txs c t.s, txs e t.g] = X at *
  have q := mIs_gd g (ρ := [some (.d X), some (.d x), none, none, none, none, none]) (i := 1) [] rfl
  rw [f_L_along_eq]
  show outP (sSeq (sIf (mOr (mNot (mT (mIs [.l, .t] (eV 1)))) (mNot (mT (mCall oAll (mCons (mLc true (srSeq (eV 1)) (.nm 4) [4] tYesX (mAndV (mPure f_L_is_whole 1 (mCons (eV 4) mNil)) (mOp oGe (eV 4) (eC (.int 0))))) mNil))))) (sRet (mSeq true true (mCons (mSeq true true (mCons (eC (.str "form")) mNil)) (mCons (eC .non) mNil)))) sNext)
    (sSeq (sAsg (.nm 2) (mCall (oList true) (mCons (mOp oIx (eV 0) (eC (.int 2))) mNil))) (sSeq (sFor (srEnum (eV 1)) (.tp [(.nm 3), (.nm 4)]) la_body) fa_fin)) _ _) = _
  by_cases hs : ∃ u xs, x = .seq u xs
  · obtain ⟨u, xs, rfl⟩ := hs
    simp only at q
    have gs : xs.all smp = true ∧ xs.length ≤ 100 := by simpa [gd] using g
    have el : mLc true (srSeq (eV 1)) (.nm 4) [4] tYesX (mAndV (mPure f_L_is_whole 1 (mCons (eV 4) mNil)) (mOp oGe (eV 4) (eC (.int 0)))) [some (.d X), some (.d (.seq u xs)), none, none, none, none, none] [] = .ok (.d (.seq false (xs.map fun x => .bl (isNat x)))) [] := by
      refine mLc_map 4 (t := u) rfl _ (by omega) fun z hz => ?_
      have e1 := Lwhole_smp (List.all_eq_true.mp gs.1 z hz)
      cases z with
      | int j => simp only [mAndV, callP1, callP2, callP3, okF_ok, okF_ex, mPure, sAsg, sPar2, sPar3, sIf, sRet, sDrop, sNext, mT, mOp, mUn, mCall, mCons, mNil, mRaw, mIf, mAnd, mOr, mNot, eV, eC, R.bind, R.bindS, R.of, List.getElem?_cons_zero, List.getElem?_cons_succ, List.set_cons_zero, List.set_cons_succ, List.length_cons, List.length_nil, Nat.reduceAdd, if_true, Tgt.put, e1, ge_int, isNat]
      | _ => simp only [mAndV, callP1, callP2, callP3, okF_ok, okF_ex, mPure, sAsg, sPar2, sPar3, sIf, sRet, sDrop, sNext, mT, mOp, mUn, mCall, mCons, mNil, mRaw, mIf, mAnd, mOr, mNot, eV, eC, R.bind, R.bindS, R.of, List.getElem?_cons_zero, List.getElem?_cons_succ, List.set_cons_zero, List.set_cons_succ, List.length_cons, List.length_nil, Nat.reduceAdd, if_true, Tgt.put, e1, Bool.false_eq_true, if_false, isNat]
    have ea := mAll_ok xs isNat el
    have t1 : mNot (mT (mIs [.l, .t] (eV 1))) [some (.d X), some (.d (.seq u xs)), none, none, none, none, none] [] = .ok false [] := by
      simp only [mNot, mT, q, R.bind, Bool.not_true]
    have t2 : mNot (mT (mCall oAll (mCons (mLc true (srSeq (eV 1)) (.nm 4) [4] tYesX (mAndV (mPure f_L_is_whole 1 (mCons (eV 4) mNil)) (mOp oGe (eV 4) (eC (.int 0))))) mNil))) [some (.d X), some (.d (.seq u xs)), none, none, none, none, none] [] = .ok (!xs.all isNat) [] := by
      simp only [mNot, mT, ea, R.bind]
    have t3 := mOr_ok t1 t2
    cases hb : xs.all isNat with
    | false =>
      rw [hb] at t3
      simp only [sSeq, sIf, t3, R.bindS, Bool.not_false, Bool.or_true, if_true, alongD, hb]
      rfl
    | true =>
      rw [hb] at t3
      have e3 : ∀ st : Store, oList true [.d (txs c t.s)] st = some (.d (txs false t.s), st) := fun st => mkS_d false (t.s.map .str) st
      have e2 : sAsg (.nm 2) (mCall (oList true) (mCons (mOp oIx (eV 0) (eC (.int 2))) mNil)) [some (.d X), some (.d (.seq u xs)), none, none, none, none, none] [] = .ok .nx [some (.d X), some (.d (.seq u xs)), some (.d (txs false t.s)), none, none, none, none] [] := by
        simp only [callP1, callP2, callP3, okF_ok, okF_ex, mPure, sAsg, sPar2, sPar3, sIf, sRet, sDrop, sNext, mT, mOp, mUn, mCall, mCons, mNil, mRaw, mIf, mAnd, mOr, mNot, eV, eC, R.bind, R.bindS, R.of, List.getElem?_cons_zero, List.getElem?_cons_succ, List.set_cons_zero, List.set_cons_succ, List.length_cons, List.length_nil, Nat.reduceAdd, if_true, Tgt.put, i2, e3]
      have es : sqOf [] (.d (.seq u xs)) = .dat u xs := rfl
      have e4 := ef xs (List.all_eq_true.mp hb)
      simp only [sSeq, sIf, t3, R.bindS, Bool.not_true, Bool.or_false, Bool.false_eq_true, if_false, sNext, e2, sFor, srEnum, eV, List.getElem?_cons_zero, List.getElem?_cons_succ, R.bind, es, forS]
      simp only [alongD, hb, if_true]
      exact e4
  · have q' : mIs [.l, .t] (eV 1) [some (.d X), some (.d x), none, none, none, none, none] [] = .ok (.d (.bl false)) [] := by
      rw [q]
      cases x with
      | seq u xs => exact absurd ⟨u, xs, rfl⟩ hs
      | _ => rfl
    have ead : alongD t x = (.seq true [.str "form"], .non) := by
      cases x with
      | seq u xs => exact absurd ⟨u, xs, rfl⟩ hs
      | _ => rfl
    have t1 : mNot (mT (mIs [.l, .t] (eV 1))) [some (.d X), some (.d x), none, none, none, none, none] [] = .ok true [] := by
      simp only [mNot, mT, q', R.bind, Bool.not_false]
    simp only [sSeq, sIf, mOr, t1, R.bind, R.bindS, if_true, ead]
    rfl
end IL

set_option maxHeartbeats 4000007
namespace IL
open PySem PySem.Spec
open PyProof.Rows L2
def unS : D → List Str
  | .seq _ xs => xs.filterMap strOf
  | _ => []
theorem unS_txs (t : Bool) (s : List Str) : unS (txs t s) = s := by
  show (s.map D.str).filterMap strOf = s
  induction s with
  | nil => rfl
  | cons y s ih => simp only [List.map_cons, List.filterMap_cons, strOf, ih]
theorem alongR_cases (t : Tk) : ∀ (ks : List Nat) (i : Nat) (s : List Str), s.Sublist t.fs → (∃ xs, (alongR t i ks s).1 = .seq true xs ∧ (alongR t i ks s).2 = .non) ∨ ((alongR t i ks s).1 = .non ∧ ∃ s', (alongR t i ks s).2 = txs false s' ∧ s'.Sublist t.fs)
  | [], i, s, hs => .inr ⟨rfl, s, rfl, hs⟩
  | k :: ks, i, s, hs => by
    simp only [alongR]
    cases t.ds[k]? with
    | none => exact .inl ⟨_, rfl, rfl⟩
    | some d =>
      simp only
      cases lackOf d.nd s with
      | some f => exact .inl ⟨_, rfl, rfl⟩
      | none => exact alongR_cases t ks (i + 1) _ (after_sub _ _ _)
theorem alongD_cases {t : Tk} (o : TkOk t) (x : D) : (∃ xs, (alongD t x).1 = .seq true xs ∧ (alongD t x).2 = .non) ∨ ((alongD t x).1 = .non ∧ ∃ s', (alongD t x).2 = txs false s' ∧ s'.Sublist t.fs) := by
  unfold alongD
  split
  · split
    · exact alongR_cases t _ _ _ o.s
    · exact .inl ⟨_, rfl, rfl⟩
  · exact .inl ⟨_, rfl, rfl⟩
def planD (t : Tk) (x : D) : D := match (alongD t x).1 with
  | .non => (match lackOf t.g (unS (alongD t x).2) with
    | none => .non
    | some f => .seq true [.str "goal", .str f])
  | y => y
theorem f_fault_of_plan_eq (a b : D) : f_fault_of_plan [a, b] = outP (m_fault_of_plan [some (.d a), some (.d b), none, none, none] []) := rfl
theorem f_plan_fault_eq (a b : D) : f_plan_fault [a, b] = outP (m_plan_fault [some (.d a), some (.d b)] []) := rfl
theorem f_L_plan_fault_eq (a b : D) : f_L_plan_fault [a, b] = outP (m_L_plan_fault [some (.d a), some (.d b), none, none, none, none] []) := rfl
theorem put_pair (i j : Nat) (a b : D) (ρ : En) (st : Store) : Tgt.put st (.tp [.nm i, .nm j]) (.d (.seq true [a, b])) ρ = some ((ρ.set i (some (.d a))).set j (some (.d b))) := rfl
theorem isN_seq (t : Bool) (xs : List D) (st : Store) : oIsN true (.d (.seq t xs)) (.d .non) st = some (.d (.bl true), st) := rfl
theorem fault_of_plan_ok {t : Tk} {X : D} (r : TkR t X) (o : TkOk t) {x : D} (g : gd x = true) : f_fault_of_plan [X, x] = .ok (planD t x) := by
  have e1 := fault_along_ok r o g
  obtain ⟨f, a, b, ys, c, e, rfl, p⟩ := r
  have i3 : ∀ st : Store, oIx (.d (.seq f [txs a t.fs, .seq b ys, txs c t.s, txs e t.g])) (.d (.int 3)) st = some (.d (txs e t.g), st) := fun st => rfl
  generalize hX : D.seq f [txs a t.fs, .seq b ys, txs c t.s, txs e t.g] = X at *
  have ea : sAsg (.tp [(.nm 2), (.nm 3)]) (mPure f_fault_along 2 (mCons (eV 0) (mCons (eV 1) mNil))) [some (.d X), some (.d x), none, none, none] [] = .ok .nx [some (.d X), some (.d x), some (.d (alongD t x).1), some (.d (alongD t x).2), none] [] := by
    simp only [sAsg, mPure, mCons, mNil, eV, List.getElem?_cons_zero, List.getElem?_cons_succ, R.bind, callP2, e1, okF_ok, R.bindS, put_pair, List.set_cons_zero, List.set_cons_succ]
  rw [f_fault_of_plan_eq]
  simp only [m_fault_of_plan, sSeq, ea]
  rcases alongD_cases o x with ⟨xs, q1, q2⟩ | ⟨q1, s, q2, hs⟩
  · simp only [planD, q1, callP1, callP2, callP3, okF_ok, okF_ex, mPure, sAsg, sPar2, sPar3, sIf, sRet, sDrop, sNext, mT, mOp, mUn, mCall, mCons, mNil, mRaw, mIf, mAnd, mOr, mNot, eV, eC, R.bind, R.bindS, R.of, List.getElem?_cons_zero, List.getElem?_cons_succ, List.set_cons_zero, List.set_cons_succ, List.length_cons, List.length_nil, Nat.reduceAdd, if_true, Tgt.put, isN_seq, outP, deepB_d]
  · have e2 := first_lack_ok e false t.g s
    simp only [planD, q1, q2, unS_txs]
    cases hl : lackOf t.g s with
    | none =>
      rw [hl] at e2
      simp only [callP1, callP2, callP3, okF_ok, okF_ex, mPure, sAsg, sPar2, sPar3, sIf, sRet, sDrop, sNext, mT, mOp, mUn, mCall, mCons, mNil, mRaw, mIf, mAnd, mOr, mNot, eV, eC, R.bind, R.bindS, R.of, List.getElem?_cons_zero, List.getElem?_cons_succ, List.set_cons_zero, List.set_cons_succ, List.length_cons, List.length_nil, Nat.reduceAdd, if_true, Tgt.put, isN_non, Bool.false_eq_true, if_false, i3, e2, optD, outP, deepB_d]
    | some z =>
      rw [hl] at e2
      simp only [callP1, callP2, callP3, okF_ok, okF_ex, mPure, sAsg, sPar2, sPar3, sIf, sRet, sDrop, sNext, mT, mOp, mUn, mCall, mCons, mNil, mRaw, mIf, mAnd, mOr, mNot, eV, eC, R.bind, R.bindS, R.of, List.getElem?_cons_zero, List.getElem?_cons_succ, List.set_cons_zero, List.set_cons_succ, List.length_cons, List.length_nil, Nat.reduceAdd, if_true, Tgt.put, isN_non, isN_str, Bool.false_eq_true, if_false, i3, e2, optD]
      rfl
theorem plan_fault_ok {t : Tk} {X : D} (r : TkR t X) (o : TkOk t) {x : D} (g : gd x = true) : f_plan_fault [X, x] = .ok (planD t x) := by
  have e1 := check_task_ok r o
  have e2 := fault_of_plan_ok r o g
  rw [f_plan_fault_eq]
  simp only [m_plan_fault, sSeq, callP1, callP2, callP3, okF_ok, okF_ex, mPure, sAsg, sPar2, sPar3, sIf, sRet, sDrop, sNext, mT, mOp, mUn, mCall, mCons, mNil, mRaw, mIf, mAnd, mOr, mNot, eV, eC, R.bind, R.bindS, R.of, List.getElem?_cons_zero, List.getElem?_cons_succ, List.set_cons_zero, List.set_cons_succ, List.length_cons, List.length_nil, Nat.reduceAdd, if_true, Tgt.put, e1, e2, outP, deepB_d]
theorem L_plan_fault_ok {t : Tk} {X : D} (r : TkR t X) (o : TkOk t) {x : D} (g : gd x = true) : f_L_plan_fault [X, x] = .ok (planD t x) := by
  have e1 := L_along_ok r o g
  obtain ⟨f, a, b, ys, c, e, rfl, p⟩ := r
  have i3 : ∀ st : Store, oIx (.d (.seq f [txs a t.fs, .seq b ys, txs c t.s, txs e t.g])) (.d (.int 3)) st = some (.d (txs e t.g), st) := fun st => rfl
  generalize hX : D.seq f [txs a t.fs, .seq b ys, txs c t.s, txs e t.g] = X at *
  have ea : sAsg (.tp [(.nm 2), (.nm 3)]) (mPure f_L_along 2 (mCons (eV 0) (mCons (eV 1) mNil))) [some (.d X), some (.d x), none, none, none, none] [] = .ok .nx [some (.d X), some (.d x), some (.d (alongD t x).1), some (.d (alongD t x).2), none, none] [] := by
    simp only [sAsg, mPure, mCons, mNil, eV, List.getElem?_cons_zero, List.getElem?_cons_succ, R.bind, callP2, e1, okF_ok, R.bindS, put_pair, List.set_cons_zero, List.set_cons_succ]
  rw [f_L_plan_fault_eq]
  simp only [m_L_plan_fault, sSeq, ea]
  rcases alongD_cases o x with ⟨xs, q1, q2⟩ | ⟨q1, s, q2, hs⟩
  · simp only [planD, q1, callP1, callP2, callP3, okF_ok, okF_ex, mPure, sAsg, sPar2, sPar3, sIf, sRet, sDrop, sNext, mT, mOp, mUn, mCall, mCons, mNil, mRaw, mIf, mAnd, mOr, mNot, eV, eC, R.bind, R.bindS, R.of, List.getElem?_cons_zero, List.getElem?_cons_succ, List.set_cons_zero, List.set_cons_succ, List.length_cons, List.length_nil, Nat.reduceAdd, if_true, Tgt.put, isN_seq, outP, deepB_d]
  · have e3 : mLc true (srSeq (mOp oIx (eV 0) (eC (.int 3)))) (.nm 5) [5] (mT (mOp (oIn true) (eV 5) (eV 3))) (eV 5) [some (.d X), some (.d x), some (.d .non), some (.d (txs false s)), none, none] [] = .ok (.d (txs false (t.g.filter fun y => decide (y ∉ s)))) [] := by
      refine mLc_strs 5 (by simp) (t := e) (by simp only [callP1, callP2, callP3, okF_ok, okF_ex, mPure, sAsg, sPar2, sPar3, sIf, sRet, sDrop, sNext, mT, mOp, mUn, mCall, mCons, mNil, mRaw, mIf, mAnd, mOr, mNot, eV, eC, R.bind, R.bindS, R.of, List.getElem?_cons_zero, List.getElem?_cons_succ, List.set_cons_zero, List.set_cons_succ, List.length_cons, List.length_nil, Nat.reduceAdd, if_true, Tgt.put, i3]) _ (by have := sub7 (o.g.trans o.fs); omega) fun y hy => ?_
      simp only [callP1, callP2, callP3, okF_ok, okF_ex, mPure, sAsg, sPar2, sPar3, sIf, sRet, sDrop, sNext, mT, mOp, mUn, mCall, mCons, mNil, mRaw, mIf, mAnd, mOr, mNot, eV, eC, R.bind, R.bindS, R.of, List.getElem?_cons_zero, List.getElem?_cons_succ, List.set_cons_zero, List.set_cons_succ, List.length_cons, List.length_nil, Nat.reduceAdd, if_true, Tgt.put, notin_strs]
    have hh := lack_head t.g s
    have es1 : (sIf (mT (mOp (oIsN true) (eV 2) (eC .non))) (sRet (eV 2)) sNext) [some (.d X), some (.d x), some (.d .non), some (.d (txs false s)), none, none] [] = .ok .nx [some (.d X), some (.d x), some (.d .non), some (.d (txs false s)), none, none] [] := by
      simp only [callP1, callP2, callP3, okF_ok, okF_ex, mPure, sAsg, sPar2, sPar3, sIf, sRet, sDrop, sNext, mT, mOp, mUn, mCall, mCons, mNil, mRaw, mIf, mAnd, mOr, mNot, eV, eC, R.bind, R.bindS, R.of, List.getElem?_cons_zero, List.getElem?_cons_succ, List.set_cons_zero, List.set_cons_succ, List.length_cons, List.length_nil, Nat.reduceAdd, if_true, Tgt.put, isN_non, Bool.false_eq_true, if_false]
    simp only [planD, q1, q2, unS_txs, es1]
    simp only [sAsg, e3, R.bindS, Tgt.put, List.set_cons_zero, List.set_cons_succ]
    generalize hL : (t.g.filter fun y => decide (y ∉ s)) = L at *
    cases L with
    | nil =>
      have hl : lackOf t.g s = none := by rw [← hh]; rfl
      simp only [callP1, callP2, callP3, okF_ok, okF_ex, mPure, sAsg, sPar2, sPar3, sIf, sRet, sDrop, sNext, mT, mOp, mUn, mCall, mCons, mNil, mRaw, mIf, mAnd, mOr, mNot, eV, eC, R.bind, R.bindS, R.of, List.getElem?_cons_zero, List.getElem?_cons_succ, List.set_cons_zero, List.set_cons_succ, List.length_cons, List.length_nil, Nat.reduceAdd, if_true, Tgt.put, mSeq0', ne_nil, List.isEmpty_nil, Bool.not_true, Bool.false_eq_true, if_false, outP, deepB_d, hl]
    | cons z L =>
      have hl : lackOf t.g s = some z := by rw [← hh]; rfl
      have i0 : ∀ st : Store, oIx (.d (txs false (z :: L))) (.d (.int 0)) st = some (.d (.str z), st) := fun st => ix_seq false ((z :: L).map .str) 0 rfl st
      have ec : mT (mOp oNe (eV 4) (mSeq true false mNil)) [some (.d X), some (.d x), some (.d .non), some (.d (txs false s)), some (.d (txs false (z :: L))), none] [] = .ok true [] := by
        simp only [callP1, callP2, callP3, okF_ok, okF_ex, mPure, sAsg, sPar2, sPar3, sIf, sRet, sDrop, sNext, mT, mOp, mUn, mCall, mCons, mNil, mRaw, mIf, mAnd, mOr, mNot, eV, eC, R.bind, R.bindS, R.of, List.getElem?_cons_zero, List.getElem?_cons_succ, List.set_cons_zero, List.set_cons_succ, List.length_cons, List.length_nil, Nat.reduceAdd, if_true, Tgt.put, mSeq0', ne_nil, List.isEmpty_cons, Bool.not_false]
      have es : mSeq true true (mCons (eC (.str "goal")) (mCons (mOp oIx (eV 4) (eC (.int 0))) mNil)) [some (.d X), some (.d x), some (.d .non), some (.d (txs false s)), some (.d (txs false (z :: L))), none] [] = .ok (.d (.seq true [.str "goal", .str z])) [] := by
        simp only [mSeq, callP1, callP2, callP3, okF_ok, okF_ex, mPure, sAsg, sPar2, sPar3, sIf, sRet, sDrop, sNext, mT, mOp, mUn, mCall, mCons, mNil, mRaw, mIf, mAnd, mOr, mNot, eV, eC, R.bind, R.bindS, R.of, List.getElem?_cons_zero, List.getElem?_cons_succ, List.set_cons_zero, List.set_cons_succ, List.length_cons, List.length_nil, Nat.reduceAdd, if_true, Tgt.put, i0]
        rfl
      simp only [sRet, mIf, ec, R.bind, if_true, es, R.bindS, outP, deepB_d, hl]
theorem f_check_along_eq (a b : D) : f_check_along [a, b] = outP (m_check_along [some (.d a), some (.d b), none, none] []) := rfl
theorem check_along_ok {t : Tk} {X : D} (r : TkR t X) (o : TkOk t) {x : D} (g : gd x = true) : f_check_along [X, x] = (match (alongD t x).1 with | .non => .ok .non | y => .ex "BadPlan" "fault" y) := by
  have e0 := check_task_ok r o
  have e1 := fault_along_ok r o g
  have ea : sAsg (.tp [(.nm 2), (.nm 3)]) (mPure f_fault_along 2 (mCons (eV 0) (mCons (eV 1) mNil))) [some (.d X), some (.d x), none, none] [] = .ok .nx [some (.d X), some (.d x), some (.d (alongD t x).1), some (.d (alongD t x).2)] [] := by
    simp only [sAsg, mPure, mCons, mNil, eV, List.getElem?_cons_zero, List.getElem?_cons_succ, R.bind, callP2, e1, okF_ok, R.bindS, put_pair, List.set_cons_zero, List.set_cons_succ]
  have ed : sDrop (mPure f_check_task 1 (mCons (eV 0) mNil)) [some (.d X), some (.d x), none, none] [] = .ok .nx [some (.d X), some (.d x), none, none] [] := by
    simp only [callP1, callP2, callP3, okF_ok, okF_ex, mPure, sAsg, sPar2, sPar3, sIf, sRet, sDrop, sNext, mT, mOp, mUn, mCall, mCons, mNil, mRaw, mIf, mAnd, mOr, mNot, eV, eC, R.bind, R.bindS, R.of, List.getElem?_cons_zero, List.getElem?_cons_succ, List.set_cons_zero, List.set_cons_succ, List.length_cons, List.length_nil, Nat.reduceAdd, if_true, Tgt.put, e0]
  rw [f_check_along_eq]
  simp only [m_check_along, sSeq, ed, ea]
  rcases alongD_cases o x with ⟨xs, q1, q2⟩ | ⟨q1, s, q2, hs⟩
  · simp only [q1, sRaise, callP1, callP2, callP3, okF_ok, okF_ex, mPure, sAsg, sPar2, sPar3, sIf, sRet, sDrop, sNext, mT, mOp, mUn, mCall, mCons, mNil, mRaw, mIf, mAnd, mOr, mNot, eV, eC, R.bind, R.bindS, R.of, List.getElem?_cons_zero, List.getElem?_cons_succ, List.set_cons_zero, List.set_cons_succ, List.length_cons, List.length_nil, Nat.reduceAdd, if_true, Tgt.put, isN_seq, outP, deepB_d]
  · simp only [q1, callP1, callP2, callP3, okF_ok, okF_ex, mPure, sAsg, sPar2, sPar3, sIf, sRet, sDrop, sNext, mT, mOp, mUn, mCall, mCons, mNil, mRaw, mIf, mAnd, mOr, mNot, eV, eC, R.bind, R.bindS, R.of, List.getElem?_cons_zero, List.getElem?_cons_succ, List.set_cons_zero, List.set_cons_succ, List.length_cons, List.length_nil, Nat.reduceAdd, if_true, Tgt.put, isN_non, Bool.false_eq_true, if_false, outP]
end IL

set_option maxHeartbeats 4000007
namespace IL
open PySem PySem.Spec
open PyProof.Rows L2
/-! ### cost -/
def costOf (t : Tk) (k : Nat) : Int := ((t.ds[k]?).map (·.pr)).getD 0
def costS (t : Tk) (x : D) : Int := match x with
  | .seq _ xs => (xs.map fun z => costOf t (natOf z)).sum
  | _ => 0
theorem alongR_in (t : Tk) : ∀ (ks : List Nat) (i : Nat) (s : List Str), (alongR t i ks s).1 = .non → ∀ k ∈ ks, ∃ d, t.ds[k]? = some d
  | [], _, _, _, k, hk => by cases hk
  | z :: ks, i, s, h, k, hk => by
    simp only [alongR] at h
    cases hd : t.ds[z]? with
    | none => rw [hd] at h; cases h
    | some d =>
      rw [hd] at h
      simp only at h
      cases hl : lackOf d.nd s with
      | some f => rw [hl] at h; cases h
      | none =>
        rw [hl] at h
        rcases List.mem_cons.mp hk with rfl | hk
        · exact ⟨d, hd⟩
        · exact alongR_in t ks (i + 1) _ h k hk
theorem alongD_seq {t : Tk} {x : D} (h : (alongD t x).1 = .non) : ∃ u xs, x = .seq u xs ∧ (∀ z ∈ xs, isNat z = true) ∧ alongD t x = alongR t 0 (xs.map natOf) t.s := by
  unfold alongD at h ⊢
  split at h
  · rename_i u xs
    split at h
    · rename_i hb
      exact ⟨u, xs, rfl, List.all_eq_true.mp hb, by rw [if_pos hb]⟩
    · cases h
  · cases h
theorem sum_ints {α : Type} (xs : List α) (p : α → Int) (st : Store) : oSum [.d (.seq false (xs.map fun x => .int (p x)))] st = some (.d (.int (xs.map p).sum), st) := by
  have e : (xs.map fun x => D.int (p x)) = (xs.map p).map D.int := by rw [List.map_map]; rfl
  have e2 : vw st (.d (.seq false ((xs.map p).map D.int))) = .sq false (((xs.map p).map D.int).map .d) := rfl
  have e3 : ∀ bs : List Int, mapO intOf (bs.map D.int) = some bs := by
    intro bs
    induction bs with
    | nil => rfl
    | cons b bs ih => simp only [List.map_cons, mapO, intOf, ih]
  rw [e]
  simp only [oSum, e2, allD_d, Option.bind_some, e3]
theorem f_cost_of_eq (a b : D) : f_cost_of [a, b] = outP (m_cost_of [some (.d a), some (.d b), none] []) := rfl
theorem f_cost_eq (a b : D) : f_cost [a, b] = outP (m_cost [some (.d a), some (.d b)] []) := rfl
theorem cost_of_ok {t : Tk} {X : D} (r : TkR t X) {x : D} (g : gd x = true) (h : (alongD t x).1 = .non) : f_cost_of [X, x] = .ok (.int (costS t x)) := by
  obtain ⟨u, xs, rfl, hn, ea⟩ := alongD_seq h
  have gs : xs.all smp = true ∧ xs.length ≤ 100 := by simpa [gd] using g
  rw [ea] at h
  have hin := alongR_in t _ _ _ h
  obtain ⟨f, a, b, ys, c, e, rfl, p⟩ := r
  have i1 : ∀ st : Store, oIx (.d (.seq f [txs a t.fs, .seq b ys, txs c t.s, txs e t.g])) (.d (.int 1)) st = some (.d (.seq b ys), st) := fun st => rfl
  generalize hX : D.seq f [txs a t.fs, .seq b ys, txs c t.s, txs e t.g] = X at *
  have e1 : mLc true (srSeq (eV 1)) (.nm 2) [2] tYesX (mOp oIx (mOp oIx (mOp oIx (eV 0) (eC (.int 1))) (eV 2)) (eC (.int 4))) [some (.d X), some (.d (.seq u xs)), none] [] = .ok (.d (.seq false (xs.map fun z => .int (costOf t (natOf z))))) [] := by
    refine mLc_map 2 (t := u) rfl _ (by omega) fun z hz => ?_
    obtain ⟨k, rfl⟩ : ∃ k : Nat, z = .int k := ⟨natOf z, nat_int (hn z hz)⟩
    have hk : natOf (.int (k : Int)) = k := rfl
    obtain ⟨d, hd⟩ := hin k (by rw [← hk]; exact List.mem_map_of_mem hz)
    obtain ⟨y, hy, r⟩ := pair_at p hd
    have ik := fun st => ix_seq b ys k hy st
    have i4 : ∀ st : Store, oIx (.d y) (.d (.int 4)) st = some (.d (.int d.pr), st) := by
      obtain ⟨f, a, b, c, rfl⟩ := r
      exact fun st => rfl
    simp only [callP1, callP2, callP3, okF_ok, okF_ex, mPure, sAsg, sPar2, sPar3, sIf, sRet, sDrop, sNext, mT, mOp, mUn, mCall, mCons, mNil, mRaw, mIf, mAnd, mOr, mNot, eV, eC, R.bind, R.bindS, R.of, List.getElem?_cons_zero, List.getElem?_cons_succ, List.set_cons_zero, List.set_cons_succ, List.length_cons, List.length_nil, Nat.reduceAdd, if_true, Tgt.put, i1, ik, i4, hk, costOf, hd, Option.map_some, Option.getD_some]
  rw [f_cost_of_eq]
  simp only [m_cost_of, sRet, mCall, mCons, e1, R.bind, mNil, sum_ints, R.of, R.bindS, outP, deepB_d, costS]
theorem L_cost_ok {t : Tk} {X : D} (r : TkR t X) {x : D} (g : gd x = true) (h : (alongD t x).1 = .non) : f_L_cost [X, x] = .ok (.int (costS t x)) := cost_of_ok r g h
theorem cost_ok {t : Tk} {X : D} (r : TkR t X) (o : TkOk t) {x : D} (g : gd x = true) : f_cost [X, x] = (match (alongD t x).1 with | .non => .ok (.int (costS t x)) | y => .ex "BadPlan" "fault" y) := by
  have e1 := check_along_ok r o g
  rw [f_cost_eq]
  rcases alongD_cases o x with ⟨xs, q1, q2⟩ | ⟨q1, s, q2, hs⟩
  · rw [q1] at e1 ⊢
    simp only [m_cost, sSeq, callP1, callP2, callP3, okF_ok, okF_ex, mPure, sAsg, sPar2, sPar3, sIf, sRet, sDrop, sNext, mT, mOp, mUn, mCall, mCons, mNil, mRaw, mIf, mAnd, mOr, mNot, eV, eC, R.bind, R.bindS, R.of, List.getElem?_cons_zero, List.getElem?_cons_succ, List.set_cons_zero, List.set_cons_succ, List.length_cons, List.length_nil, Nat.reduceAdd, if_true, Tgt.put, e1, outP, deepB_d]
  · have e2 := cost_of_ok r g q1
    rw [q1] at e1 ⊢
    simp only [m_cost, sSeq, callP1, callP2, callP3, okF_ok, okF_ex, mPure, sAsg, sPar2, sPar3, sIf, sRet, sDrop, sNext, mT, mOp, mUn, mCall, mCons, mNil, mRaw, mIf, mAnd, mOr, mNot, eV, eC, R.bind, R.bindS, R.of, List.getElem?_cons_zero, List.getElem?_cons_succ, List.set_cons_zero, List.set_cons_succ, List.length_cons, List.length_nil, Nat.reduceAdd, if_true, Tgt.put, e1, e2, outP, deepB_d]
/-! ### run -/
def sl (l : List Str) : SO := .lst ((l.map D.str).map .d)
theorem wsD (l : List Str) : (l.map D.str).map W.d = l.map fun y => W.d (.str y) := by rw [List.map_map]; rfl
theorem lcI_strs {i m : Nat} {tt : Tx} {ρ : En} {st : Store} {l : List Str} (p : Str → Bool) (hi : i < ρ.length) (hm : st[m]? = some (sl l)) (h : ∀ y ∈ l, tt (ρ.set i (some (.d (.str y)))) st = .ok (p y) st) :
    ∀ (l' : List Str) (j : Nat), l' = l.drop j → lcI (getL m) (.nm i) tt (eV i) ρ l'.length j st = .ok ((l'.filter p).map fun y => .d (.str y)) st
  | [], j, hj => by
    have : l.length ≤ j := by have := congrArg List.length hj; simp at this; omega
    have e : getL m st j = .stop := by
      simp only [getL, hm, sl, wsD, List.getElem?_map]
      rw [List.getElem?_eq_none this]; rfl
    simp only [List.length_nil, lcI, e, List.filter_nil, List.map_nil]
  | y :: l', j, hj => by
    have hy : l[j]? = some y := by
      have := congrArg (·[0]?) hj
      simpa using this.symm
    have hj' : l' = l.drop (j + 1) := by
      have := congrArg List.tail hj
      simpa using this
    have e : getL m st j = .it (.one (.d (.str y))) := by
      simp only [getL, hm, sl, wsD, List.getElem?_map, hy, Option.map_some, Gt.of]
    have h1 := h y (List.mem_of_getElem? hy)
    have ih := lcI_strs p hi hm h l' (j + 1) hj'
    have e2 : eV i (ρ.set i (some (.d (.str y)))) st = .ok (.d (.str y)) st := by
      simp only [eV, List.getElem?_set_self hi]
    simp only [List.length_cons, lcI, e, Tgt.putI, Tgt.put, h1, noEx, R.bind]
    cases hp : p y with
    | true => simp only [if_true, e2, ih, List.filter_cons, hp, List.map_cons]
    | false => simp only [Bool.false_eq_true, if_false, ih, List.filter_cons, hp]
theorem f_doneM_eq (a b : W) (st : Store) : f_doneM [a, b] st = outW (m_doneM [some a, some b, none, none] st) := rfl
theorem doneM_ok {fs : List Str} (hf : fs.Sublist names7) {d : Dd} {y : D} (r : DdR d y) (o : DdOk fs d) {s : List Str} (hs : s.Sublist fs) {m : Nat} {st : Store} (hm : st[m]? = some (sl s)) :
    f_doneM [.d y, .loc m] st = .ok (.loc st.length) (st ++ [sl (afterOf fs d s)]) := by
  obtain ⟨f, a, b, c, rfl⟩ := r
  have hp := done_perm hf o hs
  have l1 : s.length ≤ 7 := Nat.le_trans hs.length_le (sub7 hf)
  have l2 : d.pt.length ≤ 7 := Nat.le_trans o.pt.length_le (sub7 hf)
  have i2 : ∀ st : Store, oIx (.d (.seq f [.str d.nm, txs a d.nd, txs b d.pt, txs c d.tk, .int d.pr])) (.d (.int 2)) st = some (.d (txs b d.pt), st) := fun st => rfl
  have i3 : ∀ st : Store, oIx (.d (.seq f [.str d.nm, txs a d.nd, txs b d.pt, txs c d.tk, .int d.pr])) (.d (.int 3)) st = some (.d (txs c d.tk), st) := fun st => rfl
  rw [f_doneM_eq]
  generalize hX : D.seq f [.str d.nm, txs a d.nd, txs b d.pt, txs c d.tk, .int d.pr] = X at *
  have e1 : mLc true (srSeq (eV 1)) (.nm 3) [3] (mAnd (mT (mOp (oIn true) (eV 3) (mOp oIx (eV 0) (eC (.int 3))))) (mT (mOp (oIn true) (eV 3) (mOp oIx (eV 0) (eC (.int 2)))))) (eV 3) [some (.d X), some (.loc m), none, none] st = .ok (.d (txs false (keptOf d s))) st := by
    have es : sqOf st (.loc m) = .mu m s.length := by simp only [sqOf, hm, sl, List.length_map]
    have hk : ((keptOf d s).map fun y => W.d (.str y)).length ≤ sizeLine := small_of (by rw [List.length_map]; have := List.length_filter_le (fun f => decide (f ∉ d.tk) && decide (f ∉ d.pt)) s; simp only [keptOf]; omega)
    have el := lcI_strs (i := 3) (m := m) (tt := (mAnd (mT (mOp (oIn true) (eV 3) (mOp oIx (eV 0) (eC (.int 3))))) (mT (mOp (oIn true) (eV 3) (mOp oIx (eV 0) (eC (.int 2))))))) (ρ := [some (.d X), some (.loc m), none, none]) (fun f => decide (f ∉ d.tk) && decide (f ∉ d.pt)) (by simp) hm (fun y hy => by
      refine mAnd_ok ?_ ?_
      · simp only [callP1, callP2, callP3, okF_ok, okF_ex, mPure, sAsg, sPar2, sPar3, sIf, sRet, sDrop, sNext, mT, mOp, mUn, mCall, mCons, mNil, mRaw, mIf, mAnd, mOr, mNot, eV, eC, R.bind, R.bindS, R.of, List.getElem?_cons_zero, List.getElem?_cons_succ, List.set_cons_zero, List.set_cons_succ, List.length_cons, List.length_nil, Nat.reduceAdd, if_true, Tgt.put, i3, notin_strs]
      · simp only [callP1, callP2, callP3, okF_ok, okF_ex, mPure, sAsg, sPar2, sPar3, sIf, sRet, sDrop, sNext, mT, mOp, mUn, mCall, mCons, mNil, mRaw, mIf, mAnd, mOr, mNot, eV, eC, R.bind, R.bindS, R.of, List.getElem?_cons_zero, List.getElem?_cons_succ, List.set_cons_zero, List.set_cons_succ, List.length_cons, List.length_nil, Nat.reduceAdd, if_true, Tgt.put, i2, notin_strs]) s 0 rfl
    simp only [mLc, srSeq, eV, List.getElem?_cons_zero, List.getElem?_cons_succ, R.bind, es, lcS, wipeE, List.set_cons_zero, List.set_cons_succ]
    have el' : lcI (getL m) (.nm 3) (mAnd (mT (mOp (oIn true) (eV 3) (mOp oIx (eV 0) (eC (.int 3))))) (mT (mOp (oIn true) (eV 3) (mOp oIx (eV 0) (eC (.int 2)))))) (eV 3) [some (.d X), some (.loc m), none, none] s.length 0 st = .ok ((keptOf d s).map fun y => .d (.str y)) st := el
    rw [el']
    simp only [R.bind, hk, if_true, mkS_strs, R.of]
  have hk : (keptOf d s).length ≤ 7 := Nat.le_trans (List.length_filter_le _ _) l1
  have e2 : ∀ st : Store, oList true [.d (txs b d.pt)] st = some (.d (txs false d.pt), st) := fun st => mkS_d false (d.pt.map .str) st
  have e3 : ∀ st : Store, oAdd true (.d (txs false (keptOf d s))) (.d (txs false d.pt)) st = some (.d (txs false (keptOf d s ++ d.pt)), st) := fun st => by
    have hl : (keptOf d s).length + d.pt.length ≤ sizeLine := small_of (by omega)
    simp only [oAdd, vw, vwD, List.length_map, hl, if_true]
    rw [← List.map_append, ← List.map_append, mkS_d]
  have e4 : ∀ st : Store, oSorted false [.d (txs false (keptOf d s ++ d.pt))] st = some (.loc st.length, st ++ [sl (afterOf fs d s)]) := fun st => by
    have hl : ((keptOf d s ++ d.pt).map D.str).length ≤ sizeLine := small_of (by rw [List.length_map, List.length_append]; omega)
    simp only [oSorted, vw, vwD, allD_d, hl, srt_strs, and_self, if_true]
    rw [sort_names ((after_sub fs d s).trans hf) hp]
    rfl
  simp only [m_doneM, sSeq, sAsg, e1, R.bindS, Tgt.put, List.set_cons_succ, List.set_cons_zero]
  simp only [callP1, callP2, callP3, okF_ok, okF_ex, mPure, sAsg, sPar2, sPar3, sIf, sRet, sDrop, sNext, mT, mOp, mUn, mCall, mCons, mNil, mRaw, mIf, mAnd, mOr, mNot, eV, eC, R.bind, R.bindS, R.of, List.getElem?_cons_zero, List.getElem?_cons_succ, List.set_cons_zero, List.set_cons_succ, List.length_cons, List.length_nil, Nat.reduceAdd, if_true, Tgt.put, i2, e2, e3, e4, outW]
end IL

set_option maxHeartbeats 4000007
namespace IL
open PySem PySem.Spec
open PyProof.Rows L2
def lcs (L n : Nat) : List W := .loc L :: (List.range n).map (fun j => .loc (L + 2 + j))
def runSt (L : Nat) (s0 : List Str) (r : List (List Str)) : Store := sl s0 :: .lst (lcs L r.length) :: r.map sl
def statesT (t : Tk) : List Nat → List Str → List (List Str)
  | [], _ => []
  | k :: r, s => match t.ds[k]? with
    | none => []
    | some d => afterOf t.fs d s :: statesT t r (afterOf t.fs d s)
theorem lcs_snoc (L n : Nat) : lcs L n ++ [.loc (L + 2 + n)] = lcs L (n + 1) := by
  simp only [lcs, List.range_succ, List.map_append, List.map_cons, List.map_nil, List.cons_append]
theorem runSt_snoc (st : Store) (s0 : List Str) (r : List (List Str)) (s : List Str) : (st ++ runSt st.length s0 r ++ [sl s]).set (st.length + 1) (.lst (lcs st.length r.length ++ [.loc (st.length + 2 + r.length)])) = st ++ runSt st.length s0 (r ++ [s]) := by
  rw [List.append_assoc, List.set_append_right _ _ (by omega)]
  have : st.length + 1 - st.length = 1 := by omega
  rw [this, lcs_snoc]
  simp only [runSt, List.cons_append, List.set_cons_succ, List.set_cons_zero, List.map_append, List.map_cons, List.map_nil, List.length_append, List.length_cons, List.length_nil, Nat.zero_add]
theorem runSt_len (L : Nat) (s0 : List Str) (r : List (List Str)) : (runSt L s0 r).length = r.length + 2 := by simp [runSt]
theorem runSt_1 (st more : Store) (s0 : List Str) (r : List (List Str)) : (st ++ (runSt st.length s0 r ++ more))[st.length + 1]? = some (.lst (lcs st.length r.length)) := by
  rw [List.getElem?_append_right (by omega)]
  have : st.length + 1 - st.length = 1 := by omega
  rw [this]; rfl
theorem runSt_0 (st more : Store) (s0 : List Str) (r : List (List Str)) : (st ++ (runSt st.length s0 r ++ more))[st.length]? = some (sl s0) := by
  rw [List.getElem?_append_right (by omega)]
  have : st.length - st.length = 0 := by omega
  rw [this]; rfl
theorem runSt_j (st more : Store) (s0 : List Str) (r : List (List Str)) (j : Nat) (s : List Str) (hj : r[j]? = some s) : (st ++ (runSt st.length s0 r ++ more))[st.length + 2 + j]? = some (sl s) := by
  rw [List.getElem?_append_right (by omega)]
  have : st.length + 2 + j - st.length = j + 2 := by omega
  rw [this]
  have hl : j < (r.map sl).length := by rw [List.length_map]; exact (List.getElem?_eq_some_iff.mp hj).1
  simp only [runSt, List.cons_append, List.getElem?_cons_succ]
  rw [List.getElem?_append_left hl, List.getElem?_map, hj]; rfl
def lastL (L n : Nat) : Nat := match n with
  | 0 => L
  | n + 1 => L + 2 + n
theorem lcs_last (L n : Nat) : L2.atI (lcs L n) (-1) = some (.loc (lastL L n)) := by
  have hlen : (lcs L n).length = n + 1 := by simp [lcs]
  have h1 : L2.ixN (lcs L n).length (-1) = some n := by
    rw [hlen]
    simp only [L2.ixN]
    rw [if_neg (by omega), if_pos (by omega)]
    congr 1; omega
  simp only [L2.atI, h1, Option.bind_some]
  cases n with
  | zero => rfl
  | succ n =>
    simp only [lcs, List.getElem?_cons_succ, List.getElem?_map, lastL]
    rw [List.getElem?_range (by omega)]; rfl
theorem last_get (st more : Store) (s0 : List Str) (r : List (List Str)) (cur : List Str) (h : (s0 :: r).getLast? = some cur) : (st ++ (runSt st.length s0 r ++ more))[lastL st.length r.length]? = some (sl cur) := by
  rcases List.eq_nil_or_concat r with rfl | ⟨r', s, rfl⟩
  · simp at h; subst h
    exact runSt_0 st more s0 []
  · have hs : s = cur := by simpa [List.getLast?_cons] using h
    subst hs
    have hl : lastL st.length (r' ++ [s]).length = st.length + 2 + r'.length := by simp [lastL]
    rw [List.concat_eq_append] at *
    rw [hl]
    exact runSt_j st more s0 _ _ _ (by simp)
def sa_body : Sx := (sDrop (mMeth oAppend (eV 2) (mCons (mRaw f_doneM 2 (mCons (mOp oIx (mOp oIx (eV 0) (eC (.int 1))) (eV 3)) (mCons (mOp oIx (eV 2) (mUn oNeg (eC (.int 1)))) mNil))) mNil)))
theorem sa_for {t : Tk} (o : TkOk t) {f a b c e : Bool} {ys : List D} (p : Paired DdR t.ds ys) (x : D) (st : Store) (s0 : List Str) : ∀ (xs : List D) (i : Nat) (r : List (List Str)) (cur : List Str) (v3 : Option W), (∀ x ∈ xs, isNat x = true) → cur.Sublist t.fs → (s0 :: r).getLast? = some cur → (alongR t i (xs.map natOf) cur).1 = .non → r.length + xs.length ≤ 200 →
    ∃ v3', forL (.nm 3) sa_body (xs.map one) [some (.d (.seq f [txs a t.fs, .seq b ys, txs c t.s, txs e t.g])), some (.d x), some (.loc (st.length + 1)), v3] (st ++ runSt st.length s0 r) = .ok .nx [some (.d (.seq f [txs a t.fs, .seq b ys, txs c t.s, txs e t.g])), some (.d x), some (.loc (st.length + 1)), v3'] (st ++ runSt st.length s0 (r ++ statesT t (xs.map natOf) cur))
  | [], i, r, cur, v3, _, _, _, _, _ => ⟨v3, by simp [statesT, forL]⟩
  | z :: xs, i, r, cur, v3, hz, hc, hl, ha, hn => by
    obtain ⟨k, rfl⟩ : ∃ k : Nat, z = .int k := ⟨natOf z, nat_int (hz z List.mem_cons_self)⟩
    have hk : natOf (.int (k : Int)) = k := rfl
    simp only [List.map_cons, hk, alongR] at ha
    cases hd : t.ds[k]? with
    | none => rw [hd] at ha; cases ha
    | some d =>
      rw [hd] at ha
      simp only at ha
      cases hlk : lackOf d.nd cur with
      | some g => rw [hlk] at ha; cases ha
      | none =>
        rw [hlk] at ha
        simp only at ha
        obtain ⟨y, hy, rr⟩ := pair_at p hd
        have od : DdOk t.fs d := o.ds d (List.mem_of_getElem? hd)
        simp only [List.length_cons] at hn
        obtain ⟨v3', ih⟩ := sa_for o (f := f) (a := a) (b := b) (c := c) (e := e) p x st s0 xs (i + 1) (r ++ [afterOf t.fs d cur]) (afterOf t.fs d cur) (some (.d (.int k))) (fun x hx => hz x (List.mem_cons_of_mem _ hx)) (after_sub _ _ _) (by simp [List.getLast?_cons]) ha (by simp; omega)
        refine ⟨v3', ?_⟩
        have i1 : ∀ st : Store, oIx (.d (.seq f [txs a t.fs, .seq b ys, txs c t.s, txs e t.g])) (.d (.int 1)) st = some (.d (.seq b ys), st) := fun st => rfl
        have ik := fun st => ix_seq b ys k hy st
        generalize hX : D.seq f [txs a t.fs, .seq b ys, txs c t.s, txs e t.g] = X at *
        have g1 : (st ++ runSt st.length s0 r)[st.length + 1]? = some (.lst (lcs st.length r.length)) := by have := runSt_1 st [] s0 r; rwa [List.append_nil] at this
        have gl : (st ++ runSt st.length s0 r)[lastL st.length r.length]? = some (sl cur) := by have := last_get st [] s0 r cur hl; rwa [List.append_nil] at this
        have g2 : (st ++ runSt st.length s0 r ++ [sl (afterOf t.fs d cur)])[st.length + 1]? = some (.lst (lcs st.length r.length)) := by
          rw [List.append_assoc]; exact runSt_1 st _ s0 r
        have hv : vw (st ++ runSt st.length s0 r) (.loc (st.length + 1)) = .sq false (lcs st.length r.length) := by simp only [vw, g1, vwS]
        have hix : oIx (.loc (st.length + 1)) (.d (.int (-1))) (st ++ runSt st.length s0 r) = some (.loc (lastL st.length r.length), st ++ runSt st.length s0 r) := by
          have hv2 : vw (st ++ runSt st.length s0 r) (.d (.int (-1))) = .int (-1) := rfl
          simp only [oIx, hv, hv2, lcs_last, Option.map_some]
        have hng : ∀ st : Store, oNeg (.d (.int 1)) st = some (.d (.int (-1)), st) := fun st => rfl
        have hdn := doneM_ok o.fs rr od hc gl
        have hlen : (st ++ runSt st.length s0 r).length = st.length + 2 + r.length := by rw [List.length_append, runSt_len]; omega
        have hap : oAppend (.loc (st.length + 1)) [.loc (st.length + 2 + r.length)] (st ++ runSt st.length s0 r ++ [sl (afterOf t.fs d cur)]) = some (.d .non, st ++ runSt st.length s0 (r ++ [afterOf t.fs d cur])) := by
          have : (lcs st.length r.length).length < sizeLine := Nat.lt_of_lt_of_le (by simp [lcs]; omega : _ < 1000) (by decide)
          simp only [oAppend, g2, this, if_true, runSt_snoc]
        rw [hlen] at hdn
        have eb : sa_body [some (.d X), some (.d x), some (.loc (st.length + 1)), some (.d (.int k))] (st ++ runSt st.length s0 r) = .ok .nx [some (.d X), some (.d x), some (.loc (st.length + 1)), some (.d (.int k))] (st ++ runSt st.length s0 (r ++ [afterOf t.fs d cur])) := by
          simp only [sa_body, mMeth, callP1, callP2, callP3, okF_ok, okF_ex, mPure, sAsg, sPar2, sPar3, sIf, sRet, sDrop, sNext, mT, mOp, mUn, mCall, mCons, mNil, mRaw, mIf, mAnd, mOr, mNot, eV, eC, R.bind, R.bindS, R.of, List.getElem?_cons_zero, List.getElem?_cons_succ, List.set_cons_zero, List.set_cons_succ, List.length_cons, List.length_nil, Nat.reduceAdd, if_true, Tgt.put, hv, i1, ik, hng, hix, hdn, hap]
        have ep : Tgt.putI (st ++ runSt st.length s0 r) (.nm 3) (one (.int (k : Int))) [some (.d X), some (.d x), some (.loc (st.length + 1)), v3] = some [some (.d X), some (.d x), some (.loc (st.length + 1)), some (.d (.int k))] := rfl
        rw [List.map_cons, forL_cons, ep]
        simp only [eb, ih, List.map_cons, hk, statesT, hd, List.append_assoc, List.cons_append, List.nil_append]
theorem f_states_alongM_eq (a b : W) (st : Store) : f_states_alongM [a, b] st = outW (m_states_alongM [some a, some b, none, none] st) := rfl
theorem f_runM_eq (a b : W) (st : Store) : f_runM [a, b] st = outW (m_runM [some a, some b] st) := rfl
/-- the states that x goes along -/
def statesS (t : Tk) (x : D) : List (List Str) := match x with
  | .seq _ xs => statesT t (xs.map natOf) t.s
  | _ => []
theorem runM_ok {t : Tk} {X : D} (r : TkR t X) (o : TkOk t) {x : D} (g : gd x = true) (h : (alongD t x).1 = .non) (st : Store) :
    f_runM [.d X, .d x] st = .ok (.loc (st.length + 1)) (st ++ runSt st.length t.s (statesS t x)) := by
  have e1 := check_along_ok r o g
  rw [h] at e1
  obtain ⟨u, xs, rfl, hn, ea⟩ := alongD_seq h
  have gs : xs.all smp = true ∧ xs.length ≤ 100 := by simpa [gd] using g
  rw [ea] at h
  have e2 : f_states_alongM [.d X, .d (.seq u xs)] st = .ok (.loc (st.length + 1)) (st ++ runSt st.length t.s (statesT t (xs.map natOf) t.s)) := by
    obtain ⟨f, a, b, ys, c, e, rfl, p⟩ := r
    have i2 : ∀ st : Store, oIx (.d (.seq f [txs a t.fs, .seq b ys, txs c t.s, txs e t.g])) (.d (.int 2)) st = some (.d (txs c t.s), st) := fun st => rfl
    obtain ⟨v3, ef⟩ := sa_for o (f := f) (a := a) (b := b) (c := c) (e := e) p (.seq u xs) st t.s xs 0 [] t.s none hn o.s rfl h (by simp; omega)
    generalize hX : D.seq f [txs a t.fs, .seq b ys, txs c t.s, txs e t.g] = X at *
    have es : mSeq false false (mCons (mCall (oList false) (mCons (mOp oIx (eV 0) (eC (.int 2))) mNil)) mNil) [some (.d X), some (.d (.seq u xs)), none, none] st = .ok (.loc (st.length + 1)) (st ++ runSt st.length t.s []) := by
      have el : oList false [.d (txs c t.s)] st = some (.loc st.length, st ++ [sl t.s]) := rfl
      have e5 : 1 ≤ sizeLine := by decide
      have em : mkS false false [.loc st.length] (st ++ [sl t.s]) = some (.loc (st ++ [sl t.s]).length, (st ++ [sl t.s]) ++ [.lst [.loc st.length]]) := rfl
      simp only [mSeq, callP1, callP2, callP3, okF_ok, okF_ex, mPure, sAsg, sPar2, sPar3, sIf, sRet, sDrop, sNext, mT, mOp, mUn, mCall, mCons, mNil, mRaw, mIf, mAnd, mOr, mNot, eV, eC, R.bind, R.bindS, R.of, List.getElem?_cons_zero, List.getElem?_cons_succ, List.set_cons_zero, List.set_cons_succ, List.length_cons, List.length_nil, Nat.reduceAdd, if_true, Tgt.put, i2, el, e5, em, List.length_append, List.append_assoc]
      rfl
    have eq : sqOf (st ++ runSt st.length t.s []) (.d (.seq u xs)) = .dat u xs := rfl
    rw [List.nil_append] at ef
    have ef' : forL (.nm 3) (sDrop (mMeth oAppend (eV 2) (mCons (mRaw f_doneM 2 (mCons (mOp oIx (mOp oIx (eV 0) (eC (.int 1))) (eV 3)) (mCons (mOp oIx (eV 2) (mUn oNeg (eC (.int 1)))) mNil))) mNil))) (xs.map one) [some (.d X), some (.d (.seq u xs)), some (.loc (st.length + 1)), none] (st ++ runSt st.length t.s []) = _ := ef
    rw [f_states_alongM_eq]
    simp only [m_states_alongM, sSeq, sAsg, es, R.bindS, Tgt.put, List.set_cons_zero, List.set_cons_succ, sFor, srSeq, eV, List.getElem?_cons_zero, List.getElem?_cons_succ, R.bind, eq, forS]
    simp only [ef', sRet, eV, List.getElem?_cons_zero, List.getElem?_cons_succ, R.bindS, outW]
  rw [f_runM_eq]
  simp only [m_runM, sSeq, callP1, callP2, callP3, okF_ok, okF_ex, mPure, sAsg, sPar2, sPar3, sIf, sRet, sDrop, sNext, mT, mOp, mUn, mCall, mCons, mNil, mRaw, mIf, mAnd, mOr, mNot, eV, eC, R.bind, R.bindS, R.of, List.getElem?_cons_zero, List.getElem?_cons_succ, List.set_cons_zero, List.set_cons_succ, List.length_cons, List.length_nil, Nat.reduceAdd, if_true, Tgt.put, e1, e2, outW, statesS]
theorem runM_ex {t : Tk} {X : D} (r : TkR t X) (o : TkOk t) {x : D} (g : gd x = true) {zs : List D} (h : (alongD t x).1 = .seq true zs) (st : Store) :
    f_runM [.d X, .d x] st = .ex "BadPlan" "fault" (.d (.seq true zs)) st := by
  have e1 := check_along_ok r o g
  rw [h] at e1
  rw [f_runM_eq]
  simp only [m_runM, sSeq, callP1, callP2, callP3, okF_ok, okF_ex, mPure, sAsg, sPar2, sPar3, sIf, sRet, sDrop, sNext, mT, mOp, mUn, mCall, mCons, mNil, mRaw, mIf, mAnd, mOr, mNot, eV, eC, R.bind, R.bindS, R.of, List.getElem?_cons_zero, List.getElem?_cons_succ, List.set_cons_zero, List.set_cons_succ, List.length_cons, List.length_nil, Nat.reduceAdd, if_true, Tgt.put, e1, outW]
end IL

set_option maxHeartbeats 4000007
namespace IL
open PySem PySem.Spec
open PyProof.Rows L2
/-! ### copies, looks for sameness, lists for tuples -/
def nice : Nat → D → Bool
  | 0, _ => false
  | _ + 1, .non => true | _ + 1, .bl _ => true | _ + 1, .int _ => true | _ + 1, .str _ => true
  | k + 1, .seq _ xs => xs.all (nice k) && decide (xs.length ≤ 100)
  | k + 1, .dct kvs => kvs.isEmpty && decide (1 ≤ k)
  | _ + 1, _ => false
theorem nice_seq {k : Nat} {t : Bool} {xs : List D} (h : nice (k + 1) (.seq t xs) = true) : (∀ x ∈ xs, nice k x = true) ∧ xs.length ≤ 100 := by
  simpa [nice] using h
theorem copied_succ (k : Nat) (x : D) : f_L_copied (k + 1) [x] = outP (m_L_copied (f_L_copied k) [some (.d x), none, none, none] []) := rfl
theorem mIs_lt (t : Bool) (xs : List D) {ρ : En} {i : Nat} (st : Store) (e : ρ[i]? = some (some (.d (.seq t xs)))) : mIs [.l, .t] (eV i) ρ st = .ok (.d (.bl true)) st := by
  simp only [mIs, eV, e, R.bind]; rfl
theorem mIs_l (t : Bool) (xs : List D) {ρ : En} {i : Nat} (st : Store) (e : ρ[i]? = some (some (.d (.seq t xs)))) : mIs [.l] (eV i) ρ st = .ok (.d (.bl (!t))) st := by
  simp only [mIs, eV, e, R.bind]; cases t <;> rfl
theorem mIs_t (t : Bool) (xs : List D) {ρ : En} {i : Nat} (st : Store) (e : ρ[i]? = some (some (.d (.seq t xs)))) : mIs [.t] (eV i) ρ st = .ok (.d (.bl t)) st := by
  simp only [mIs, eV, e, R.bind]; cases t <;> rfl
theorem copied_ok : ∀ (k : Nat) (x : D), nice k x = true → f_L_copied k [x] = .ok x
  | 0, _, h => by cases h
  | k + 1, .non, h => rfl
  | k + 1, .bl _, h => rfl
  | k + 1, .int _, h => rfl
  | k + 1, .str _, h => rfl
  | k + 1, .dcT _, h => by cases h
  | k + 1, .scr _, h => by cases h
  | k + 1, .dct kvs, h => by
    cases kvs with
    | nil => rfl
    | cons _ _ => simp [nice] at h
  | k + 1, .seq t xs, h => by
    obtain ⟨h1, h2⟩ := nice_seq h
    have e1 : mLc true (srSeq (eV 0)) (.nm 2) [2] tYesX (mPure (f_L_copied k) 1 (mCons (eV 2) mNil)) [some (.d (.seq t xs)), none, none, none] [] = .ok (.d (.seq false (xs.map fun x => x))) [] := by
      refine mLc_map 2 (t := t) rfl _ (by omega) fun z hz => ?_
      have e := copied_ok k z (h1 z hz)
      simp only [callP1, callP2, callP3, okF_ok, okF_ex, mPure, sAsg, sPar2, sPar3, sIf, sRet, sDrop, sNext, mT, mOp, mUn, mCall, mCons, mNil, mRaw, mIf, mAnd, mOr, mNot, eV, eC, R.bind, R.bindS, R.of, List.getElem?_cons_zero, List.getElem?_cons_succ, List.set_cons_zero, List.set_cons_succ, List.length_cons, List.length_nil, Nat.reduceAdd, if_true, Tgt.put, e]
    rw [List.map_id'] at e1
    have e2 := mIs_lt t xs (ρ := [some (.d (.seq t xs)), none, none, none]) (i := 0) [] rfl
    have e3 := mIs_l t xs (ρ := [some (.d (.seq t xs)), some (.d (.seq false xs)), none, none]) (i := 0) [] rfl
    have e4 : ∀ st, oTuple true [.d (.seq false xs)] st = some (.d (.seq true xs), st) := fun st => mkS_d true xs st
    rw [copied_succ]
    simp only [m_L_copied, sSeq, sIf, mT, e2, R.bind, R.bindS, if_true, sAsg, e1, Tgt.put, List.set_cons_zero, List.set_cons_succ, sRet, mIf, e3]
    cases t with
    | true => simp only [Bool.not_true, Bool.false_eq_true, if_false, mCall, mCons, mNil, eV, List.getElem?_cons_zero, List.getElem?_cons_succ, R.bind, e4, R.of, R.bindS, outP, deepB_d]
    | false => simp only [Bool.not_false, if_true, eV, List.getElem?_cons_zero, List.getElem?_cons_succ, R.bindS, outP, deepB_d]
theorem same_succ (k : Nat) (x y : D) : f_L_same (k + 1) [x, y] = outP (m_L_same (f_L_same k) [some (.d x), some (.d y), none, none] []) := rfl
theorem lcL_zip {ih : List D → Pr} {a b : Option W} {st : Store} : ∀ {xs : List D}, (∀ x ∈ xs, ih [x, x] = .ok (.bl true)) → ∀ c d : Option W, lcL (.tp [.nm 2, .nm 3]) tYesX (mPure ih 2 (mCons (eV 2) (mCons (eV 3) mNil))) [a, b, c, d] (zipD xs xs) st = .ok ((xs.map fun _ => D.bl true).map W.d) st
  | [], _, _, _ => rfl
  | x :: xs, h, c, d => by
    have h1 := h x List.mem_cons_self
    have ih' := lcL_zip (a := a) (b := b) (st := st) (fun z hz => h z (List.mem_cons_of_mem _ hz)) c d
    have ep : Tgt.putI st (.tp [.nm 2, .nm 3]) (.two (.d x) (.d x)) [a, b, c, d] = some [a, b, some (.d x), some (.d x)] := rfl
    have ee : mPure ih 2 (mCons (eV 2) (mCons (eV 3) mNil)) [a, b, some (.d x), some (.d x)] st = .ok (.d (.bl true)) st := by
      simp only [callP1, callP2, callP3, okF_ok, okF_ex, mPure, sAsg, sPar2, sPar3, sIf, sRet, sDrop, sNext, mT, mOp, mUn, mCall, mCons, mNil, mRaw, mIf, mAnd, mOr, mNot, eV, eC, R.bind, R.bindS, R.of, List.getElem?_cons_zero, List.getElem?_cons_succ, List.set_cons_zero, List.set_cons_succ, List.length_cons, List.length_nil, Nat.reduceAdd, if_true, Tgt.put, h1]
    simp only [zipD, lcL, ep, tYesX, noEx, R.bind, if_true, ee, ih', List.map_cons]
theorem same_ok : ∀ (k : Nat) (x : D), nice k x = true → f_L_same k [x, x] = .ok (.bl true)
  | 0, _, h => by cases h
  | k + 1, .non, h => rfl
  | k + 1, .bl b, h => by cases b <;> rfl
  | k + 1, .dcT _, h => by cases h
  | k + 1, .scr _, h => by cases h
  | k + 1, .int i, h => by
    have e : ∀ st, oEq (.d (.int i)) (.d (.int i)) st = some (.d (.bl true), st) := fun st => by rw [eq_int]; simp
    have e2 : m_L_same (f_L_same k) [some (.d (.int i)), some (.d (.int i)), none, none] [] = sRet (mAndV (mNotV (mIs [.l, .t, .d] (eV 0))) (mOp oEq (eV 0) (eV 1))) [some (.d (.int i)), some (.d (.int i)), none, none] [] := rfl
    have e3 : mNotV (mIs [.l, .t, .d] (eV 0)) [some (.d (.int i)), some (.d (.int i)), none, none] [] = .ok (.d (.bl true)) [] := rfl
    rw [same_succ, e2]
    simp only [sRet, mAndV, e3, R.bind, if_true, mOp, eV, List.getElem?_cons_zero, List.getElem?_cons_succ, e, R.of, R.bindS, outP, deepB_d]
  | k + 1, .str i, h => by
    have e : ∀ st, oEq (.d (.str i)) (.d (.str i)) st = some (.d (.bl true), st) := fun st => by rw [eq_str]; simp
    have e2 : m_L_same (f_L_same k) [some (.d (.str i)), some (.d (.str i)), none, none] [] = sRet (mAndV (mNotV (mIs [.l, .t, .d] (eV 0))) (mOp oEq (eV 0) (eV 1))) [some (.d (.str i)), some (.d (.str i)), none, none] [] := rfl
    have e3 : mNotV (mIs [.l, .t, .d] (eV 0)) [some (.d (.str i)), some (.d (.str i)), none, none] [] = .ok (.d (.bl true)) [] := rfl
    rw [same_succ, e2]
    simp only [sRet, mAndV, e3, R.bind, if_true, mOp, eV, List.getElem?_cons_zero, List.getElem?_cons_succ, e, R.of, R.bindS, outP, deepB_d]
  | k + 1, .dct kvs, h => by
    cases kvs with
    | cons _ _ => simp [nice] at h
    | nil =>
      have hk : nice k (.seq false []) = true := by
        cases k with
        | zero => simp [nice] at h
        | succ k => rfl
      have e := same_ok k _ hk
      have c1 : mT (mIs [.l, .t] (eV 1)) [some (.d (.dct [])), some (.d (.dct [])), none, none] [] = .ok false [] := rfl
      have c2 : mT (mIs [.d] (eV 1)) [some (.d (.dct [])), some (.d (.dct [])), none, none] [] = .ok true [] := rfl
      have c3 : mIs [.d] (eV 0) [some (.d (.dct [])), some (.d (.dct [])), none, none] [] = .ok (.d (.bl true)) [] := rfl
      have c4 : mPure (f_L_same k) 2 (mCons (mUn oItm (eV 0)) (mCons (mUn oItm (eV 1)) mNil)) [some (.d (.dct [])), some (.d (.dct [])), none, none] [] = .ok (.d (.bl true)) [] := by
        show callP (f_L_same k) 2 [.d (.seq false []), .d (.seq false [])] [] = _
        rw [callP2, e]; rfl
      rw [same_succ]
      simp only [m_L_same, sSeq, sIf, c1, c2, R.bindS, Bool.false_eq_true, if_false, if_true, sNext, sRet, mAndV, c3, R.bind, c4, outP, deepB_d]
  | k + 1, .seq t xs, h => by
    obtain ⟨h1, h2⟩ := nice_seq h
    have l1 := mIs_l t xs (ρ := [some (.d (.seq t xs)), some (.d (.seq t xs)), none, none]) (i := 0) [] rfl
    have l2 := mIs_l t xs (ρ := [some (.d (.seq t xs)), some (.d (.seq t xs)), none, none]) (i := 1) [] rfl
    have t1 := mIs_t t xs (ρ := [some (.d (.seq t xs)), some (.d (.seq t xs)), none, none]) (i := 0) [] rfl
    have t2 := mIs_t t xs (ρ := [some (.d (.seq t xs)), some (.d (.seq t xs)), none, none]) (i := 1) [] rfl
    have lt := mIs_lt t xs (ρ := [some (.d (.seq t xs)), some (.d (.seq t xs)), none, none]) (i := 1) [] rfl
    have nb : ∀ (b : Bool) (st : Store), oNe (.d (.bl b)) (.d (.bl b)) st = some (.d (.bl false), st) := fun b st => by cases b <;> rfl
    have lz := lcL_zip (ih := f_L_same k) (a := some (.d (.seq t xs))) (b := some (.d (.seq t xs))) (st := []) (fun z hz => same_ok k z (h1 z hz)) none none
    have sl1 : ((xs.map fun _ => D.bl true).map W.d).length ≤ sizeLine := small_of (by simpa using Nat.le_trans h2 (by decide))
    have eq : ∀ st, sqOf st (.d (.seq t xs)) = .dat t xs := fun st => rfl
    have em : mLc true (srZip (mCons (eV 0) (mCons (eV 1) mNil))) (.tp [(.nm 2), (.nm 3)]) [2, 3] tYesX (mPure (f_L_same k) 2 (mCons (eV 2) (mCons (eV 3) mNil))) [some (.d (.seq t xs)), some (.d (.seq t xs)), none, none] [] = .ok (.d (.seq false (xs.map fun _ => .bl true))) [] := by
      simp only [mLc, srZip, mCons, mNil, eV, List.getElem?_cons_zero, List.getElem?_cons_succ, R.bind, eq, beq_self_eq_true, if_true, lcS, wipeE, List.set_cons_zero, List.set_cons_succ]
      have lz' : lcL (.tp [.nm 2, .nm 3]) tYesX (mPure (f_L_same k) 2 (mCons (eV 2) (mCons (eV 3) mNil))) [some (.d (.seq t xs)), some (.d (.seq t xs)), none, none] (zipD xs xs) [] = _ := lz
      rw [lz']
      simp only [R.bind, sl1, if_true, mkS_d, R.of]
    have ea := mAll_ok xs (fun _ => true) em
    have e1 : mT (mIs [.l, .t] (eV 1)) [some (.d (.seq t xs)), some (.d (.seq t xs)), none, none] [] = .ok true [] := by
      simp only [mT, lt, R.bind]
    have e2 : mT (mOp oNe (mIs [.l] (eV 0)) (mIs [.l] (eV 1))) [some (.d (.seq t xs)), some (.d (.seq t xs)), none, none] [] = .ok false [] := by
      simp only [mT, mOp, l1, l2, R.bind, nb, R.of]
    have e3 : mT (mOp oNe (mIs [.t] (eV 0)) (mIs [.t] (eV 1))) [some (.d (.seq t xs)), some (.d (.seq t xs)), none, none] [] = .ok false [] := by
      simp only [mT, mOp, t1, t2, R.bind, nb, R.of]
    have e4 : mOp oEq (mCall oLen (mCons (eV 0) mNil)) (mCall oLen (mCons (eV 1) mNil)) [some (.d (.seq t xs)), some (.d (.seq t xs)), none, none] [] = .ok (.d (.bl true)) [] := by
      simp only [callP1, callP2, callP3, okF_ok, okF_ex, mPure, sAsg, sPar2, sPar3, sIf, sRet, sDrop, sNext, mT, mOp, mUn, mCall, mCons, mNil, mRaw, mIf, mAnd, mOr, mNot, eV, eC, R.bind, R.bindS, R.of, List.getElem?_cons_zero, List.getElem?_cons_succ, List.set_cons_zero, List.set_cons_succ, List.length_cons, List.length_nil, Nat.reduceAdd, if_true, Tgt.put, len_seq, eq_int, decide_true]
    have all1 : xs.all (fun _ => true) = true := by simp
    rw [all1] at ea
    have eo := mOr_ok e2 e3
    rw [same_succ]
    simp only [m_L_same, sSeq, sIf, e1, R.bindS, if_true, eo, Bool.or_self, Bool.false_eq_true, if_false, sNext, sRet, mAndV, e4, R.bind, ea, outP, deepB_d]
end IL

set_option maxHeartbeats 4000007
namespace IL
open PySem PySem.Spec
open PyProof.Rows L2
inductive Lk : D → D → Prop
  | non : Lk .non .non
  | bl (b : Bool) : Lk (.bl b) (.bl b)
  | int (i : Int) : Lk (.int i) (.int i)
  | str (x : Str) : Lk (.str x) (.str x)
  | seq (t t' : Bool) {xs ys : List D} (h : Paired Lk xs ys) : Lk (.seq t xs) (.seq t' ys)
/-- how many lists are within -/
def cnt : Nat → D → Nat
  | k + 1, .seq _ xs => 1 + (xs.map (cnt k)).sum
  | _, _ => 0
/-- no dicts -/
def nod : Nat → D → Bool
  | 0, _ => false
  | k + 1, .seq _ xs => xs.all (nod k) && decide (xs.length ≤ 100)
  | _ + 1, .non => true | _ + 1, .bl _ => true | _ + 1, .int _ => true | _ + 1, .str _ => true
  | _ + 1, _ => false
theorem loose_succ (k : Nat) (a b : W) (st : Store) : f_L_loose (k + 1) [a, b] st = outW (m_L_loose (f_L_loose k) [some a, some b, none, none] st) := rfl
theorem lcL_loose {T : List (Addr × Str)} {ih : FnW} {rest : Store} {k : Nat} {x : D} {v2 v3 : Option W}
    (hih : ∀ (z : D) (n : Nat) (h : Store), Hd T n h → n + cnt k z ≤ 2 ^ 43 → nod k z = true → ∃ (z' : D) (h' : Store), ih [.loc 2, .d z] (h ++ rest) = .ok (.d z') (h' ++ rest) ∧ Lk z z' ∧ Hd T (n + cnt k z) h') :
    ∀ (xs : List D) (n : Nat) (h : Store), Hd T n h → n + (xs.map (cnt k)).sum ≤ 2 ^ 43 → (∀ z ∈ xs, nod k z = true) → ∃ (ys : List D) (h' : Store), lcL (.nm 3) tYesX (mRaw ih 2 (mCons (eV 0) (mCons (eV 3) mNil))) [some (.loc 2), some (.d x), v2, v3] (xs.map one) (h ++ rest) = .ok (ys.map W.d) (h' ++ rest) ∧ Paired Lk xs ys ∧ Hd T (n + (xs.map (cnt k)).sum) h'
  | [], n, h, H, _, _ => ⟨[], h, rfl, .nil, H⟩
  | z :: xs, n, h, H, hn, hz => by
    simp only [List.map_cons, List.sum_cons] at hn
    obtain ⟨z', h1, e1, r1, H1⟩ := hih z n h H (by omega) (hz z List.mem_cons_self)
    obtain ⟨ys, h2, e2, r2, H2⟩ := lcL_loose (x := x) (v2 := v2) (v3 := v3) hih xs _ h1 H1 (by omega) (fun w hw => hz w (List.mem_cons_of_mem _ hw))
    refine ⟨z' :: ys, h2, ?_, .cons r1 r2, H2.mono (by simp only [List.map_cons, List.sum_cons]; omega)⟩
    have ep : Tgt.putI (h ++ rest) (.nm 3) (one z) [some (.loc 2), some (.d x), v2, v3] = some [some (.loc 2), some (.d x), v2, some (.d z)] := rfl
    have ee : mRaw ih 2 (mCons (eV 0) (mCons (eV 3) mNil)) [some (.loc 2), some (.d x), v2, some (.d z)] (h ++ rest) = .ok (.d z') (h1 ++ rest) := by
      simp only [callP1, callP2, callP3, okF_ok, okF_ex, mPure, sAsg, sPar2, sPar3, sIf, sRet, sDrop, sNext, mT, mOp, mUn, mCall, mCons, mNil, mRaw, mIf, mAnd, mOr, mNot, eV, eC, R.bind, R.bindS, R.of, List.getElem?_cons_zero, List.getElem?_cons_succ, List.set_cons_zero, List.set_cons_succ, List.length_cons, List.length_nil, Nat.reduceAdd, if_true, Tgt.put, e1]
    simp only [List.map_cons, lcL, ep, tYesX, noEx, R.bind, if_true, ee, e2]
theorem loose_ok {T : List (Addr × Str)} {rest : Store} : ∀ (k : Nat) (x : D) (n : Nat) (h : Store), Hd T n h → n + cnt k x ≤ 2 ^ 43 → nod k x = true →
    ∃ (x' : D) (h' : Store), f_L_loose k [.loc 2, .d x] (h ++ rest) = .ok (.d x') (h' ++ rest) ∧ Lk x x' ∧ Hd T (n + cnt k x) h'
  | 0, _, _, _, _, _, q => by cases q
  | k + 1, .non, n, h, H, _, _ => ⟨.non, h, rfl, .non, H⟩
  | k + 1, .bl b, n, h, H, _, _ => ⟨.bl b, h, rfl, .bl b, H⟩
  | k + 1, .int b, n, h, H, _, _ => ⟨.int b, h, rfl, .int b, H⟩
  | k + 1, .str b, n, h, H, _, _ => ⟨.str b, h, rfl, .str b, H⟩
  | k + 1, .dct _, _, _, _, _, q => by cases q
  | k + 1, .dcT _, _, _, _, _, q => by cases q
  | k + 1, .scr _, _, _, _, _, q => by cases q
  | k + 1, .seq t xs, n, h, H, hn, q => by
    have q' : (∀ z ∈ xs, nod k z = true) ∧ xs.length ≤ 100 := by simpa [nod] using q
    simp only [cnt] at hn
    obtain ⟨ys, h1, e1, r1, H1⟩ := lcL_loose (T := T) (ih := f_L_loose k) (rest := rest) (k := k) (x := .seq t xs) (v2 := none) (v3 := none) (fun z n h H hn hz => loose_ok k z n h H hn hz) xs n h H (by omega) q'.1
    obtain ⟨j, h2, e2, _, _, H2⟩ := draw_ok H1 rest 2 (by decide) (by decide) (by omega)
    have hl : ys.length = xs.length := (pair_len r1).symm
    have sl1 : (ys.map W.d).length ≤ sizeLine := small_of (by rw [List.length_map]; omega)
    have eq : ∀ st, sqOf st (.d (.seq t xs)) = .dat t xs := fun st => rfl
    have em : mLc true (srSeq (eV 1)) (.nm 3) [3] tYesX (mRaw (f_L_loose k) 2 (mCons (eV 0) (mCons (eV 3) mNil))) [some (.loc 2), some (.d (.seq t xs)), none, none] (h ++ rest) = .ok (.d (.seq false ys)) (h1 ++ rest) := by
      simp only [mLc, srSeq, eV, List.getElem?_cons_zero, List.getElem?_cons_succ, R.bind, eq, lcS, wipeE, List.set_cons_zero, List.set_cons_succ]
      rw [e1]
      simp only [R.bind, sl1, if_true, mkS_d, R.of]
    have ei := mIs_lt t xs (ρ := [some (.loc 2), some (.d (.seq t xs)), none, none]) (i := 1) (h ++ rest) rfl
    have e4 : ∀ st, oTuple true [.d (.seq false ys)] st = some (.d (.seq true ys), st) := fun st => mkS_d true ys st
    rw [loose_succ]
    simp only [m_L_loose, sSeq, sIf, mT, ei, R.bind, R.bindS, if_true, sAsg, em, Tgt.put, List.set_cons_zero, List.set_cons_succ]
    by_cases hj : j = 0
    · refine ⟨.seq false ys, h2, ?_, .seq t false r1, H2.mono (by simp only [cnt]; omega)⟩
      simp only [callP1, callP2, callP3, okF_ok, okF_ex, mPure, sAsg, sPar2, sPar3, sIf, sRet, sDrop, sNext, mT, mOp, mUn, mCall, mCons, mNil, mRaw, mIf, mAnd, mOr, mNot, eV, eC, R.bind, R.bindS, R.of, List.getElem?_cons_zero, List.getElem?_cons_succ, List.set_cons_zero, List.set_cons_succ, List.length_cons, List.length_nil, Nat.reduceAdd, if_true, Tgt.put, e2, eq_int, hj, decide_true, outW]
    · refine ⟨.seq true ys, h2, ?_, .seq t true r1, H2.mono (by simp only [cnt]; omega)⟩
      simp only [callP1, callP2, callP3, okF_ok, okF_ex, mPure, sAsg, sPar2, sPar3, sIf, sRet, sDrop, sNext, mT, mOp, mUn, mCall, mCons, mNil, mRaw, mIf, mAnd, mOr, mNot, eV, eC, R.bind, R.bindS, R.of, List.getElem?_cons_zero, List.getElem?_cons_succ, List.set_cons_zero, List.set_cons_succ, List.length_cons, List.length_nil, Nat.reduceAdd, if_true, Tgt.put, e2, eq_int, hj, decide_false, Bool.false_eq_true, if_false, e4, outW]
/-! ### tasks in any form -/
theorem Lk_txs {t : Bool} {l : List Str} {y : D} (h : Lk (txs t l) y) : ∃ t', y = txs t' l := by
  cases h with
  | seq _ t' h =>
    refine ⟨t', ?_⟩
    congr 1
    rename_i ys
    clear t
    induction l generalizing ys with
    | nil => cases h; rfl
    | cons x l ih =>
      cases h with
      | cons r1 r2 => cases r1; rw [ih r2]; rfl
theorem Lk_seq {t : Bool} {xs : List D} {y : D} (h : Lk (.seq t xs) y) : ∃ t' ys, y = .seq t' ys ∧ Paired Lk xs ys := by
  cases h with
  | seq _ t' h => exact ⟨t', _, rfl, h⟩
theorem Lk_str {x : Str} {y : D} (h : Lk (.str x) y) : y = .str x := by cases h; rfl
theorem Lk_int {x : Int} {y : D} (h : Lk (.int x) y) : y = .int x := by cases h; rfl
theorem DdR_loose {d : Dd} {y y' : D} (r : DdR d y) (h : Lk y y') : DdR d y' := by
  obtain ⟨f, a, b, c, rfl⟩ := r
  obtain ⟨f', ys, rfl, p⟩ := Lk_seq h
  cases p with
  | cons r1 p =>
    cases p with
    | cons r2 p =>
      cases p with
      | cons r3 p =>
        cases p with
        | cons r4 p =>
          cases p with
          | cons r5 p =>
            cases p
            obtain ⟨a', rfl⟩ := Lk_txs r2
            obtain ⟨b', rfl⟩ := Lk_txs r3
            obtain ⟨c', rfl⟩ := Lk_txs r4
            rw [Lk_str r1, Lk_int r5]
            exact ⟨f', a', b', c', rfl⟩
theorem pair_comp {α β : Type} {R : α → β → Prop} {S : β → β → Prop} (f : ∀ a b c, R a b → S b c → R a c) : ∀ {as : List α} {bs cs : List β}, Paired R as bs → Paired S bs cs → Paired R as cs
  | _, _, _, .nil, .nil => .nil
  | _, _, _, .cons r p, .cons s q => .cons (f _ _ _ r s) (pair_comp f p q)
theorem TkR_loose {t : Tk} {x x' : D} (r : TkR t x) (h : Lk x x') : TkR t x' := by
  obtain ⟨f, a, b, ys, c, e, rfl, pp⟩ := r
  obtain ⟨f', zs, rfl, p⟩ := Lk_seq h
  cases p with
  | cons r1 p =>
    cases p with
    | cons r2 p =>
      cases p with
      | cons r3 p =>
        cases p with
        | cons r4 p =>
          cases p
          obtain ⟨a', rfl⟩ := Lk_txs r1
          obtain ⟨b', ys', rfl, p2⟩ := Lk_seq r2
          obtain ⟨c', rfl⟩ := Lk_txs r3
          obtain ⟨e', rfl⟩ := Lk_txs r4
          exact ⟨f', a', b', ys', c', e', rfl, pair_comp (R := DdR) (S := Lk) (fun _ _ _ q1 q2 => DdR_loose q1 q2) pp p2⟩
theorem cnt_txs (k : Nat) (t : Bool) (l : List Str) : cnt k (txs t l) ≤ 1 := by
  cases k with
  | zero => exact Nat.zero_le _
  | succ k =>
    have : ((l.map D.str).map (cnt k)).sum = 0 := by
      induction l with
      | nil => rfl
      | cons x l ih =>
        have : cnt k (.str x) = 0 := by cases k <;> rfl
        simp only [List.map_cons, List.sum_cons, this, ih]
    simp only [cnt, this]; omega
theorem cnt_int (k : Nat) (i : Int) : cnt k (.int i) = 0 := by cases k <;> rfl
theorem cnt_str (k : Nat) (i : Str) : cnt k (.str i) = 0 := by cases k <;> rfl
theorem cnt_dd (k : Nat) {d : Dd} {y : D} (r : DdR d y) : cnt k y ≤ 4 := by
  obtain ⟨f, a, b, c, rfl⟩ := r
  cases k with
  | zero => exact Nat.zero_le _
  | succ k =>
    have h1 := cnt_txs k a d.nd
    have h2 := cnt_txs k b d.pt
    have h3 := cnt_txs k c d.tk
    simp only [cnt, List.map_cons, List.map_nil, List.sum_cons, List.sum_nil, cnt_int, cnt_str]
    omega
theorem cnt_dds (k : Nat) {ds : List Dd} {ys : List D} (p : Paired DdR ds ys) : (ys.map (cnt k)).sum ≤ 4 * ds.length := by
  induction p with
  | nil => exact Nat.zero_le _
  | cons r _ ih =>
    have := cnt_dd k r
    simp only [List.map_cons, List.sum_cons, List.length_cons]; omega
theorem cnt_tk {t : Tk} {x : D} (r : TkR t x) (o : TkOk t) (k : Nat) : cnt k x ≤ 40 := by
  obtain ⟨f, a, b, ys, c, e, rfl, p⟩ := r
  have l := o.len
  cases k with
  | zero => exact Nat.zero_le _
  | succ k =>
    have h1 := cnt_txs k a t.fs
    have h2 := cnt_txs k c t.s
    have h3 := cnt_txs k e t.g
    have h4 : cnt k (.seq b ys) ≤ 33 := by
      cases k with
      | zero => exact Nat.zero_le _
      | succ k => have := cnt_dds k p; simp only [cnt]; omega
    simp only [cnt, List.map_cons, List.map_nil, List.sum_cons, List.sum_nil]
    omega
theorem nod_txs (k : Nat) (t : Bool) {l : List Str} (h : l.length ≤ 100) : nod (k + 2) (txs t l) = true := by
  simp [nod, h]
theorem nod_dd (k : Nat) {fs : List Str} (hf : fs.Sublist names7) {d : Dd} {y : D} (r : DdR d y) (o : DdOk fs d) : nod (k + 3) y = true := by
  obtain ⟨f, a, b, c, rfl⟩ := r
  have h1 := nod_txs k a (l := d.nd) (by have := sub7 (o.nd.trans hf); omega)
  have h2 := nod_txs k b (l := d.pt) (by have := sub7 (o.pt.trans hf); omega)
  have h3 := nod_txs k c (l := d.tk) (by have := sub7 (o.tk.trans hf); omega)
  rw [nod]
  simp only [List.all_cons, List.all_nil, h1, h2, h3, Bool.and_eq_true, decide_eq_true_eq]
  simp [nod]
theorem nod_tk {t : Tk} {x : D} (r : TkR t x) (o : TkOk t) (k : Nat) : nod (k + 5) x = true := by
  obtain ⟨f, a, b, ys, c, e, rfl, p⟩ := r
  have h1 := nod_txs (k + 2) a (l := t.fs) (by have := sub7 o.fs; omega)
  have h2 := nod_txs (k + 2) c (l := t.s) (by have := sub7 (o.s.trans o.fs); omega)
  have h3 := nod_txs (k + 2) e (l := t.g) (by have := sub7 (o.g.trans o.fs); omega)
  have hl : ys.length ≤ 100 := by have := pair_len p; have := o.len; omega
  have h5 : ys.all (nod (k + 3)) = true := by
    rw [List.all_eq_true]
    have hd := o.ds
    clear h1 h2 h3 hl
    intro y hy
    obtain ⟨i, hi, e⟩ := List.getElem_of_mem hy
    have hi2 : i < t.ds.length := by rw [pair_len p]; exact hi
    obtain ⟨y', hy', r⟩ := pair_at p (List.getElem?_eq_getElem hi2)
    rw [List.getElem?_eq_getElem hi, Option.some.injEq, e] at hy'
    subst hy'
    exact nod_dd k o.fs r (hd _ (List.getElem_mem hi2))
  have h4 : nod (k + 4) (.seq b ys) = true := by
    rw [nod]; simp only [h5, hl, decide_true, Bool.and_self]
  rw [nod]
  simp only [List.all_cons, List.all_nil, h1, h2, h3, h4, Bool.and_eq_true, decide_eq_true_eq]
  simp
theorem nod_nice : ∀ (k : Nat) (x : D), nod k x = true → nice k x = true
  | 0, _, h => by cases h
  | k + 1, .seq t xs, h => by
    have q' : (∀ z ∈ xs, nod k z = true) ∧ xs.length ≤ 100 := by simpa [nod] using h
    rw [nice, Bool.and_eq_true, List.all_eq_true]
    exact ⟨fun z hz => nod_nice k z (q'.1 z hz), by simpa using q'.2⟩
  | k + 1, .non, h => rfl
  | k + 1, .bl b, h => rfl
  | k + 1, .int b, h => rfl
  | k + 1, .str b, h => rfl
  | k + 1, .dct _, h => by cases h
  | k + 1, .dcT _, h => by cases h
  | k + 1, .scr _, h => by cases h
theorem copied_tk {t : Tk} {x : D} (r : TkR t x) (o : TkOk t) : f_L_copied 8 [x] = .ok x := copied_ok 8 x (nod_nice 8 x (nod_tk r o 3))
theorem f_L_handed_eq (a b : W) (st : Store) : f_L_handed [a, b] st = outW (m_L_handed [some a, some b] st) := rfl
theorem handed_ok {T : List (Addr × Str)} {n : Nat} {h : Store} (H : Hd T n h) (rest : Store) {t : Tk} {x : D} (r : TkR t x) (o : TkOk t) (hn : n + 100 ≤ 2 ^ 43) :
    ∃ (x' : D) (h' : Store), f_L_handed [.loc 2, .d x] (h ++ rest) = .ok (.d x') (h' ++ rest) ∧ TkR t x' ∧ Hd T (n + 40) h' := by
  have hc := cnt_tk r o 8
  obtain ⟨x', h', e, l, H'⟩ := loose_ok (T := T) (rest := rest) 8 x n h H (by omega) (nod_tk r o 3)
  refine ⟨x', h', ?_, TkR_loose r l, H'.mono (by omega)⟩
  have e2 := copied_tk r o
  rw [f_L_handed_eq]
  simp only [m_L_handed, callP1, callP2, callP3, okF_ok, okF_ex, mPure, sAsg, sPar2, sPar3, sIf, sRet, sDrop, sNext, mT, mOp, mUn, mCall, mCons, mNil, mRaw, mIf, mAnd, mOr, mNot, eV, eC, R.bind, R.bindS, R.of, List.getElem?_cons_zero, List.getElem?_cons_succ, List.set_cons_zero, List.set_cons_succ, List.length_cons, List.length_nil, Nat.reduceAdd, if_true, Tgt.put, e2, e, outW]
end IL

set_option maxHeartbeats 4000007
namespace IL
open PySem PySem.Spec
open PyProof.Rows L2
/-! ### open deeds, the drawn row -/
def ni (ks : List Nat) : List D := ks.map fun k : Nat => D.int (k : Int)
def inS (s : List Str) (x : D) : Bool := match x with
  | .str z => decide (z ∈ s)
  | _ => false
theorem inS_all (s nd : List Str) : (nd.map D.str).all (inS s) = (lackOf nd s).isNone := by
  induction nd with
  | nil => rfl
  | cons y nd ih =>
    simp only [List.map_cons, List.all_cons, ih, inS, lackOf, List.find?_cons]
    by_cases hy : y ∈ s
    · simp [hy]
    · simp [hy]
def lo_test : Tx := (mT (mCall oAll (mCons (mLc true (srSeq (mOp oIx (eV 3) (eC (.int 1)))) (.nm 4) [4] tYesX (mOp (oIn false) (eV 4) (eV 1))) mNil)))
theorem lcL_open {X : D} {u : Bool} {s : List Str} : ∀ {ds : List Dd} {ys : List D} (i : Nat) (v2 v3 v4 : Option W), Paired DdR ds ys → (∀ d ∈ ds, d.nd.length ≤ 100) →
    ∃ ks : List Nat, lcL (.tp [.nm 2, .nm 3]) lo_test (eV 2) [some (.d X), some (.d (txs u s)), v2, v3, v4] (enumD i ys) [] = .ok ((ni ks).map .d) [] ∧ ks.length ≤ ds.length ∧ ∀ k ∈ ks, ∃ j d, k = i + j ∧ ds[j]? = some d ∧ lackOf d.nd s = none
  | _, _, i, v2, v3, v4, .nil, _ => ⟨[], rfl, Nat.le_refl _, by simp⟩
  | d :: ds, y :: ys, i, v2, v3, v4, .cons r p, hl => by
    obtain ⟨ks, e1, l1, q1⟩ := lcL_open (X := X) (u := u) (s := s) (i + 1) v2 v3 v4 p (fun z hz => hl z (List.mem_cons_of_mem _ hz))
    have ep : Tgt.putI [] (.tp [.nm 2, .nm 3]) (.two (.d (.int i)) (.d y)) [some (.d X), some (.d (txs u s)), v2, v3, v4] = some [some (.d X), some (.d (txs u s)), some (.d (.int i)), some (.d y), v4] := rfl
    obtain ⟨a', hnd⟩ : ∃ a', ∀ st : Store, oIx (.d y) (.d (.int 1)) st = some (.d (txs a' d.nd), st) := by
      obtain ⟨f, a, b, c, rfl⟩ := r
      exact ⟨a, fun st => rfl⟩
    have em : mLc true (srSeq (mOp oIx (eV 3) (eC (.int 1)))) (.nm 4) [4] tYesX (mOp (oIn false) (eV 4) (eV 1)) [some (.d X), some (.d (txs u s)), some (.d (.int i)), some (.d y), v4] [] = .ok (.d (.seq false ((d.nd.map D.str).map fun x => .bl (inS s x)))) [] := by
      refine mLc_map 4 (t := a') (by simp only [callP1, callP2, callP3, okF_ok, okF_ex, mPure, sAsg, sPar2, sPar3, sIf, sRet, sDrop, sNext, mT, mOp, mUn, mCall, mCons, mNil, mRaw, mIf, mAnd, mOr, mNot, eV, eC, R.bind, R.bindS, R.of, List.getElem?_cons_zero, List.getElem?_cons_succ, List.set_cons_zero, List.set_cons_succ, List.length_cons, List.length_nil, Nat.reduceAdd, if_true, Tgt.put, hnd]) _ (by rw [List.length_map]; have := hl d List.mem_cons_self; omega) fun x hx => ?_
      obtain ⟨z, hz, rfl⟩ := List.mem_map.mp hx
      simp only [callP1, callP2, callP3, okF_ok, okF_ex, mPure, sAsg, sPar2, sPar3, sIf, sRet, sDrop, sNext, mT, mOp, mUn, mCall, mCons, mNil, mRaw, mIf, mAnd, mOr, mNot, eV, eC, R.bind, R.bindS, R.of, List.getElem?_cons_zero, List.getElem?_cons_succ, List.set_cons_zero, List.set_cons_succ, List.length_cons, List.length_nil, Nat.reduceAdd, if_true, Tgt.put, in_strs, inS]
    have ea := mAll_ok _ _ em
    rw [inS_all] at ea
    have et : lo_test [some (.d X), some (.d (txs u s)), some (.d (.int i)), some (.d y), v4] [] = .ok (lackOf d.nd s).isNone [] := by
      simp only [lo_test, mT, ea, R.bind]
    cases hk : lackOf d.nd s with
    | some g =>
      rw [hk] at et
      refine ⟨ks, ?_, by simp only [List.length_cons]; omega, fun k hk => ?_⟩
      · simp only [enumD, lcL, ep, et, noEx, R.bind, Option.isNone_some, Bool.false_eq_true, if_false, e1]
      · obtain ⟨j, d', h1, h2, h3⟩ := q1 k hk
        exact ⟨j + 1, d', by omega, by simpa using h2, h3⟩
    | none =>
      rw [hk] at et
      refine ⟨i :: ks, ?_, by simp only [List.length_cons]; omega, fun k hk' => ?_⟩
      · simp only [enumD, lcL, ep, et, noEx, R.bind, Option.isNone_none, if_true, eV, List.getElem?_cons_zero, List.getElem?_cons_succ, e1, ni, List.map_cons]
      · rcases List.mem_cons.mp hk' with rfl | hk'
        · exact ⟨0, d, by omega, rfl, hk⟩
        · obtain ⟨j, d', h1, h2, h3⟩ := q1 k hk'
          exact ⟨j + 1, d', by omega, by simpa using h2, h3⟩
theorem f_L_open_eq (a b : D) : f_L_open [a, b] = outP (m_L_open [some (.d a), some (.d b), none, none, none] []) := rfl
theorem open_ok {t : Tk} {X : D} (r : TkR t X) (o : TkOk t) (u : Bool) (s : List Str) : ∃ ks : List Nat, f_L_open [X, txs u s] = .ok (.seq false (ni ks)) ∧ ks.length ≤ 8 ∧ ∀ k ∈ ks, ∃ d, t.ds[k]? = some d ∧ lackOf d.nd s = none := by
  obtain ⟨f, a, b, ys, c, e, rfl, p⟩ := r
  have i1 : ∀ st : Store, oIx (.d (.seq f [txs a t.fs, .seq b ys, txs c t.s, txs e t.g])) (.d (.int 1)) st = some (.d (.seq b ys), st) := fun st => rfl
  generalize hX : D.seq f [txs a t.fs, .seq b ys, txs c t.s, txs e t.g] = X at *
  obtain ⟨ks, e1, l1, q1⟩ := lcL_open (X := X) (u := u) (s := s) 0 none none none p (fun d hd => by have := sub7 ((o.ds d hd).nd.trans o.fs); omega)
  have l2 := o.len
  refine ⟨ks, ?_, by omega, fun k hk => ?_⟩
  · have es : sqOf [] (.d (.seq b ys)) = .dat b ys := rfl
    have sl1 : ((ni ks).map W.d).length ≤ sizeLine := small_of (by simp only [ni, List.length_map]; omega)
    have em : mLc true (srEnum (mOp oIx (eV 0) (eC (.int 1)))) (.tp [(.nm 2), (.nm 3)]) [2, 3] lo_test (eV 2) [some (.d X), some (.d (txs u s)), none, none, none] [] = .ok (.d (.seq false (ni ks))) [] := by
      simp only [mLc, srEnum, mOp, eV, eC, List.getElem?_cons_zero, List.getElem?_cons_succ, R.bind, i1, R.of, es, lcS, wipeE, List.set_cons_zero, List.set_cons_succ]
      rw [e1]
      simp only [R.bind, sl1, if_true, mkS_d, R.of]
    rw [f_L_open_eq]
    show outP (sRet (mLc true (srEnum (mOp oIx (eV 0) (eC (.int 1)))) (.tp [(.nm 2), (.nm 3)]) [2, 3] lo_test (eV 2)) _ _) = _
    simp only [sRet, em, R.bindS, outP, deepB_d]
  · obtain ⟨j, d, h1, h2, h3⟩ := q1 k hk
    have : k = j := by omega
    subst this
    exact ⟨d, h2, h3⟩
theorem alongR_snoc (t : Tk) {k : Nat} {d : Dd} {cur : List Str} (hd : t.ds[k]? = some d) (hl : lackOf d.nd cur = none) : ∀ (ks : List Nat) (i : Nat) (s : List Str), alongR t i ks s = (.non, txs false cur) → alongR t i (ks ++ [k]) s = (.non, txs false (afterOf t.fs d cur))
  | [], i, s, h => by
    have e : s = cur := by
      have := congrArg (fun p => unS p.2) h
      simp only [alongR, unS_txs] at this
      exact this
    subst e
    simp only [List.nil_append, alongR, hd, hl]
  | z :: ks, i, s, h => by
    simp only [List.cons_append, alongR] at h ⊢
    cases hz : t.ds[z]? with
    | none => rw [hz] at h; cases h
    | some dz =>
      rw [hz] at h
      simp only at h ⊢
      cases hlz : lackOf dz.nd s with
      | some g => rw [hlz] at h; cases h
      | none =>
        rw [hlz] at h
        exact alongR_snoc t hd hl ks (i + 1) _ h
theorem atI_last {α : Type} (xs : List α) (x : α) : L2.atI (xs ++ [x]) (-1) = some x := by
  have h1 : L2.ixN (xs ++ [x]).length (-1) = some xs.length := by
    simp only [L2.ixN, List.length_append, List.length_cons, List.length_nil]
    rw [if_neg (by omega), if_pos (by omega)]
    congr 1; omega
  simp only [L2.atI, h1, Option.bind_some]
  simp
theorem ne_ni (ks : List Nat) (st : Store) : oNe (.d (.seq false (ni ks))) (.d (.seq false [])) st = some (.d (.bl (!ks.isEmpty)), st) := by
  have e : ni ks = (ks.map fun k : Nat => (k : Int)).map D.int := by simp only [ni, List.map_map]; rfl
  have p1 := ints_plD false (ks.map fun k : Nat => (k : Int))
  have p2 := ints_plD false []
  simp only [List.map_nil] at p2
  rw [e]
  simp only [oCmp, wD, plD2, p1, p2, Bool.and_self, if_true]
  cases ks with
  | nil => simp [eqD_nil2]
  | cons k ks => simp [eqD_nil]
def dr_body : Sx := (sSeq (sAsg (.nm 5) (mPure f_L_open 2 (mCons (eV 1) (mCons (eV 3) mNil))))
  (sIf (mT (mOp oNe (eV 5) (mSeq true false mNil))) (sSeq (sDrop (mMeth oAppend (eV 2) (mCons (mRaw f_L_pick 2 (mCons (eV 0) (mCons (eV 5) mNil))) mNil)))
  (sAsg (.nm 3) (mPure f_L_after 3 (mCons (eV 1) (mCons (eV 3) (mCons (mOp oIx (eV 2) (mUn oNeg (eC (.int 1)))) mNil)))))) sNext))
section
variable {T : List (Addr × Str)} {rest : Store} {t : Tk} {X : D}
theorem dr_body_ok (r : TkR t X) (o : TkOk t) {n : Nat} {h : Store} (H : Hd T n h) {ks : List Nat} {cur : List Str} (v4 v5 : Option W) (hk : ks.length ≤ 100) (ha : alongR t 0 ks t.s = (.non, txs false cur)) (hn : n + 100 ≤ 2 ^ 43) :
    ∃ (ks' : List Nat) (cur' : List Str) (v5' : Option W) (h' : Store), dr_body [some (.loc 2), some (.d X), some (.loc (3 + rest.length)), some (.d (txs false cur)), v4, v5] (h ++ (rest ++ [.lst ((ni ks).map .d)])) =
      .ok .nx [some (.loc 2), some (.d X), some (.loc (3 + rest.length)), some (.d (txs false cur')), v4, v5'] (h' ++ (rest ++ [.lst ((ni ks').map .d)])) ∧ ks'.length ≤ ks.length + 1 ∧ alongR t 0 ks' t.s = (.non, txs false cur') ∧ Hd T (n + 1) h' := by
  obtain ⟨os, e1, l1, q1⟩ := open_ok r o false cur
  cases ho : os.isEmpty with
  | true =>
    refine ⟨ks, cur, some (.d (.seq false (ni os))), h, ?_, by omega, ha, H.mono (by omega)⟩
    simp only [dr_body, sSeq, callP1, callP2, callP3, okF_ok, okF_ex, mPure, sAsg, sPar2, sPar3, sIf, sRet, sDrop, sNext, mT, mOp, mUn, mCall, mCons, mNil, mRaw, mIf, mAnd, mOr, mNot, eV, eC, R.bind, R.bindS, R.of, List.getElem?_cons_zero, List.getElem?_cons_succ, List.set_cons_zero, List.set_cons_succ, List.length_cons, List.length_nil, Nat.reduceAdd, if_true, Tgt.put, e1, mSeq0', ne_ni, ho, Bool.not_true, Bool.false_eq_true, if_false]
  | false =>
    have hne : ni os ≠ [] := by intro e; have := congrArg List.length e; simp [ni] at this; subst this; simp at ho
    obtain ⟨x, hx, h1, e2, H1⟩ := pick_ok H (rest ++ [.lst ((ni ks).map .d)]) false (ni os) hne (by simp only [ni, List.length_map]; omega) (by omega)
    obtain ⟨k, hk1, rfl⟩ := List.mem_map.mp hx
    obtain ⟨d, hd, hl⟩ := q1 k hk1
    have e3 := after_ok r o false cur hd
    have en : (ni ks).map W.d ++ [.d (.int k)] = (ni (ks ++ [k])).map W.d := by simp [ni]
    have ap := app3 H1 (rest := rest) ((ni ks).map .d) (.d (.int k)) (by simp only [ni, List.length_map]; omega)
    have hv : vw (h ++ (rest ++ [.lst ((ni ks).map .d)])) (.loc (3 + rest.length)) = .sq false ((ni ks).map .d) := by simp only [vw, at3 H, vwS]
    have hng : ∀ st : Store, oNeg (.d (.int 1)) st = some (.d (.int (-1)), st) := fun st => rfl
    have hix : oIx (.loc (3 + rest.length)) (.d (.int (-1))) (h1 ++ (rest ++ [.lst ((ni ks).map W.d ++ [.d (.int k)])])) = some (.d (.int k), h1 ++ (rest ++ [.lst ((ni ks).map W.d ++ [.d (.int k)])])) := by
      have v1 : vw (h1 ++ (rest ++ [.lst ((ni ks).map W.d ++ [.d (.int k)])])) (.loc (3 + rest.length)) = .sq false ((ni ks).map W.d ++ [.d (.int k)]) := by simp only [vw, at3 H1, vwS]
      have v2 : vw (h1 ++ (rest ++ [.lst ((ni ks).map W.d ++ [.d (.int k)])])) (.d (.int (-1))) = .int (-1) := rfl
      simp only [oIx, v1, v2, atI_last, Option.map_some]
    refine ⟨ks ++ [k], afterOf t.fs d cur, some (.d (.seq false (ni os))), h1, ?_, by simp, alongR_snoc t hd hl ks 0 t.s ha, H1⟩
    rw [← en]
    simp only [dr_body, sSeq, mMeth, callP1, callP2, callP3, okF_ok, okF_ex, mPure, sAsg, sPar2, sPar3, sIf, sRet, sDrop, sNext, mT, mOp, mUn, mCall, mCons, mNil, mRaw, mIf, mAnd, mOr, mNot, eV, eC, R.bind, R.bindS, R.of, List.getElem?_cons_zero, List.getElem?_cons_succ, List.set_cons_zero, List.set_cons_succ, List.length_cons, List.length_nil, Nat.reduceAdd, if_true, Tgt.put, e1, mSeq0', ne_ni, ho, Bool.not_false, hv, e2, ap, hng, hix, e3]
theorem dr_for (r : TkR t X) (o : TkOk t) : ∀ (m : Nat) (i : Int) (n : Nat) (h : Store) (ks : List Nat) (cur : List Str) (v4 v5 : Option W), Hd T n h → ks.length + m ≤ 100 → alongR t 0 ks t.s = (.non, txs false cur) → n + m + 100 ≤ 2 ^ 43 →
    ∃ (ks' : List Nat) (cur' : List Str) (v4' v5' : Option W) (h' : Store), forL (.nm 4) dr_body (rngL i m) [some (.loc 2), some (.d X), some (.loc (3 + rest.length)), some (.d (txs false cur)), v4, v5] (h ++ (rest ++ [.lst ((ni ks).map .d)])) =
      .ok .nx [some (.loc 2), some (.d X), some (.loc (3 + rest.length)), some (.d (txs false cur')), v4', v5'] (h' ++ (rest ++ [.lst ((ni ks').map .d)])) ∧ ks'.length ≤ ks.length + m ∧ alongR t 0 ks' t.s = (.non, txs false cur') ∧ Hd T (n + m) h'
  | 0, i, n, h, ks, cur, v4, v5, H, _, ha, _ => ⟨ks, cur, v4, v5, h, rfl, Nat.le_refl _, ha, H⟩
  | m + 1, i, n, h, ks, cur, v4, v5, H, hk, ha, hn => by
    obtain ⟨ks1, cur1, u5, h1, e1, l1, a1, H1⟩ := dr_body_ok (T := T) (rest := rest) r o H (some (.d (.int i))) v5 (by omega) ha (by omega)
    obtain ⟨ks2, cur2, w4, w5, h2, e2, l2, a2, H2⟩ := dr_for r o m (i + 1) (n + 1) h1 ks1 cur1 (some (.d (.int i))) u5 H1 (by omega) a1 (by omega)
    refine ⟨ks2, cur2, w4, w5, h2, ?_, by omega, a2, H2.mono (by omega)⟩
    have ep : ∀ st, Tgt.putI st (.nm 4) (one (.int i)) [some (.loc 2), some (.d X), some (.loc (3 + rest.length)), some (.d (txs false cur)), v4, v5] = some [some (.loc 2), some (.d X), some (.loc (3 + rest.length)), some (.d (txs false cur)), some (.d (.int i)), v5] := fun st => rfl
    rw [rngL, forL_cons, ep]
    simp only [e1, e2]
theorem f_L_drawn_row_eq (ws : List W) (st : Store) : f_L_drawn_row ws st = cutTo st.length (outW (m_L_drawn_row (initE 6 ws) st)) := rfl
theorem drawn_row_ok (r : TkR t X) (o : TkOk t) {n : Nat} {h : Store} (H : Hd T n h) (hr : Low rest) (hn : n + 200 ≤ 2 ^ 43) :
    ∃ (ks : List Nat) (cur : List Str) (h' : Store), f_L_drawn_row [.loc 2, .d X] (h ++ rest) = .ok (.d (.seq false (ni ks))) (h' ++ rest) ∧ ks.length ≤ 12 ∧ alongR t 0 ks t.s = (.non, txs false cur) ∧ Hd T (n + 20) h' := by
  obtain ⟨k, h1, e1, k0, k1, H1⟩ := draw_ok H (rest ++ [.lst []]) 12 (by decide) (by decide) (by omega)
  obtain ⟨ks, cur, v4, v5, h2, e2, l2, a2, H2⟩ := dr_for (T := T) (rest := rest) r o k.toNat 0 (n + 1) h1 [] t.s none none H1 (by simp; omega) rfl (by omega)
  refine ⟨ks, cur, h2, ?_, by simp at l2; omega, a2, H2.mono (by omega)⟩
  obtain ⟨f, a, b, ys, c, e, rfl, p⟩ := r
  have i2 : ∀ st : Store, oIx (.d (.seq f [txs a t.fs, .seq b ys, txs c t.s, txs e t.g])) (.d (.int 2)) st = some (.d (txs c t.s), st) := fun st => rfl
  generalize hX : D.seq f [txs a t.fs, .seq b ys, txs c t.s, txs e t.g] = X at *
  have hN : (h ++ rest).length = 3 + rest.length := by simp [H.len]
  have e0 : initE 6 [W.loc 2, .d X] = [some (.loc 2), some (.d X), none, none, none, none] := rfl
  have s0 : ∀ (ρ : En) (st : Store), mSeq false false mNil ρ st = .ok (.loc st.length) (st ++ [.lst []]) := fun ρ st => rfl
  have e3 : ∀ st : Store, oList true [.d (txs c t.s)] st = some (.d (txs false t.s), st) := fun st => mkS_d false (t.s.map .str) st
  have z1 : (sPar2 2 3 (mCons (mSeq false false mNil) (mCons (mCall (oList true) (mCons (mOp oIx (eV 1) (eC (.int 2))) mNil)) mNil))) [some (.loc 2), some (.d X), none, none, none, none] (h ++ rest) = .ok .nx [some (.loc 2), some (.d X), some (.loc (3 + rest.length)), some (.d (txs false t.s)), none, none] (h ++ (rest ++ [.lst []])) := by
    simp only [callP1, callP2, callP3, okF_ok, okF_ex, mPure, sAsg, sPar2, sPar3, sIf, sRet, sDrop, sNext, mT, mOp, mUn, mCall, mCons, mNil, mRaw, mIf, mAnd, mOr, mNot, eV, eC, R.bind, R.bindS, R.of, List.getElem?_cons_zero, List.getElem?_cons_succ, List.set_cons_zero, List.set_cons_succ, List.length_cons, List.length_nil, Nat.reduceAdd, if_true, Tgt.put, s0, hN, i2, e3, List.append_assoc]
  have ei : inR k = true := by simp only [inR, Bool.and_eq_true, decide_eq_true_eq]; omega
  have z2 : (sFor (srRng1 (mCons (mRaw f_L_draw 2 (mCons (eV 0) (mCons (eC (.int 12)) mNil))) mNil)) (.nm 4) dr_body) [some (.loc 2), some (.d X), some (.loc (3 + rest.length)), some (.d (txs false t.s)), none, none] (h ++ (rest ++ [.lst []])) = .ok .nx [some (.loc 2), some (.d X), some (.loc (3 + rest.length)), some (.d (txs false cur)), v4, v5] (h2 ++ (rest ++ [.lst ((ni ks).map .d)])) := by
    simp only [sFor, srRng1, mCons, mNil, mRaw, eV, eC, List.getElem?_cons_zero, R.bind, List.length_cons, List.length_nil, Nat.reduceAdd, if_true, e1, asInt, ei, R.bindS, forS]
    exact e2
  have z3 : sRet (eV 2) [some (.loc 2), some (.d X), some (.loc (3 + rest.length)), some (.d (txs false cur)), v4, v5] (h2 ++ (rest ++ [.lst ((ni ks).map .d)])) = .ok (.rt (.loc (3 + rest.length))) [some (.loc 2), some (.d X), some (.loc (3 + rest.length)), some (.d (txs false cur)), v4, v5] (h2 ++ (rest ++ [.lst ((ni ks).map .d)])) := rfl
  have ez : m_L_drawn_row [some (.loc 2), some (.d X), none, none, none, none] (h ++ rest) = .ok (.rt (.loc (3 + rest.length))) [some (.loc 2), some (.d X), some (.loc (3 + rest.length)), some (.d (txs false cur)), v4, v5] (h2 ++ (rest ++ [.lst ((ni ks).map .d)])) := by
    show sSeq _ (sSeq (sFor _ _ dr_body) _) _ _ = _
    simp only [sSeq, z1, z2, z3]
  rw [f_L_drawn_row_eq, e0, ez, hN]
  have c2 : (h2 ++ rest).all (lowO (3 + rest.length)) = true := by
    rw [List.all_append, H2.low, Bool.true_and]; exact hr
  have hl : (h2 ++ (rest ++ [SO.lst ((ni ks).map .d)])).length = 3 + rest.length + 1 := by simp [H2.len]; omega
  simp only [outW, cutTo, take3 H2, c2, if_true, hl, deepB, at3 H2, Nat.le_refl, mapO_deepB_d, Option.map_some]
end
end IL

set_option maxHeartbeats 4000007
namespace IL
open PySem PySem.Spec
open PyProof.Rows L2
/-! ### bad tasks -/
def bads : List (D × D) := [(.non, .seq true [.str "form"]), (.seq true [.seq false [.str "b", .str "a"], .seq false [], .seq false [], .seq false []], .seq true [.str "facts", .int 1]),
  (.seq true [.seq false [], .seq false [.seq true [.str "a", .seq false [.str "b"], .seq false [], .seq false [], .int 0]], .seq false [], .seq false []], .seq true [.str "deeds", .int 0]),
  (.seq true [.seq false [], .seq false [], .seq false [.str "a"], .seq false []], .seq true [.str "start"]), (.seq true [.seq false [.str "a"], .seq false [], .seq false [], .non], .seq true [.str "goal"])]
def sameB : D → D → Bool
  | .str x, .str y => decide (x = y)
  | .int x, .int y => decide (x = y)
  | _, _ => false
theorem sameB_ok {x y : D} (h : sameB x y = true) : x = y := by
  cases x <;> cases y <;> simp [sameB] at h <;> rw [h]
def sameL : List D → List D → Bool
  | [], [] => true
  | x :: xs, y :: ys => sameB x y && sameL xs ys
  | _, _ => false
theorem sameL_ok : ∀ {xs ys : List D}, sameL xs ys = true → xs = ys
  | [], [], _ => rfl
  | x :: xs, y :: ys, h => by
    simp only [sameL, Bool.and_eq_true] at h
    rw [sameB_ok h.1, sameL_ok h.2]
  | [], _ :: _, h => by cases h
  | _ :: _, [], h => by cases h
def isBad (p : D × D) : Bool := match f_check_task [p.1], p.2 with
  | .ex c f (.seq true xs), .seq true ys => decide (c = "BadTask") && decide (f = "fault") && sameL xs ys
  | _, _ => false
theorem bads_ok : ∀ p ∈ bads, f_check_task [p.1] = .ex "BadTask" "fault" p.2 := by
  have key : bads.all isBad = true := by decide +kernel
  intro p hp
  have q := List.all_eq_true.mp key p hp
  unfold isBad at q
  split at q
  · rename_i c f xs ys e1 e2
    simp only [Bool.and_eq_true, decide_eq_true_eq] at q
    rw [e1, e2, q.1.1, q.1.2, sameL_ok q.2]
  · cases q
theorem f_L_bad_task_eq (a : W) (st : Store) : f_L_bad_task [a] st = outW (m_L_bad_task [some a, none] st) := rfl
theorem bad_task_ok {T : List (Addr × Str)} {n : Nat} {h : Store} (H : Hd T n h) (rest : Store) (hn : n < 2 ^ 43) :
    ∃ (p : D × D) (h' : Store), p ∈ bads ∧ f_L_bad_task [.loc 2] (h ++ rest) = .ok (.d (.seq true [p.1, p.2])) (h' ++ rest) ∧ Hd T (n + 1) h' := by
  obtain ⟨x, hx, h1, e1, H1⟩ := pick_ok H rest false (bads.map fun p => .seq true [p.1, p.2]) (by simp [bads]) (by decide) (by omega)
  obtain ⟨p, hp, rfl⟩ := List.mem_map.mp hx
  refine ⟨p, h1, hp, ?_, H1⟩
  have e0 : ∀ st : Store, f_L_bad_task [.loc 2] st = outW ((f_L_pick [.loc 2, .d (.seq false (bads.map fun p => .seq true [p.1, p.2]))] st).bindS [some (.loc 2), some (.d (.seq false ((bads.map fun p => .seq true [p.1, p.2]).take 3)))] fun w st1 => .ok (.rt w) [some (.loc 2), some (.d (.seq false ((bads.map fun p => .seq true [p.1, p.2]).take 3)))] st1) := fun st => rfl
  rw [e0, e1]
  rfl
end IL

set_option maxHeartbeats 4000007
namespace IL
open PySem PySem.Spec
open PyProof.Rows L2
/-! ### lists made longer -/
theorem spoilt_succ (k : Nat) (a : W) (st : Store) : f_L_spoilt (k + 1) [a] st = outW (m_L_spoilt (f_L_spoilt k) [some a, none, none] st) := rfl
theorem spoilt_str (k : Nat) (x : Str) (st : Store) : f_L_spoilt (k + 1) [.d (.str x)] st = .ok (.d .non) st := rfl
def sp_body (ih : FnW) : Sx := (sDrop (mRaw ih 1 (mCons (eV 2) mNil)))
def okSO (N : Nat) (so : SO) : Bool := lowO N so && (match so with | .tabs _ => false | _ => true)
theorem okSO_add {N : Nat} {ws : List W} {x : D} (h : okSO N (.lst ws) = true) : okSO N (.lst (ws ++ [.d x])) = true := by
  have h' : (ws.all (lowW N) && true) = true := h
  show ((ws ++ [W.d x]).all (lowW N) && true) = true
  rw [Bool.and_true] at h' ⊢
  rw [List.all_append, h']; rfl
theorem all_set {p : SO → Bool} {st : Store} {i : Nat} {v : SO} (h : st.all p = true) (hv : p v = true) : (st.set i v).all p = true := by
  rw [List.all_eq_true] at h ⊢
  intro x hx
  rcases List.mem_or_eq_of_mem_set hx with hx | rfl
  · exact h x hx
  · exact hv
theorem sl_add (l : List Str) (x : Str) : SO.lst ((l.map D.str).map .d ++ [.d (.str x)]) = sl (l ++ [x]) := by simp [sl]
/-- what a run of spoilt changes: the lists at ms, and m -/
structure SpR (st st' : Store) (ms : List Nat) : Prop where
  len : st'.length = st.length
  out : ∀ i, i ∉ ms → st'[i]? = st[i]?
  ok : ∀ (N b : Nat), (∀ (i : Nat) (so : SO), b ≤ i → st[i]? = some so → okSO N so = true) → ∀ (i : Nat) (so : SO), b ≤ i → st'[i]? = some so → okSO N so = true
theorem spR_set {st : Store} {m : Nat} {ws : List W} {x : D} (h : st[m]? = some (.lst ws)) : SpR st (st.set m (.lst (ws ++ [.d x]))) [m] where
  len := by simp
  out := fun i hi => by
    have : m ≠ i := fun e => hi (by simp [e])
    rw [List.getElem?_set_ne this]
  ok := fun N b q i so hb hi => by
    by_cases e : m = i
    · subst e
      have hl : m < st.length := (List.getElem?_eq_some_iff.mp h).1
      rw [List.getElem?_set_self hl] at hi
      cases hi
      exact okSO_add (q m _ hb h)
    · rw [List.getElem?_set_ne e] at hi
      exact q i so hb hi
theorem SpR.trans {a b c : Store} {l1 l2 : List Nat} (h1 : SpR a b l1) (h2 : SpR b c l2) : SpR a c (l1 ++ l2) where
  len := h2.len.trans h1.len
  out := fun i hi => by
    rw [List.mem_append, not_or] at hi
    rw [h2.out i hi.2, h1.out i hi.1]
  ok := fun N b q => h2.ok N b (h1.ok N b q)
theorem SpR.mono {a b : Store} {l1 l2 : List Nat} (h : SpR a b l1) (s : ∀ i ∈ l1, i ∈ l2) : SpR a b l2 := ⟨h.len, fun i hi => h.out i fun q => hi (s i q), h.ok⟩
theorem spoilt_fin (k : Nat) {m : Nat} {st : Store} {ws : List W} (h : st[m]? = some (.lst ws)) {st' : Store} {v : Option W} (e : forI (getL m) (.nm 2) (sp_body (f_L_spoilt k)) ws.length 0 [some (.loc m), none, none] st = .ok .nx [some (.loc m), none, v] st')
    {us : List W} (h' : st'[m]? = some (.lst us)) (hl : us.length < 1000) : f_L_spoilt (k + 1) [.loc m] st = .ok (.d .non) (st'.set m (.lst (us ++ [.d (.str "late")]))) := by
  have v0 : vw st (.loc m) = .sq false ws := by simp only [vw, h, vwS]
  have v1 : vw st' (.loc m) = .sq false us := by simp only [vw, h', vwS]
  have es : sqOf st (.loc m) = .mu m ws.length := by simp only [sqOf, h]
  have c1 : ∀ us, vtyIs (.sq false us) [.d] = some false := fun us => rfl
  have c2 : ∀ us, vtyIs (.sq false us) [.l, .t] = some true := fun us => rfl
  have c3 : ∀ us, vtyIs (.sq false us) [.l] = some true := fun us => rfl
  have hs : us.length < sizeLine := Nat.lt_of_lt_of_le hl (by decide)
  have z1 : mT (mIs [.d] (eV 0)) [some (.loc m), none, none] st = .ok false st := by
    simp only [mT, mIs, eV, List.getElem?_cons_zero, R.bind, v0, c1]
  have z2 : mT (mIs [.l, .t] (eV 0)) [some (.loc m), none, none] st = .ok true st := by
    simp only [mT, mIs, eV, List.getElem?_cons_zero, R.bind, v0, c2]
  have z3 : mT (mIs [.l] (eV 0)) [some (.loc m), none, v] st' = .ok true st' := by
    simp only [mT, mIs, eV, List.getElem?_cons_zero, R.bind, v1, c3]
  have z4 : sFor (srSeq (eV 0)) (.nm 2) (sp_body (f_L_spoilt k)) [some (.loc m), none, none] st = .ok .nx [some (.loc m), none, v] st' := by
    simp only [sFor, srSeq, eV, List.getElem?_cons_zero, R.bind, es, R.bindS, forS]
    exact e
  have z5 : sDrop (mMeth oAppend (eV 0) (mCons (eC (.str "late")) mNil)) [some (.loc m), none, v] st' = .ok .nx [some (.loc m), none, v] (st'.set m (.lst (us ++ [.d (.str "late")]))) := by
    simp only [sDrop, mMeth, eV, List.getElem?_cons_zero, R.bind, v1, mCons, eC, mNil, oAppend, h', hs, if_true, R.of, R.bindS]
  rw [spoilt_succ]
  show outW (sSeq (sIf _ _ _) (sSeq (sIf _ (sFor (srSeq (eV 0)) (.nm 2) (sp_body (f_L_spoilt k))) _) _) _ _) = _
  simp only [sSeq, sIf, z1, z2, z3, R.bindS, Bool.false_eq_true, if_false, if_true, sNext, z4, z5, outW]
/-- a list of texts -/
theorem spoilt1_for (k : Nat) {m : Nat} {st : Store} {l : List Str} (h : st[m]? = some (sl l)) : ∀ (l' : List Str) (j : Nat) (v : Option W), l' = l.drop j → ∃ v', forI (getL m) (.nm 2) (sp_body (f_L_spoilt (k + 1))) l'.length j [some (.loc m), none, v] st = .ok .nx [some (.loc m), none, v'] st
  | [], j, v, hj => by
    have : l.length ≤ j := by have := congrArg List.length hj; simp at this; omega
    have e : getL m st j = .stop := by
      simp only [getL, h, sl, wsD, List.getElem?_map]
      rw [List.getElem?_eq_none this]; rfl
    exact ⟨v, by simp only [List.length_nil, forI, e]⟩
  | y :: l', j, v, hj => by
    have hy : l[j]? = some y := by have := congrArg (·[0]?) hj; simpa using this.symm
    have hj' : l' = l.drop (j + 1) := by have := congrArg List.tail hj; simpa using this
    have e : getL m st j = .it (.one (.d (.str y))) := by
      simp only [getL, h, sl, wsD, List.getElem?_map, hy, Option.map_some, Gt.of]
    obtain ⟨v', e2⟩ := spoilt1_for k h l' (j + 1) (some (.d (.str y))) hj'
    refine ⟨v', ?_⟩
    have eb : sp_body (f_L_spoilt (k + 1)) [some (.loc m), none, some (.d (.str y))] st = .ok .nx [some (.loc m), none, some (.d (.str y))] st := by
      simp only [sp_body, callP1, callP2, callP3, okF_ok, okF_ex, mPure, sAsg, sPar2, sPar3, sIf, sRet, sDrop, sNext, mT, mOp, mUn, mCall, mCons, mNil, mRaw, mIf, mAnd, mOr, mNot, eV, eC, R.bind, R.bindS, R.of, List.getElem?_cons_zero, List.getElem?_cons_succ, List.set_cons_zero, List.set_cons_succ, List.length_cons, List.length_nil, Nat.reduceAdd, if_true, Tgt.put, spoilt_str]
    simp only [List.length_cons, forI, e, Tgt.putI, Tgt.put, List.set_cons_succ, List.set_cons_zero, eb, e2]
theorem spoilt1 (k : Nat) {m : Nat} {st : Store} {l : List Str} (h : st[m]? = some (sl l)) (hl : l.length < 1000) : f_L_spoilt (k + 2) [.loc m] st = .ok (.d .non) (st.set m (sl (l ++ [("late" : Str)]))) := by
  obtain ⟨v', e⟩ := spoilt1_for k h l 0 none rfl
  have := spoilt_fin (k + 1) (m := m) (st := st) (ws := (l.map D.str).map .d) h (st' := st) (v := v') (by rw [List.length_map, List.length_map]; exact e) (us := (l.map D.str).map .d) h (by simpa using hl)
  rw [this, sl_add]
/-- lists of texts at places -/
def TxAt (st : Store) (b : Nat) (i : Nat) : Prop := ∃ l, st[i]? = some (sl l) ∧ l.length + b < 1000
theorem spoilt2_for (k : Nat) {m : Nat} {ws : List W} : ∀ (ms : List Nat) (j : Nat) (st : Store) (v : Option W), st[m]? = some (.lst ws) → ms.map W.loc = ws.drop j → (∀ i ∈ ms, i ≠ m ∧ TxAt st ms.length i) →
    ∃ (v' : Option W) (st' : Store), forI (getL m) (.nm 2) (sp_body (f_L_spoilt (k + 2))) ms.length j [some (.loc m), none, v] st = .ok .nx [some (.loc m), none, v'] st' ∧ SpR st st' ms
  | [], j, st, v, h, hj, _ => by
    have : ws.length ≤ j := by have := congrArg List.length hj; simp at this; omega
    have e : getL m st j = .stop := by
      simp only [getL, h]
      rw [List.getElem?_eq_none this]; rfl
    exact ⟨v, st, by simp only [List.length_nil, forI, e], ⟨rfl, fun _ _ => rfl, fun _ _ q => q⟩⟩
  | i :: ms, j, st, v, h, hj, hm => by
    have hy : ws[j]? = some (.loc i) := by have := congrArg (·[0]?) hj; simpa using this.symm
    have hj' : ms.map W.loc = ws.drop (j + 1) := by have := congrArg List.tail hj; simpa using this
    have e : getL m st j = .it (.one (.loc i)) := by
      simp only [getL, h, hy, Option.map_some, Gt.of]
    obtain ⟨him, l, hl, hb⟩ := hm i List.mem_cons_self
    simp only [List.length_cons] at hb
    have e1 := spoilt1 k hl (by omega)
    have eb : sp_body (f_L_spoilt (k + 2)) [some (.loc m), none, some (.loc i)] st = .ok .nx [some (.loc m), none, some (.loc i)] (st.set i (sl (l ++ [("late" : Str)]))) := by
      simp only [sp_body, callP1, callP2, callP3, okF_ok, okF_ex, mPure, sAsg, sPar2, sPar3, sIf, sRet, sDrop, sNext, mT, mOp, mUn, mCall, mCons, mNil, mRaw, mIf, mAnd, mOr, mNot, eV, eC, R.bind, R.bindS, R.of, List.getElem?_cons_zero, List.getElem?_cons_succ, List.set_cons_zero, List.set_cons_succ, List.length_cons, List.length_nil, Nat.reduceAdd, if_true, Tgt.put, e1]
    have r1 : SpR st (st.set i (sl (l ++ [("late" : Str)]))) [i] := by
      have := spR_set (x := .str "late") hl
      rwa [sl_add] at this
    have hi : i < st.length := (List.getElem?_eq_some_iff.mp hl).1
    have hm' : ∀ q ∈ ms, q ≠ m ∧ TxAt (st.set i (sl (l ++ [("late" : Str)]))) ms.length q := by
      intro q hq
      obtain ⟨qm, lq, hlq, hbq⟩ := hm q (List.mem_cons_of_mem _ hq)
      simp only [List.length_cons] at hbq
      refine ⟨qm, ?_⟩
      by_cases hqi : i = q
      · subst hqi
        refine ⟨l ++ [("late" : Str)], by rw [List.getElem?_set_self hi], ?_⟩
        rw [List.length_append, List.length_cons, List.length_nil]; omega
      · exact ⟨lq, by rw [List.getElem?_set_ne hqi]; exact hlq, by omega⟩
    obtain ⟨v', st', e2, r2⟩ := spoilt2_for k ms (j + 1) (st.set i (sl (l ++ [("late" : Str)]))) (some (.loc i)) (by rw [List.getElem?_set_ne him]; exact h) hj' hm'
    refine ⟨v', st', ?_, (r1.trans r2).mono (by simp)⟩
    simp only [List.length_cons, forI, e, Tgt.putI, Tgt.put, List.set_cons_succ, List.set_cons_zero, eb, e2]
theorem spoilt2 (k : Nat) {m : Nat} {st : Store} {ms : List Nat} (h : st[m]? = some (.lst (ms.map .loc))) (hm : ∀ i ∈ ms, i ≠ m ∧ TxAt st ms.length i) (hl : ms.length < 900) :
    ∃ st', f_L_spoilt (k + 3) [.loc m] st = .ok (.d .non) st' ∧ SpR st st' (m :: ms) := by
  obtain ⟨v', st', e, r⟩ := spoilt2_for k ms 0 st none h rfl hm
  have hm0 : m ∉ ms := fun q => (hm m q).1 rfl
  have h' : st'[m]? = some (.lst (ms.map .loc)) := by rw [r.out m hm0]; exact h
  refine ⟨_, spoilt_fin (k + 2) h (by rw [List.length_map]; exact e) h' (by rw [List.length_map]; omega), ?_⟩
  have := r.trans (spR_set (x := .str "late") h')
  exact this.mono fun i hi => by simp only [List.mem_append, List.mem_cons, List.not_mem_nil, or_false] at hi ⊢; exact hi.symm
end IL

set_option maxHeartbeats 4000007
namespace IL
open PySem PySem.Spec
open PyProof.Rows L2
/-! ### the law's turn, part by part -/
def rl (v0 v2 v3 v4 v5 v6 v7 v8 v9 v10 v11 v12 v13 v14 v15 v16 v17 v18 v19 : Option W) : En := [v0, some (.loc 2), v2, v3, v4, v5, v6, v7, v8, v9, v10, v11, v12, v13, v14, v15, v16, v17, v18, v19]
def Gr (rest : Store) : Prop := rest.all (okSO (3 + rest.length)) = true
theorem lowO_mono {N M : Nat} (h : N ≤ M) : ∀ {so : SO}, lowO N so = true → lowO M so = true := by
  have hw : ∀ w : W, lowW N w = true → lowW M w = true := by
    intro w hw
    cases w with
    | loc m => simp only [lowW, decide_eq_true_eq] at hw ⊢; omega
    | _ => rfl
  intro so hs
  cases so with
  | lst ws => simp only [lowO, List.all_eq_true] at hs ⊢; exact fun w hx => hw w (hs w hx)
  | tup ws => simp only [lowO, List.all_eq_true] at hs ⊢; exact fun w hx => hw w (hs w hx)
  | dK ws => simp only [lowO, List.all_eq_true] at hs ⊢; exact fun w hx => hw _ (hs w hx)
  | dT ws => simp only [lowO, List.all_eq_true] at hs ⊢; exact fun w hx => hw _ (hs w hx)
  | _ => rfl
theorem okSO_mono {N M : Nat} (h : N ≤ M) {so : SO} (q : okSO N so = true) : okSO M so = true := by
  simp only [okSO, Bool.and_eq_true] at q ⊢
  exact ⟨lowO_mono h q.1, q.2⟩
theorem Gr.low {rest : Store} (g : Gr rest) : Low rest := by
  unfold Gr at g; unfold Low
  rw [List.all_eq_true] at g ⊢
  intro x hx
  have := g x hx
  simp only [okSO, Bool.and_eq_true] at this
  exact this.1
theorem Gr.more {rest more : Store} (g : Gr rest) (q : more.all (okSO (3 + rest.length + more.length)) = true) : Gr (rest ++ more) := by
  unfold Gr at g ⊢
  rw [List.all_append, List.length_append, Bool.and_eq_true]
  refine ⟨?_, by rw [← Nat.add_assoc]; exact q⟩
  rw [List.all_eq_true] at g ⊢
  exact fun x hx => okSO_mono (by omega) (g x hx)
theorem okSO_d (N : Nat) (xs : List D) : okSO N (.lst (xs.map .d)) = true := by
  show ((xs.map W.d).all (lowW N) && true) = true
  rw [Bool.and_true, List.all_eq_true]
  intro w hw
  obtain ⟨x, _, rfl⟩ := List.mem_map.mp hw
  rfl
theorem callP2_bl {P : List D → Pr} {w1 w2 : W} {st : Store} {x y : D} {b : Bool} (h1 : deepB 0 st.length st w1 = some x) (h2 : deepB 0 st.length st w2 = some y) (hp : P [x, y] = .ok (.bl b)) : callP P 2 [w1, w2] st = .ok (.d (.bl b)) st := by
  have hm : mapO (deepB 0 st.length st) [w1, w2] = some [x, y] := by simp only [mapO, h1, h2]
  cases e : allD [w1, w2] with
  | none =>
    show (match allD [w1, w2] with
      | some xs => okFlat true (P xs) st
      | none => match mapO (deepB 0 st.length st) [w1, w2] with
        | some xs => okFlat false (P xs) st
        | none => .bad) = _
    rw [e, hm]
    simp only [hp]
    rfl
  | some zs =>
    cases w1 with
    | d a =>
      cases w2 with
      | d c =>
        rw [deepB_d] at h1 h2
        cases h1; cases h2
        rw [callP2, hp]; rfl
      | loc m => cases e
      | v _ => cases e
    | loc m => cases e
    | v _ => cases e
theorem deepB_lst {st : Store} {a k : Nat} {xs : List D} (h : st[a]? = some (.lst (xs.map .d))) : deepB 0 (k + 1) st (.loc a) = some (.seq false xs) := by
  simp only [deepB, h, Nat.zero_le, if_true, mapO_deepB_d, Option.map_some]
theorem deepB_lsts {st : Store} {a k : Nat} {ws : List W} {xs : List D} (h : st[a]? = some (.lst ws)) (q : mapO (deepB 0 k st) ws = some xs) : deepB 0 (k + 1) st (.loc a) = some (.seq false xs) := by
  simp only [deepB, h, Nat.zero_le, if_true, q, Option.map_some]
theorem natOf_ni (ks : List Nat) : (ni ks).map natOf = ks := by
  induction ks with
  | nil => rfl
  | cons k ks ih => simp only [ni, List.map_cons, List.cons.injEq] at ih ⊢; exact ⟨rfl, ih⟩
theorem isNat_ni (ks : List Nat) : (ni ks).all isNat = true := by
  rw [List.all_eq_true]
  intro x hx
  obtain ⟨k, _, rfl⟩ := List.mem_map.mp hx
  simp only [isNat, Bool.not_eq_true', decide_eq_false_iff_not]; omega
theorem alongD_ni (t : Tk) (u : Bool) (ks : List Nat) : alongD t (.seq u (ni ks)) = alongR t 0 ks t.s := by
  simp only [alongD, isNat_ni, if_true, natOf_ni]
theorem smp_ni (ks : List Nat) : (ni ks).all smp = true := by
  rw [List.all_eq_true]
  intro x hx
  obtain ⟨k, _, rfl⟩ := List.mem_map.mp hx
  rfl
theorem gd_ni (u : Bool) {ks : List Nat} (h : ks.length ≤ 100) : gd (.seq u (ni ks)) = true := by
  have e : (ni ks).length = ks.length := by simp [ni]
  simp only [gd, smp_ni, e, h, decide_true, Bool.and_self]
/-- the states of a row, as data -/
def stsD (t : Tk) (ks : List Nat) : List D := (t.s :: statesT t ks t.s).map (txs false)
def l4_body : Sx := (sDrop (mMeth oAppend (eV 5) (mCons (mPure f_L_after 3 (mCons (eV 3) (mCons (mOp oIx (eV 5) (mUn oNeg (eC (.int 1)))) (mCons (eV 6) mNil)))) mNil)))
section
variable {T : List (Addr × Str)} {n : Nat} {h rest : Store} {t : Tk} {X : D} {v0 v2 v3 v4 v5 v6 v7 v8 v9 v10 v11 v12 v13 v14 v15 v16 v17 v18 v19 : Option W}
theorem l3_ok (r : TkR t X) (H : Hd T n h) : sAsg (.nm 5) (mSeq false false (mCons (mCall (oList true) (mCons (mOp oIx (eV 3) (eC (.int 2))) mNil)) mNil)) (rl v0 v2 (some (.d X)) v4 v5 v6 v7 v8 v9 v10 v11 v12 v13 v14 v15 v16 v17 v18 v19) (h ++ rest) =
    .ok .nx (rl v0 v2 (some (.d X)) v4 (some (.loc (3 + rest.length))) v6 v7 v8 v9 v10 v11 v12 v13 v14 v15 v16 v17 v18 v19) (h ++ (rest ++ [.lst (([t.s].map (txs false)).map .d)])) := by
  obtain ⟨f, a, b, ys, c, e, rfl, p⟩ := r
  have i2 : ∀ st : Store, oIx (.d (.seq f [txs a t.fs, .seq b ys, txs c t.s, txs e t.g])) (.d (.int 2)) st = some (.d (txs c t.s), st) := fun st => rfl
  have e3 : ∀ st : Store, oList true [.d (txs c t.s)] st = some (.d (txs false t.s), st) := fun st => mkS_d false (t.s.map .str) st
  have em : ∀ st : Store, mkS false false [.d (txs false t.s)] st = some (.loc st.length, st ++ [.lst (([t.s].map (txs false)).map .d)]) := fun st => rfl
  have e5 : 1 ≤ sizeLine := by decide
  have hN : (h ++ rest).length = 3 + rest.length := by simp [H.len]
  simp only [mSeq, rl, callP1, callP2, callP3, okF_ok, okF_ex, mPure, sAsg, sPar2, sPar3, sIf, sRet, sDrop, sNext, mT, mOp, mUn, mCall, mCons, mNil, mRaw, mIf, mAnd, mOr, mNot, eV, eC, R.bind, R.bindS, R.of, List.getElem?_cons_zero, List.getElem?_cons_succ, List.set_cons_zero, List.set_cons_succ, List.length_cons, List.length_nil, Nat.reduceAdd, if_true, Tgt.put, i2, e3, e5, em, hN, List.append_assoc]
theorem l4_for (r : TkR t X) (o : TkOk t) (H : Hd T n h) : ∀ (ks : List Nat) (i : Nat) (pre : List (List Str)) (cur : List Str) (v6 : Option W), (alongR t i ks cur).1 = .non → pre.length + ks.length ≤ 200 →
    ∃ v6', forL (.nm 6) l4_body ((ni ks).map one) (rl v0 v2 (some (.d X)) v4 (some (.loc (3 + rest.length))) v6 v7 v8 v9 v10 v11 v12 v13 v14 v15 v16 v17 v18 v19) (h ++ (rest ++ [.lst (((pre ++ [cur]).map (txs false)).map .d)])) =
      .ok .nx (rl v0 v2 (some (.d X)) v4 (some (.loc (3 + rest.length))) v6' v7 v8 v9 v10 v11 v12 v13 v14 v15 v16 v17 v18 v19) (h ++ (rest ++ [.lst (((pre ++ [cur] ++ statesT t ks cur).map (txs false)).map .d)]))
  | [], i, pre, cur, v6, _, _ => ⟨v6, by simp [statesT, ni, forL]⟩
  | k :: ks, i, pre, cur, v6, ha, hl => by
    simp only [alongR] at ha
    cases hd : t.ds[k]? with
    | none => rw [hd] at ha; cases ha
    | some d =>
      rw [hd] at ha
      simp only at ha
      cases hlk : lackOf d.nd cur with
      | some g => rw [hlk] at ha; cases ha
      | none =>
        rw [hlk] at ha
        simp only [List.length_cons] at ha hl
        obtain ⟨v6', ih⟩ := l4_for r o H ks (i + 1) (pre ++ [cur]) (afterOf t.fs d cur) (some (.d (.int k))) ha (by simp; omega)
        refine ⟨v6', ?_⟩
        have e3 := after_ok r o false cur hd
        have hng : ∀ st : Store, oNeg (.d (.int 1)) st = some (.d (.int (-1)), st) := fun st => rfl
        have hen : ((pre ++ [cur]).map (txs false)).map W.d = (pre.map (txs false)).map W.d ++ [.d (txs false cur)] := by simp
        have hv : vw (h ++ (rest ++ [.lst (((pre ++ [cur]).map (txs false)).map .d)])) (.loc (3 + rest.length)) = .sq false (((pre ++ [cur]).map (txs false)).map .d) := by simp only [vw, at3 H, vwS]
        have hix : oIx (.loc (3 + rest.length)) (.d (.int (-1))) (h ++ (rest ++ [.lst (((pre ++ [cur]).map (txs false)).map .d)])) = some (.d (txs false cur), h ++ (rest ++ [.lst (((pre ++ [cur]).map (txs false)).map .d)])) := by
          have v2 : vw (h ++ (rest ++ [.lst (((pre ++ [cur]).map (txs false)).map .d)])) (.d (.int (-1))) = .int (-1) := rfl
          simp only [oIx, hv, v2]
          rw [hen, atI_last]; rfl
        have ap := app3 H (rest := rest) (((pre ++ [cur]).map (txs false)).map .d) (.d (txs false (afterOf t.fs d cur))) (by simp; omega)
        have hen2 : ((pre ++ [cur]).map (txs false)).map W.d ++ [.d (txs false (afterOf t.fs d cur))] = ((pre ++ [cur] ++ [afterOf t.fs d cur]).map (txs false)).map W.d := by simp
        rw [hen2] at ap
        have eb : l4_body (rl v0 v2 (some (.d X)) v4 (some (.loc (3 + rest.length))) (some (.d (.int k))) v7 v8 v9 v10 v11 v12 v13 v14 v15 v16 v17 v18 v19) (h ++ (rest ++ [.lst (((pre ++ [cur]).map (txs false)).map .d)])) =
            .ok .nx (rl v0 v2 (some (.d X)) v4 (some (.loc (3 + rest.length))) (some (.d (.int k))) v7 v8 v9 v10 v11 v12 v13 v14 v15 v16 v17 v18 v19) (h ++ (rest ++ [.lst (((pre ++ [cur] ++ [afterOf t.fs d cur]).map (txs false)).map .d)])) := by
          simp only [l4_body, rl, mMeth, callP1, callP2, callP3, okF_ok, okF_ex, mPure, sAsg, sPar2, sPar3, sIf, sRet, sDrop, sNext, mT, mOp, mUn, mCall, mCons, mNil, mRaw, mIf, mAnd, mOr, mNot, eV, eC, R.bind, R.bindS, R.of, List.getElem?_cons_zero, List.getElem?_cons_succ, List.set_cons_zero, List.set_cons_succ, List.length_cons, List.length_nil, Nat.reduceAdd, if_true, Tgt.put, hv, hng, hix, e3, ap]
        have ep : ∀ st, Tgt.putI st (.nm 6) (one (.int (k : Int))) (rl v0 v2 (some (.d X)) v4 (some (.loc (3 + rest.length))) v6 v7 v8 v9 v10 v11 v12 v13 v14 v15 v16 v17 v18 v19) = some (rl v0 v2 (some (.d X)) v4 (some (.loc (3 + rest.length))) (some (.d (.int k))) v7 v8 v9 v10 v11 v12 v13 v14 v15 v16 v17 v18 v19) := fun st => rfl
        have en : (ni (k :: ks)).map one = one (.int k) :: (ni ks).map one := rfl
        rw [en, forL_cons, ep]
        simp only [eb]
        rw [ih]
        simp only [statesT, hd, List.append_assoc, List.cons_append, List.nil_append]
end
end IL

set_option maxHeartbeats 4000007
namespace IL
open PySem PySem.Spec
open PyProof.Rows L2
theorem get_rest {T n h} (H : Hd T n h) {rest : Store} (more : Store) {a : Nat} {so : SO} (q : rest[a]? = some so) : (h ++ (rest ++ more))[3 + a]? = some so := by
  rw [List.getElem?_append_right (by rw [H.len]; omega), H.len]
  have : 3 + a - 3 = a := by omega
  rw [this, List.getElem?_append_left (List.getElem?_eq_some_iff.mp q).1, q]
theorem mapO_all {α β : Type} {f : α → Option β} : ∀ {ws : List α} {xs : List β}, ws.length = xs.length → (∀ (j : Nat) (w : α) (x : β), ws[j]? = some w → xs[j]? = some x → f w = some x) → mapO f ws = some xs
  | [], [], _, _ => rfl
  | w :: ws, x :: xs, hl, q => by
    have h1 := q 0 w x rfl rfl
    have h2 := mapO_all (ws := ws) (xs := xs) (by simpa using hl) fun j w x a b => q (j + 1) w x (by simpa using a) (by simpa using b)
    simp only [mapO, h1, h2]
  | [], _ :: _, hl, _ => by simp at hl
  | _ :: _, [], hl, _ => by simp at hl
def lcsN (L n : Nat) : List Nat := L :: (List.range n).map (fun j => L + 2 + j)
theorem lcs_eq (L n : Nat) : lcs L n = (lcsN L n).map .loc := by simp [lcs, lcsN]
theorem sl_d (l : List Str) : sl l = .lst ((l.map D.str).map .d) := rfl
/-- a run's states read in depth -/
theorem deep_run (st more : Store) (s0 : List Str) (r : List (List Str)) (k : Nat) : deepB 0 (k + 2) (st ++ (runSt st.length s0 r ++ more)) (.loc (st.length + 1)) = some (.seq false ((s0 :: r).map (txs false))) := by
  refine deepB_lsts (runSt_1 st more s0 r) (mapO_all (by simp [lcs]) fun j w x hw hx => ?_)
  cases j with
  | zero =>
    simp only [lcs, List.getElem?_cons_zero, Option.some.injEq, List.map_cons] at hw hx
    subst hw; subst hx
    exact deepB_lst (runSt_0 st more s0 r)
  | succ j =>
    simp only [lcs, List.getElem?_cons_succ, List.map_cons, List.getElem?_map] at hw hx
    cases hr : r[j]? with
    | none => rw [hr] at hx; cases hx
    | some s =>
      have hj : j < r.length := (List.getElem?_eq_some_iff.mp hr).1
      rw [List.getElem?_range hj] at hw
      rw [hr] at hx
      cases hw; cases hx
      exact deepB_lst (runSt_j st more s0 r j s hr)
theorem statesT_len (t : Tk) (o : TkOk t) : ∀ (ks : List Nat) (s : List Str), ∀ x ∈ statesT t ks s, x.length ≤ 7
  | [], _, x, hx => by cases hx
  | k :: ks, s, x, hx => by
    simp only [statesT] at hx
    cases hd : t.ds[k]? with
    | none => rw [hd] at hx; cases hx
    | some d =>
      rw [hd] at hx
      rcases List.mem_cons.mp hx with rfl | hx
      · exact Nat.le_trans (after_sub _ _ _).length_le (sub7 o.fs)
      · exact statesT_len t o ks _ x hx
theorem statesT_length (t : Tk) : ∀ (ks : List Nat) (s : List Str), (statesT t ks s).length ≤ ks.length
  | [], _ => Nat.le_refl _
  | k :: ks, s => by
    simp only [statesT]
    cases t.ds[k]? with
    | none => exact Nat.zero_le _
    | some d => have := statesT_length t ks (afterOf t.fs d s); simp only [List.length_cons]; omega
def toldSt (L : Nat) (s0 : List Str) (r : List (List Str)) : Store := runSt L s0 r ++ (runSt (L + (r.length + 2)) s0 r ++ [.lst [.loc (L + 1), .loc (L + (r.length + 2) + 1)]])
theorem oTup_d (t : Bool) (xs : List D) (st : Store) (h : t = false) : oTuple true [.d (.seq t xs)] st = some (.d (.seq true xs), st) := by subst h; exact mkS_d true xs st
theorem oLst_d (t : Bool) (xs : List D) (st : Store) : oList true [.d (.seq t xs)] st = some (.d (.seq false xs), st) := mkS_d false xs st
section
variable {T : List (Addr × Str)} {n : Nat} {h rest : Store} {t : Tk} {X : D} {ks : List Nat} {v0 v2 v3 v4 v5 v6 v7 v8 v9 v10 v11 v12 v13 v14 v15 v16 v17 v18 v19 : Option W}
theorem run_ni (r : TkR t X) (o : TkOk t) (u : Bool) (hk : ks.length ≤ 100) (ha : (alongR t 0 ks t.s).1 = .non) (st : Store) : f_runM [.d X, .d (.seq u (ni ks))] st = .ok (.loc (st.length + 1)) (st ++ runSt st.length t.s (statesT t ks t.s)) := by
  have := runM_ok r o (gd_ni u hk) (by rw [alongD_ni]; exact ha) st
  rw [this]
  simp only [statesS, natOf_ni]
def l5 : Sx := (sAsg (.nm 7) (mSeq true false (mCons (mRaw f_runM 2 (mCons (mRaw f_L_handed 2 (mCons (eV 1) (mCons (eV 3) mNil))) (mCons (mCall (oTuple true) (mCons (eV 4) mNil)) mNil))) (mCons (mKw 2 [1, 0] 0 (rawN f_runM 2) mNil (mCons (mCall (oList true) (mCons (eV 4) mNil)) (mCons (mPure (f_L_copied 8) 1 (mCons (eV 3) mNil)) mNil))) mNil))))
theorem l5_ok (r : TkR t X) (o : TkOk t) (H : Hd T n h) (hk : ks.length ≤ 100) (ha : (alongR t 0 ks t.s).1 = .non) (hn : n + 100 ≤ 2 ^ 43) :
    ∃ h' : Store, l5 (rl v0 v2 (some (.d X)) (some (.d (.seq false (ni ks)))) v5 v6 v7 v8 v9 v10 v11 v12 v13 v14 v15 v16 v17 v18 v19) (h ++ rest) =
      .ok .nx (rl v0 v2 (some (.d X)) (some (.d (.seq false (ni ks)))) v5 v6 (some (.loc (3 + rest.length + ((statesT t ks t.s).length + 2) + ((statesT t ks t.s).length + 2)))) v8 v9 v10 v11 v12 v13 v14 v15 v16 v17 v18 v19) (h' ++ (rest ++ toldSt (3 + rest.length) t.s (statesT t ks t.s))) ∧ Hd T (n + 40) h' := by
  obtain ⟨X', h1, e1, r1, H1⟩ := handed_ok H rest r o hn
  have e2 := run_ni r1 o true hk ha (h1 ++ rest)
  have hL : (h1 ++ rest).length = 3 + rest.length := by simp [H1.len]
  have e3 := run_ni r o false hk ha (h1 ++ rest ++ runSt (h1 ++ rest).length t.s (statesT t ks t.s))
  have e4 := copied_tk r o
  rw [hL] at e2 e3
  have hL2 : (h1 ++ rest ++ runSt (3 + rest.length) t.s (statesT t ks t.s)).length = 3 + rest.length + ((statesT t ks t.s).length + 2) := by rw [List.length_append, hL, runSt_len]
  rw [hL2] at e3
  have hL3 : (h1 ++ rest ++ runSt (3 + rest.length) t.s (statesT t ks t.s) ++ runSt (3 + rest.length + ((statesT t ks t.s).length + 2)) t.s (statesT t ks t.s)).length = 3 + rest.length + ((statesT t ks t.s).length + 2) + ((statesT t ks t.s).length + 2) := by rw [List.length_append, hL2, runSt_len]
  have em : ∀ (a b : Nat) (st : Store), mkS true false [.loc a, .loc b] st = some (.loc st.length, st ++ [.lst [.loc a, .loc b]]) := fun a b st => rfl
  have ep : ∀ a b : W, permL [a, b] [1, 0] = [b, a] := fun a b => rfl
  have e5 : 2 ≤ sizeLine := by decide
  refine ⟨h1, ?_, H1⟩
  have oT := oTup_d false (ni ks) (h1 ++ rest) rfl
  simp only [l5, rl, mSeq, mKw, rawN, callP1, callP2, callP3, okF_ok, okF_ex, mPure, sAsg, sPar2, sPar3, sIf, sRet, sDrop, sNext, mT, mOp, mUn, mCall, mCons, mNil, mRaw, mIf, mAnd, mOr, mNot, eV, eC, R.bind, R.bindS, R.of, List.getElem?_cons_zero, List.getElem?_cons_succ, List.set_cons_zero, List.set_cons_succ, List.length_cons, List.length_nil, Nat.reduceAdd, if_true, Tgt.put, e1, oT, e2, oLst_d, e4, and_self, List.nil_append, ep, e3, e5, em, hL3]
  simp only [toldSt, List.append_assoc]
theorem same_deep {w1 w2 : W} {st : Store} {x : D} (h1 : deepB 0 st.length st w1 = some x) (h2 : deepB 0 st.length st w2 = some x) (hx : nice 8 x = true) : callP (f_L_same 8) 2 [w1, w2] st = .ok (.d (.bl true)) st :=
  callP2_bl h1 h2 (same_ok 8 x hx)
theorem nice_txs (k : Nat) (t : Bool) {l : List Str} (h : l.length ≤ 100) : nice (k + 2) (txs t l) = true := nod_nice _ _ (nod_txs k t h)
theorem nice_sts (k : Nat) (o : TkOk t) (hk : ks.length ≤ 90) : nice (k + 3) (.seq false (stsD t ks)) = true := by
  rw [nice, Bool.and_eq_true, List.all_eq_true]
  have hl := statesT_length t ks t.s
  refine ⟨fun x hx => ?_, by simp [stsD]; omega⟩
  obtain ⟨s, hs, rfl⟩ := List.mem_map.mp hx
  refine nice_txs k false ?_
  rcases List.mem_cons.mp hs with rfl | hs
  · have := sub7 (o.s.trans o.fs); omega
  · have := statesT_len t o ks t.s s hs; omega
end
end IL

set_option maxHeartbeats 4000007
namespace IL
open PySem PySem.Spec
open PyProof.Rows L2
theorem get_at {a b : Store} {so : SO} : (a ++ (so :: b))[a.length]? = some so := by simp
theorem told_at (st more : Store) (s0 : List Str) (r : List (List Str)) : (st ++ (toldSt st.length s0 r ++ more))[st.length + (r.length + 2) + (r.length + 2)]? = some (.lst [.loc (st.length + 1), .loc (st.length + (r.length + 2) + 1)]) := by
  have e : st ++ (toldSt st.length s0 r ++ more) = (st ++ runSt st.length s0 r ++ runSt (st.length + (r.length + 2)) s0 r) ++ (.lst [.loc (st.length + 1), .loc (st.length + (r.length + 2) + 1)] :: more) := by
    simp only [toldSt, List.append_assoc, List.cons_append, List.nil_append]
  have l : (st ++ runSt st.length s0 r ++ runSt (st.length + (r.length + 2)) s0 r).length = st.length + (r.length + 2) + (r.length + 2) := by
    simp only [List.length_append, runSt_len]
  rw [e, ← l]
  exact get_at
theorem told_deep (st more : Store) (s0 : List Str) (r : List (List Str)) (k : Nat) : deepB 0 (k + 3) (st ++ (toldSt st.length s0 r ++ more)) (.loc (st.length + (r.length + 2) + (r.length + 2))) = some (.seq false [.seq false ((s0 :: r).map (txs false)), .seq false ((s0 :: r).map (txs false))]) := by
  refine deepB_lsts (told_at st more s0 r) ?_
  have e1 : st ++ (toldSt st.length s0 r ++ more) = st ++ (runSt st.length s0 r ++ (runSt (st.length + (r.length + 2)) s0 r ++ [.lst [.loc (st.length + 1), .loc (st.length + (r.length + 2) + 1)]] ++ more)) := by
    simp only [toldSt, List.append_assoc]
  have l2 : (st ++ runSt st.length s0 r).length = st.length + (r.length + 2) := by simp only [List.length_append, runSt_len]
  have e2 : st ++ (toldSt st.length s0 r ++ more) = (st ++ runSt st.length s0 r) ++ (runSt (st ++ runSt st.length s0 r).length s0 r ++ ([.lst [.loc (st.length + 1), .loc (st.length + (r.length + 2) + 1)]] ++ more)) := by
    rw [l2]; simp only [toldSt, List.append_assoc]
  have d1 := deep_run st (runSt (st.length + (r.length + 2)) s0 r ++ [.lst [.loc (st.length + 1), .loc (st.length + (r.length + 2) + 1)]] ++ more) s0 r k
  have d2 := deep_run (st ++ runSt st.length s0 r) ([.lst [.loc (st.length + 1), .loc (st.length + (r.length + 2) + 1)]] ++ more) s0 r k
  rw [← e1] at d1
  rw [← e2, l2] at d2
  simp only [mapO, d1, d2]
section
variable {T : List (Addr × Str)} {n : Nat} {h rest : Store} {t : Tk} {X : D} {ks : List Nat} {v0 v2 v3 v4 v5 v6 v7 v8 v9 v10 v11 v12 v13 v14 v15 v16 v17 v18 v19 : Option W}
theorem cost_ni (r : TkR t X) (o : TkOk t) (u : Bool) (hk : ks.length ≤ 100) (ha : (alongR t 0 ks t.s).1 = .non) : f_cost [X, .seq u (ni ks)] = .ok (.int (costS t (.seq true (ni ks)))) := by
  have := cost_ok r o (gd_ni u hk)
  rw [alongD_ni, ha] at this
  rw [this]; rfl
theorem Lcost_ni (r : TkR t X) (u : Bool) (hk : ks.length ≤ 100) (ha : (alongR t 0 ks t.s).1 = .non) : f_L_cost [X, .seq u (ni ks)] = .ok (.int (costS t (.seq true (ni ks)))) := by
  have := L_cost_ok r (gd_ni u hk) (by rw [alongD_ni]; exact ha)
  rw [this]; rfl
theorem mul_rep (x : D) (k : Nat) (hk : k ≤ 10) (st : Store) : oMul true (.d (.seq false [x])) (.d (.int k)) st = some (.d (.seq false (List.replicate k x)), st) := by
  have e : (List.replicate k [W.d x]).flatten = (List.replicate k x).map W.d := by
    induction k with
    | zero => rfl
    | succ k ih => rw [List.replicate_succ, List.flatten_cons, ih (by omega)]; rfl
  have c : 0 ≤ (k : Int) ∧ (k : Int) < 2 ^ 63 ∧ 1 * (k : Int).toNat ≤ sizeLine := ⟨by omega, by omega, by rw [Int.toNat_natCast, Nat.one_mul]; exact small_of (by omega)⟩
  simp only [oMul, vw, vwD, List.map_cons, List.map_nil, List.length_cons, List.length_nil, Nat.zero_add]
  rw [if_pos c, Int.toNat_natCast, e, mkS_d]
def l6a : Ex := (mPure (f_L_same 8) 2 (mCons (eV 7) (mCons (mSeq true false (mCons (eV 5) (mCons (eV 5) mNil))) mNil)))
def l6b : Ex := (mPure (f_L_same 8) 2 (mCons (mSeq true false (mCons (mPure f_cost 2 (mCons (mPure (f_L_copied 8) 1 (mCons (eV 3) mNil)) (mCons (mCall (oList true) (mCons (eV 4) mNil)) mNil))) (mCons (mKw 2 [1, 0] 0 (callP f_cost 2) mNil (mCons (mCall (oTuple true) (mCons (eV 4) mNil)) (mCons (mRaw f_L_handed 2 (mCons (eV 1) (mCons (eV 3) mNil))) mNil))) mNil))) (mCons (mOp (oMul true) (mSeq true false (mCons (mPure f_L_cost 2 (mCons (eV 3) (mCons (eV 4) mNil))) mNil)) (eC (.int 2))) mNil)))
def l6 : Sx := (sIf (mOr (mNot (mT l6a)) (mNot (mT l6b))) (sRet (eC (.bl false))) sNext)
theorem l6a_ok {M A : Nat} (H : Hd T n h) (o : TkOk t) (hk : ks.length ≤ 90) (hA : rest[A]? = some (.lst ((stsD t ks).map .d)))
    (hM : ∀ more k, deepB 0 (k + 3) (h ++ (rest ++ more)) (.loc M) = some (.seq false [.seq false (stsD t ks), .seq false (stsD t ks)])) :
    l6a (rl v0 v2 (some (.d X)) (some (.d (.seq false (ni ks)))) (some (.loc (3 + A))) v6 (some (.loc M)) v8 v9 v10 v11 v12 v13 v14 v15 v16 v17 v18 v19) (h ++ rest) =
      .ok (.d (.bl true)) (h ++ (rest ++ [.lst [.loc (3 + A), .loc (3 + A)]])) := by
  have em : ∀ (a b : Nat) (st : Store), mkS true false [.loc a, .loc b] st = some (.loc st.length, st ++ [.lst [.loc a, .loc b]]) := fun a b st => rfl
  have e5 : 2 ≤ sizeLine := by decide
  have hl : (h ++ (rest ++ [SO.lst [.loc (3 + A), .loc (3 + A)]])).length = (rest.length + 1) + 3 := by simp [H.len]; omega
  have g1 : (h ++ (rest ++ [SO.lst [.loc (3 + A), .loc (3 + A)]]))[(h ++ rest).length]? = some (.lst [.loc (3 + A), .loc (3 + A)]) := by
    rw [← List.append_assoc]; exact get_at
  have g2 := get_rest H [SO.lst [.loc (3 + A), .loc (3 + A)]] hA
  have d1 := hM [SO.lst [.loc (3 + A), .loc (3 + A)]] (rest.length + 1)
  have d2 : deepB 0 ((rest.length + 1) + 3) (h ++ (rest ++ [SO.lst [.loc (3 + A), .loc (3 + A)]])) (.loc (h ++ rest).length) = some (.seq false [.seq false (stsD t ks), .seq false (stsD t ks)]) := by
    refine deepB_lsts g1 ?_
    have d3 := deepB_lst (k := (rest.length + 1) + 1) g2
    simp only [mapO, d3]
  rw [← hl] at d1 d2
  have hx : nice 8 (.seq false [.seq false (stsD t ks), .seq false (stsD t ks)]) = true := by
    have q := nice_sts (t := t) (ks := ks) 4 o hk
    rw [nice]
    simp only [List.all_cons, List.all_nil, q, Bool.and_self, List.length_cons, List.length_nil]
    rfl
  have es := same_deep d1 d2 hx
  simp only [l6a, rl, mPure, mSeq, mCons, mNil, eV, List.getElem?_cons_zero, List.getElem?_cons_succ, R.bind, List.length_cons, List.length_nil, Nat.reduceAdd, e5, if_true, em, R.of, List.append_assoc, es]
theorem l6b_ok (r : TkR t X) (o : TkOk t) (H : Hd T n h) (hk : ks.length ≤ 90) (ha : (alongR t 0 ks t.s).1 = .non) (hn : n + 100 ≤ 2 ^ 43) :
    ∃ h' : Store, l6b (rl v0 v2 (some (.d X)) (some (.d (.seq false (ni ks)))) v5 v6 v7 v8 v9 v10 v11 v12 v13 v14 v15 v16 v17 v18 v19) (h ++ rest) = .ok (.d (.bl true)) (h' ++ rest) ∧ Hd T (n + 40) h' := by
  obtain ⟨X', h1, e1, r1, H1⟩ := handed_ok H rest r o hn
  refine ⟨h1, ?_, H1⟩
  have c1 := cost_ni (ks := ks) r o false (by omega) ha
  have c2 := cost_ni (ks := ks) r1 o true (by omega) ha
  have c3 := Lcost_ni (ks := ks) r false (by omega) ha
  have e4 := copied_tk r o
  have oT : ∀ st, oTuple true [.d (.seq false (ni ks))] st = some (.d (.seq true (ni ks)), st) := fun st => oTup_d false (ni ks) st rfl
  have ep : ∀ a b : W, permL [a, b] [1, 0] = [b, a] := fun a b => rfl
  have e5 : 2 ≤ sizeLine := by decide
  have e6 : 1 ≤ sizeLine := by decide
  generalize costS t (.seq true (ni ks)) = C at *
  have em : ∀ (st : Store), mkS true false [.d (.int C), .d (.int C)] st = some (.d (.seq false [.int C, .int C]), st) := fun st => rfl
  have em1 : ∀ (st : Store), mkS true false [.d (.int C)] st = some (.d (.seq false [.int C]), st) := fun st => rfl
  have mr := fun st => mul_rep (.int C) 2 (by decide) st
  have es : f_L_same 8 [.seq false [.int C, .int C], .seq false [.int C, .int C]] = .ok (.bl true) := same_ok 8 _ rfl
  have mr' : ∀ st, oMul true (.d (.seq false [.int C])) (.d (.int 2)) st = some (.d (.seq false [.int C, .int C]), st) := mr
  simp only [l6b, rl, mSeq, mKw, callP1, callP2, callP3, okF_ok, okF_ex, mPure, sAsg, sPar2, sPar3, sIf, sRet, sDrop, sNext, mT, mOp, mUn, mCall, mCons, mNil, mRaw, mIf, mAnd, mOr, mNot, eV, eC, R.bind, R.bindS, R.of, List.getElem?_cons_zero, List.getElem?_cons_succ, List.set_cons_zero, List.set_cons_succ, List.length_cons, List.length_nil, Nat.reduceAdd, if_true, Tgt.put, e4, oLst_d, c1, oT, e1, and_self, List.nil_append, ep, c2, e5, em, c3, e6, em1, mr', es]
theorem l6_ok {M A : Nat} (r : TkR t X) (o : TkOk t) (H : Hd T n h) (hk : ks.length ≤ 90) (ha : (alongR t 0 ks t.s).1 = .non) (hn : n + 100 ≤ 2 ^ 43) (hA : rest[A]? = some (.lst ((stsD t ks).map .d)))
    (hM : ∀ more k, deepB 0 (k + 3) (h ++ (rest ++ more)) (.loc M) = some (.seq false [.seq false (stsD t ks), .seq false (stsD t ks)])) :
    ∃ h' : Store, l6 (rl v0 v2 (some (.d X)) (some (.d (.seq false (ni ks)))) (some (.loc (3 + A))) v6 (some (.loc M)) v8 v9 v10 v11 v12 v13 v14 v15 v16 v17 v18 v19) (h ++ rest) =
      .ok .nx (rl v0 v2 (some (.d X)) (some (.d (.seq false (ni ks)))) (some (.loc (3 + A))) v6 (some (.loc M)) v8 v9 v10 v11 v12 v13 v14 v15 v16 v17 v18 v19) (h' ++ (rest ++ [.lst [.loc (3 + A), .loc (3 + A)]])) ∧ Hd T (n + 40) h' := by
  have e1 := l6a_ok (X := X) (v0 := v0) (v2 := v2) (v6 := v6) (v8 := v8) (v9 := v9) (v10 := v10) (v11 := v11) (v12 := v12) (v13 := v13) (v14 := v14) (v15 := v15) (v16 := v16) (v17 := v17) (v18 := v18) (v19 := v19) H o hk hA hM
  obtain ⟨h1, e2, H1⟩ := l6b_ok (v0 := v0) (v2 := v2) (v5 := some (.loc (3 + A))) (v6 := v6) (v7 := some (.loc M)) (v8 := v8) (v9 := v9) (v10 := v10) (v11 := v11) (v12 := v12) (v13 := v13) (v14 := v14) (v15 := v15) (v16 := v16) (v17 := v17) (v18 := v18) (v19 := v19) (rest := rest ++ [.lst [.loc (3 + A), .loc (3 + A)]]) r o H hk ha hn
  refine ⟨h1, ?_, H1⟩
  simp only [l6, sIf, mOr, mNot, mT, e1, R.bind, Bool.not_true, Bool.false_eq_true, if_false, e2, R.bindS, sNext]
end
end IL

set_option maxHeartbeats 4000007
namespace IL
open PySem PySem.Spec
open PyProof.Rows L2
theorem atI_0 {α : Type} (x : α) (xs : List α) : L2.atI (x :: xs) 0 = some x := atI_nat _ _ _ (by omega) rfl
def l7 : Sx := (sDrop (mRaw (f_L_spoilt 8) 1 (mCons (mSeq true false (mCons (mOp oIx (mOp oIx (eV 7) (eC (.int 0))) (eC (.int 0))) (mCons (mOp oIx (eV 7) (eC (.int 0))) mNil))) mNil)))
theorem forI_it {g : Store → Nat → Gt} {t : Tgt} {b : Sx} {k i : Nat} {ρ ρ1 ρ2 : En} {st st2 : Store} {x : Iw} (h : g st i = .it x) (hp : t.putI st x ρ = some ρ1) (hb : b ρ1 st = .ok .nx ρ2 st2) : forI g t b (k + 1) i ρ st = forI g t b k (i + 1) ρ2 st2 := by
  simp only [forI, h, hp, hb]
theorem spoilt3 (base more : Store) (s0 : List Str) (r : List (List Str)) (h0 : s0.length ≤ 7) (hr : ∀ s ∈ r, s.length ≤ 7) (hn : r.length ≤ 100) :
    ∃ more' : Store, f_L_spoilt 8 [.loc (base ++ (runSt base.length s0 r ++ more)).length] (base ++ (runSt base.length s0 r ++ more) ++ [.lst [.loc base.length, .loc (base.length + 1)]]) = .ok (.d .non) (base ++ more') ∧ more'.length = (runSt base.length s0 r ++ more).length + 1 ∧
      ∀ N, base.length + 1 < N → (runSt base.length s0 r ++ more).all (okSO N) = true → more'.all (okSO N) = true := by
  generalize hst : base ++ (runSt base.length s0 r ++ more) = st
  have hlen : st.length = base.length + (r.length + 2) + more.length := by rw [← hst]; simp only [List.length_append, runSt_len]; omega
  have a0 : (st ++ [SO.lst [.loc base.length, .loc (base.length + 1)]])[base.length]? = some (sl s0) := by
    rw [List.getElem?_append_left (by omega), ← hst]; exact runSt_0 base more s0 r
  have a1 : (st ++ [SO.lst [.loc base.length, .loc (base.length + 1)]])[base.length + 1]? = some (.lst (lcs base.length r.length)) := by
    rw [List.getElem?_append_left (by omega), ← hst]; exact runSt_1 base more s0 r
  have aj : ∀ j s, r[j]? = some s → (st ++ [SO.lst [.loc base.length, .loc (base.length + 1)]])[base.length + 2 + j]? = some (sl s) := by
    intro j s hj
    have : j < r.length := (List.getElem?_eq_some_iff.mp hj).1
    rw [List.getElem?_append_left (by omega), ← hst]; exact runSt_j base more s0 r j s hj
  have aM : (st ++ [SO.lst [.loc base.length, .loc (base.length + 1)]])[st.length]? = some (.lst [.loc base.length, .loc (base.length + 1)]) := get_at
  have hall : ∀ N, base.length + 1 < N → (runSt base.length s0 r ++ more).all (okSO N) = true → ∀ i so, base.length ≤ i → (st ++ [SO.lst [.loc base.length, .loc (base.length + 1)]])[i]? = some so → okSO N so = true := by
    intro N hN q i so hi he
    by_cases hl : i < st.length
    · rw [List.getElem?_append_left hl, ← hst, List.getElem?_append_right hi] at he
      exact List.all_eq_true.mp q _ (List.mem_of_getElem? he)
    · have e : i = st.length := by
        have := (List.getElem?_eq_some_iff.mp he).1
        simp at this; omega
      subst e
      rw [aM] at he
      cases he
      simp only [okSO, lowO, List.all_cons, List.all_nil, lowW, Bool.and_true, Bool.and_eq_true, decide_eq_true_eq]
      omega
  generalize hS : st ++ [SO.lst [.loc base.length, .loc (base.length + 1)]] = S at *
  have hSl : S.length = st.length + 1 := by rw [← hS]; simp
  have hb1 : base.length < S.length := by omega
  have e1 := spoilt1 5 a0 (by omega)
  have r1 : SpR S (S.set base.length (sl (s0 ++ [("late" : Str)]))) [base.length] := by
    have := spR_set (x := .str "late") a0
    rwa [sl_add] at this
  have hne : ∀ i, base.length ≠ i → (S.set base.length (sl (s0 ++ [("late" : Str)])))[i]? = S[i]? := fun i hi => List.getElem?_set_ne hi
  obtain ⟨st3, e2, r2⟩ := spoilt2 4 (m := base.length + 1) (st := S.set base.length (sl (s0 ++ [("late" : Str)]))) (ms := lcsN base.length r.length) (by rw [hne _ (by omega), a1, lcs_eq]) (by
    intro i hi
    have hlm : (lcsN base.length r.length).length = r.length + 1 := by simp [lcsN]
    rw [hlm]
    rcases List.mem_cons.mp hi with rfl | hi
    · refine ⟨by omega, s0 ++ [("late" : Str)], by rw [List.getElem?_set_self hb1], ?_⟩
      rw [List.length_append, List.length_cons, List.length_nil]; omega
    · obtain ⟨j, hj, rfl⟩ := List.mem_map.mp hi
      have hj : j < r.length := List.mem_range.mp hj
      refine ⟨by omega, r[j], by rw [hne _ (by omega)]; exact aj j _ (List.getElem?_eq_getElem hj), ?_⟩
      have := hr r[j] (List.getElem_mem hj)
      omega) (by simp [lcsN]; omega)
  have r12 := r1.trans r2
  have hM : st3[st.length]? = some (.lst [.loc base.length, .loc (base.length + 1)]) := by
    rw [r12.out]
    · exact aM
    · intro hi
      simp only [List.cons_append, List.nil_append, List.mem_cons, lcsN, List.mem_map, List.mem_range] at hi
      rcases hi with hi | hi | hi | ⟨j, hj, hi⟩ <;> omega
  have f0 : getL st.length S 0 = .it (.one (.loc base.length)) := by simp only [getL, aM]; rfl
  have f1 : getL st.length (S.set base.length (sl (s0 ++ [("late" : Str)]))) 1 = .it (.one (.loc (base.length + 1))) := by
    simp only [getL, hne st.length (by omega), aM]; rfl
  have f2 : getL st.length st3 2 = .stop := by simp only [getL, hM]; rfl
  have b1 : sp_body (f_L_spoilt 7) [some (.loc st.length), none, some (.loc base.length)] S = .ok .nx [some (.loc st.length), none, some (.loc base.length)] (S.set base.length (sl (s0 ++ [("late" : Str)]))) := by
    simp only [sp_body, callP1, callP2, callP3, okF_ok, okF_ex, mPure, sAsg, sPar2, sPar3, sIf, sRet, sDrop, sNext, mT, mOp, mUn, mCall, mCons, mNil, mRaw, mIf, mAnd, mOr, mNot, eV, eC, R.bind, R.bindS, R.of, List.getElem?_cons_zero, List.getElem?_cons_succ, List.set_cons_zero, List.set_cons_succ, List.length_cons, List.length_nil, Nat.reduceAdd, if_true, Tgt.put, e1]
  have b2 : sp_body (f_L_spoilt 7) [some (.loc st.length), none, some (.loc (base.length + 1))] (S.set base.length (sl (s0 ++ [("late" : Str)]))) = .ok .nx [some (.loc st.length), none, some (.loc (base.length + 1))] st3 := by
    simp only [sp_body, callP1, callP2, callP3, okF_ok, okF_ex, mPure, sAsg, sPar2, sPar3, sIf, sRet, sDrop, sNext, mT, mOp, mUn, mCall, mCons, mNil, mRaw, mIf, mAnd, mOr, mNot, eV, eC, R.bind, R.bindS, R.of, List.getElem?_cons_zero, List.getElem?_cons_succ, List.set_cons_zero, List.set_cons_succ, List.length_cons, List.length_nil, Nat.reduceAdd, if_true, Tgt.put, e2]
  have ef : forI (getL st.length) (.nm 2) (sp_body (f_L_spoilt 7)) 2 0 [some (.loc st.length), none, none] S = .ok .nx [some (.loc st.length), none, some (.loc (base.length + 1))] st3 := by
    rw [forI_it f0 rfl b1, forI_it f1 rfl b2]
    simp only [forI, f2]
  have efin := spoilt_fin 7 aM ef hM (by simp)
  have r3 := r12.trans (spR_set (x := .str "late") hM)
  generalize hF : st3.set st.length (.lst ([.loc base.length, .loc (base.length + 1)] ++ [.d (.str "late")])) = F at *
  have htake : F.take base.length = base := by
    apply List.ext_getElem?
    intro i
    by_cases hi : i < base.length
    · rw [List.getElem?_take_of_lt hi, r3.out]
      · rw [← hS, List.getElem?_append_left (by omega), ← hst, List.getElem?_append_left hi]
      · intro hm
        simp only [List.cons_append, List.nil_append, List.mem_cons, lcsN, List.mem_map, List.mem_range, List.mem_append, List.not_mem_nil, or_false] at hm
        rcases hm with hm | hm | hm | hm
        · omega
        · omega
        · rcases hm with hm | ⟨j, hj, hm⟩ <;> omega
        · omega
    · rw [List.getElem?_take_eq_none (by omega), List.getElem?_eq_none (by omega)]
  have hFl : F.length = S.length := r3.len
  refine ⟨F.drop base.length, ?_, ?_, fun N hN q => ?_⟩
  · have hF2 : F = base ++ F.drop base.length := by
      have := List.take_append_drop base.length F
      rw [htake] at this
      exact this.symm
    rw [efin, ← hF2]
  · rw [List.length_drop, hFl, hSl, hlen]
    simp only [List.length_append, runSt_len]; omega
  · rw [List.all_eq_true]
    intro so hso
    obtain ⟨i, hi, e⟩ := List.getElem_of_mem hso
    refine r3.ok N base.length (hall N hN q) (base.length + i) so (by omega) ?_
    rw [List.length_drop] at hi
    rw [List.getElem_drop] at e
    rw [List.getElem?_eq_getElem (by omega), e]
end IL

set_option maxHeartbeats 4000007
namespace IL
open PySem PySem.Spec
open PyProof.Rows L2
section
variable {T : List (Addr × Str)} {n : Nat} {h rest : Store} {t : Tk} {X : D} {ks : List Nat} {v0 v2 v3 v4 v5 v6 v7 v8 v9 v10 v11 v12 v13 v14 v15 v16 v17 v18 v19 : Option W}
theorem l7_ok (base more : Store) (s0 : List Str) (r : List (List Str)) (h0 : s0.length ≤ 7) (hr : ∀ s ∈ r, s.length ≤ 7) (hn : r.length ≤ 100) :
    ∃ more' : Store, l7 (rl v0 v2 v3 v4 v5 v6 (some (.loc (base.length + (r.length + 2) + (r.length + 2)))) v8 v9 v10 v11 v12 v13 v14 v15 v16 v17 v18 v19) (base ++ (toldSt base.length s0 r ++ more)) =
      .ok .nx (rl v0 v2 v3 v4 v5 v6 (some (.loc (base.length + (r.length + 2) + (r.length + 2)))) v8 v9 v10 v11 v12 v13 v14 v15 v16 v17 v18 v19) (base ++ more') ∧ more'.length = (toldSt base.length s0 r ++ more).length + 1 ∧
      ∀ N, base.length + 1 < N → (toldSt base.length s0 r ++ more).all (okSO N) = true → more'.all (okSO N) = true := by
  have hT := told_at base more s0 r
  have e : toldSt base.length s0 r ++ more = runSt base.length s0 r ++ (runSt (base.length + (r.length + 2)) s0 r ++ [.lst [.loc (base.length + 1), .loc (base.length + (r.length + 2) + 1)]] ++ more) := by
    simp only [toldSt, List.append_assoc]
  rw [e] at hT ⊢
  generalize hm : (runSt (base.length + (r.length + 2)) s0 r ++ [.lst [.loc (base.length + 1), .loc (base.length + (r.length + 2) + 1)]] ++ more) = M1 at *
  obtain ⟨more', e1, l1, q1⟩ := spoilt3 base M1 s0 r h0 hr hn
  refine ⟨more', ?_, l1, q1⟩
  have hR := runSt_1 base M1 s0 r
  generalize hS : base ++ (runSt base.length s0 r ++ M1) = S at *
  have i1 : oIx (.loc (base.length + (r.length + 2) + (r.length + 2))) (.d (.int 0)) S = some (.loc (base.length + 1), S) := by
    have v1 : vw S (.loc (base.length + (r.length + 2) + (r.length + 2))) = .sq false [.loc (base.length + 1), .loc (base.length + (r.length + 2) + 1)] := by simp only [vw, hT, vwS]
    have v2 : vw S (.d (.int 0)) = .int 0 := rfl
    simp only [oIx, v1, v2, atI_0, Option.map_some]
  have i2 : oIx (.loc (base.length + 1)) (.d (.int 0)) S = some (.loc base.length, S) := by
    have v1 : vw S (.loc (base.length + 1)) = .sq false (lcs base.length r.length) := by simp only [vw, hR, vwS]
    have v2 : vw S (.d (.int 0)) = .int 0 := rfl
    have v3 : L2.atI (lcs base.length r.length) 0 = some (.loc base.length) := atI_0 _ _
    simp only [oIx, v1, v2, v3, Option.map_some]
  have em : ∀ (a b : Nat) (st : Store), mkS true false [.loc a, .loc b] st = some (.loc st.length, st ++ [.lst [.loc a, .loc b]]) := fun a b st => rfl
  have e5 : 2 ≤ sizeLine := by decide
  simp only [l7, rl, mSeq, callP1, callP2, callP3, okF_ok, okF_ex, mPure, sAsg, sPar2, sPar3, sIf, sRet, sDrop, sNext, mT, mOp, mUn, mCall, mCons, mNil, mRaw, mIf, mAnd, mOr, mNot, eV, eC, R.bind, R.bindS, R.of, List.getElem?_cons_zero, List.getElem?_cons_succ, List.set_cons_zero, List.set_cons_succ, List.length_cons, List.length_nil, Nat.reduceAdd, if_true, Tgt.put, i1, i2, e5, em, e1]
def l8 : Sx := (sIf (mNot (mT (mPure (f_L_same 8) 2 (mCons (mRaw f_runM 2 (mCons (mPure (f_L_copied 8) 1 (mCons (eV 3) mNil)) (mCons (mCall (oList true) (mCons (eV 4) mNil)) mNil))) (mCons (eV 5) mNil))))) (sRet (eC (.bl false))) sNext)
theorem l8_ok {A : Nat} (r : TkR t X) (o : TkOk t) (H : Hd T n h) (hk : ks.length ≤ 90) (ha : (alongR t 0 ks t.s).1 = .non) (hA : rest[A]? = some (.lst ((stsD t ks).map .d))) :
    l8 (rl v0 v2 (some (.d X)) (some (.d (.seq false (ni ks)))) (some (.loc (3 + A))) v6 v7 v8 v9 v10 v11 v12 v13 v14 v15 v16 v17 v18 v19) (h ++ rest) =
      .ok .nx (rl v0 v2 (some (.d X)) (some (.d (.seq false (ni ks)))) (some (.loc (3 + A))) v6 v7 v8 v9 v10 v11 v12 v13 v14 v15 v16 v17 v18 v19) (h ++ (rest ++ runSt (3 + rest.length) t.s (statesT t ks t.s))) := by
  have e1 := run_ni (ks := ks) r o false (by omega) ha (h ++ rest)
  have e4 := copied_tk r o
  have hL : (h ++ rest).length = 3 + rest.length := by simp [H.len]
  have d1 := deep_run (h ++ rest) [] t.s (statesT t ks t.s) (rest.length + (statesT t ks t.s).length + 3)
  have g2 := get_rest H (runSt (3 + rest.length) t.s (statesT t ks t.s)) hA
  have d2 := deepB_lst (k := rest.length + (statesT t ks t.s).length + 3 + 1) g2
  rw [List.append_nil, hL, List.append_assoc] at d1
  rw [hL, List.append_assoc] at e1
  have hl : (h ++ (rest ++ runSt (3 + rest.length) t.s (statesT t ks t.s))).length = rest.length + (statesT t ks t.s).length + 3 + 2 := by
    simp only [List.length_append, runSt_len, H.len]; omega
  have es := same_deep (x := .seq false (stsD t ks)) (by rw [hl]; exact d1) (by rw [hl]; exact d2) (nice_sts (k := 5) o hk)
  simp only [l8, rl, callP1, callP2, callP3, okF_ok, okF_ex, mPure, sAsg, sPar2, sPar3, sIf, sRet, sDrop, sNext, mT, mOp, mUn, mCall, mCons, mNil, mRaw, mIf, mAnd, mOr, mNot, eV, eC, R.bind, R.bindS, R.of, List.getElem?_cons_zero, List.getElem?_cons_succ, List.set_cons_zero, List.set_cons_succ, List.length_cons, List.length_nil, Nat.reduceAdd, if_true, Tgt.put, e4, oLst_d, e1, es, Bool.not_true, Bool.false_eq_true, if_false]
def l9 : Sx := (sAsg (.tp [(.nm 8), (.nm 9)]) (mSeq true true (mCons (mRaw f_L_draw 2 (mCons (eV 1) (mCons (mOp (oAdd true) (mCall oLen (mCons (eV 4) mNil)) (eC (.int 1))) mNil))) (mCons (mCall oLen (mCons (mOp oIx (eV 3) (eC (.int 1))) mNil)) mNil))))
theorem ni_len (ks : List Nat) : (ni ks).length = ks.length := by simp [ni]
theorem l9_ok (r : TkR t X) (H : Hd T n h) (hk : ks.length ≤ 90) (hn : n + 100 ≤ 2 ^ 43) :
    ∃ (a : Int) (h' : Store), l9 (rl v0 v2 (some (.d X)) (some (.d (.seq false (ni ks)))) v5 v6 v7 v8 v9 v10 v11 v12 v13 v14 v15 v16 v17 v18 v19) (h ++ rest) =
      .ok .nx (rl v0 v2 (some (.d X)) (some (.d (.seq false (ni ks)))) v5 v6 v7 (some (.d (.int a))) (some (.d (.int t.ds.length))) v10 v11 v12 v13 v14 v15 v16 v17 v18 v19) (h' ++ rest) ∧ 0 ≤ a ∧ a ≤ ks.length ∧ Hd T (n + 1) h' := by
  obtain ⟨f, a, b, ys, c, e, rfl, p⟩ := r
  have i1 : ∀ st : Store, oIx (.d (.seq f [txs a t.fs, .seq b ys, txs c t.s, txs e t.g])) (.d (.int 1)) st = some (.d (.seq b ys), st) := fun st => rfl
  have hl : ys.length = t.ds.length := (pair_len p).symm
  generalize hX : D.seq f [txs a t.fs, .seq b ys, txs c t.s, txs e t.g] = X at *
  obtain ⟨k, h1, e1, k0, k1, H1⟩ := draw_ok H rest ((ks.length : Int) + 1) (by omega) (by omega) (by omega)
  refine ⟨k, h1, ?_, k0, by omega, H1⟩
  have ea : ∀ st : Store, oAdd true (.d (.int ks.length)) (.d (.int 1)) st = some (.d (.int ((ks.length : Int) + 1)), st) := fun st => rfl
  have em : ∀ (a b : D) (st : Store), mkS true true [.d a, .d b] st = some (.d (.seq true [a, b]), st) := fun a b st => rfl
  have e5 : 2 ≤ sizeLine := by decide
  have ez : mSeq true true (mCons (mRaw f_L_draw 2 (mCons (eV 1) (mCons (mOp (oAdd true) (mCall oLen (mCons (eV 4) mNil)) (eC (.int 1))) mNil))) (mCons (mCall oLen (mCons (mOp oIx (eV 3) (eC (.int 1))) mNil)) mNil)) (rl v0 v2 (some (.d X)) (some (.d (.seq false (ni ks)))) v5 v6 v7 v8 v9 v10 v11 v12 v13 v14 v15 v16 v17 v18 v19) (h ++ rest) = .ok (.d (.seq true [.int k, .int t.ds.length])) (h1 ++ rest) := by
    simp only [rl, mSeq, callP1, callP2, callP3, okF_ok, okF_ex, mPure, sAsg, sPar2, sPar3, sIf, sRet, sDrop, sNext, mT, mOp, mUn, mCall, mCons, mNil, mRaw, mIf, mAnd, mOr, mNot, eV, eC, R.bind, R.bindS, R.of, List.getElem?_cons_zero, List.getElem?_cons_succ, List.set_cons_zero, List.set_cons_succ, List.length_cons, List.length_nil, Nat.reduceAdd, if_true, Tgt.put, len_seq, ni_len, ea, e1, i1, hl, e5, em]
  simp only [l9, sAsg, ez, R.bindS, put_pair]
  rfl
def l10 : Sx := (sAsg (.nm 10) (mRaw f_L_pick 2 (mCons (eV 1) (mCons (mSeq true false (mCons (eC .non) (mCons (mUn oNeg (eC (.int 1))) (mCons (eV 9) (mCons (mOp (oAdd true) (eV 9) (eC (.int 9))) (mCons (eC (.bl true)) (mCons (eC (.str "0")) (mCons (mSeq true false (mCons (eC (.int 0)) mNil)) mNil)))))))) mNil))))
theorem l10_ok (H : Hd T n h) (m : Nat) (hn : n + 100 ≤ 2 ^ 43) :
    ∃ (x : D) (h' : Store), l10 (rl v0 v2 v3 v4 v5 v6 v7 v8 (some (.d (.int m))) v10 v11 v12 v13 v14 v15 v16 v17 v18 v19) (h ++ rest) =
      .ok .nx (rl v0 v2 v3 v4 v5 v6 v7 v8 (some (.d (.int m))) (some (.d x)) v11 v12 v13 v14 v15 v16 v17 v18 v19) (h' ++ rest) ∧ smp x = true ∧ nice 7 x = true ∧ Hd T (n + 1) h' := by
  obtain ⟨x, hx, h1, e1, H1⟩ := pick_ok H rest false [.non, .int (-1), .int m, .int (m + 9), .bl true, .str "0", .seq false [.int 0]] (by simp) (by simp) (by omega)
  have ez : mSeq true false (mCons (eC .non) (mCons (mUn oNeg (eC (.int 1))) (mCons (eV 9) (mCons (mOp (oAdd true) (eV 9) (eC (.int 9))) (mCons (eC (.bl true)) (mCons (eC (.str "0")) (mCons (mSeq true false (mCons (eC (.int 0)) mNil)) mNil))))))) (rl v0 v2 v3 v4 v5 v6 v7 v8 (some (.d (.int m))) v10 v11 v12 v13 v14 v15 v16 v17 v18 v19) (h ++ rest) = .ok (.d (.seq false [.non, .int (-1), .int m, .int (m + 9), .bl true, .str "0", .seq false [.int 0]])) (h ++ rest) := rfl
  refine ⟨x, h1, ?_, ?_, ?_, H1⟩
  · have e0 : eV 1 (rl v0 v2 v3 v4 v5 v6 v7 v8 (some (.d (.int m))) v10 v11 v12 v13 v14 v15 v16 v17 v18 v19) (h ++ rest) = .ok (.loc 2) (h ++ rest) := rfl
    simp only [l10, sAsg, mRaw, mCons, mNil, e0, ez, R.bind, R.bindS, List.length_cons, List.length_nil, Nat.reduceAdd, if_true, e1, Tgt.put]
    rfl
  · simp only [List.mem_cons, List.not_mem_nil, or_false] at hx
    rcases hx with rfl | rfl | rfl | rfl | rfl | rfl | rfl <;> rfl
  · simp only [List.mem_cons, List.not_mem_nil, or_false] at hx
    rcases hx with rfl | rfl | rfl | rfl | rfl | rfl | rfl <;> rfl
end
end IL

set_option maxHeartbeats 4000007
namespace IL
open PySem PySem.Spec
open PyProof.Rows L2
/-! ### things -/
structure ItemOk (z : D) : Prop where
  s : smp z = true
  n : nice 7 z = true
structure Thing (x : D) : Prop where
  g : gd x = true
  n : nice 8 x = true
theorem thing_seq (t : Bool) {xs : List D} (h : ∀ z ∈ xs, ItemOk z) (hl : xs.length ≤ 100) : Thing (.seq t xs) where
  g := by
    have : xs.all smp = true := List.all_eq_true.mpr fun z hz => (h z hz).s
    simp only [gd, this, hl, decide_true, Bool.and_self]
  n := by
    rw [nice, Bool.and_eq_true, List.all_eq_true]
    exact ⟨fun z hz => (h z hz).n, by simpa using hl⟩
theorem item_ni {ks : List Nat} : ∀ z ∈ ni ks, ItemOk z := fun z hz => by
  obtain ⟨k, _, rfl⟩ := List.mem_map.mp hz
  exact ⟨rfl, rfl⟩
theorem cutW_mem {α : Type} {xs : List α} {lo hi : Option Int} {z : α} (h : z ∈ cutW xs lo hi) : z ∈ xs := List.mem_of_mem_drop (List.mem_of_mem_take h)
theorem cutW_len {α : Type} (xs : List α) (lo hi : Option Int) : (cutW xs lo hi).length ≤ xs.length := by
  unfold cutW
  rw [List.length_take, List.length_drop]; omega
def l11 : Sx := (sAsg (.nm 11) (mSeq false false (mCons (eV 4) (mCons (mCall (oTuple true) (mCons (eV 4) mNil)) (mCons (mSl true (eV 4) (mP (eC (.int 1))) mP0) (mCons (mSl true (eV 4) mP0 (mP (mUn oNeg (eC (.int 1))))) (mCons (mUn (oRev true) (eV 4)) (mCons (mOp (oAdd true) (mOp (oAdd true) (mSl true (eV 4) mP0 (mP (eV 8))) (mSeq true false (mCons (eV 10) mNil))) (mSl true (eV 4) (mP (eV 8)) mP0)) (mCons (mSeq true false (mCons (eV 10) mNil)) (mCons (mSeq true false mNil) (mCons (eC .non) (mCons (eC (.str "01")) (mCons (mDict0 true) (mCons (eC (.int 5)) (mCons (mOp (oAdd true) (eV 4) (eV 4)) mNil)))))))))))))))
theorem add_seqs (xs ys : List D) (h : xs.length + ys.length ≤ 1000) (st : Store) : oAdd true (.d (.seq false xs)) (.d (.seq false ys)) st = some (.d (.seq false (xs ++ ys)), st) := by
  have hl : (xs.map W.d).length + (ys.map W.d).length ≤ sizeLine := small_of (by simpa using h)
  simp only [oAdd, vw, vwD, hl, if_true]
  rw [← List.map_append, mkS_d]
theorem rev_seq (xs : List D) (st : Store) : oRev true (.d (.seq false xs)) st = some (.d (.seq false xs.reverse), st) := by
  simp only [oRev, vw, vwD]
  rw [← List.map_reverse, mkS_d]
theorem sl_seq (xs : List D) (lo hi : Option Int) (st : Store) : oSl true (.d (.seq false xs)) lo hi st = some (.d (.seq false (cutW xs lo hi)), st) := rfl
section
variable {T : List (Addr × Str)} {n : Nat} {h rest : Store} {t : Tk} {X : D} {ks : List Nat} {v0 v2 v3 v4 v5 v6 v7 v8 v9 v10 v11 v12 v13 v14 v15 v16 v17 v18 v19 : Option W}
theorem l11_ok (H : Hd T n h) (hk : ks.length ≤ 40) (at' : Int) {x : D} (hx : ItemOk x) :
    ∃ ts : List D, l11 (rl v0 v2 v3 (some (.d (.seq false (ni ks)))) v5 v6 v7 (some (.d (.int at'))) v9 (some (.d x)) v11 v12 v13 v14 v15 v16 v17 v18 v19) (h ++ rest) =
      .ok .nx (rl v0 v2 v3 (some (.d (.seq false (ni ks)))) v5 v6 v7 (some (.d (.int at'))) v9 (some (.d x)) (some (.loc (3 + rest.length))) v12 v13 v14 v15 v16 v17 v18 v19) (h ++ (rest ++ [.lst (ts.map .d)])) ∧ (∀ y ∈ ts, Thing y) ∧ ts.length = 13 := by
  have hln := ni_len ks
  have hN : (h ++ rest).length = 3 + rest.length := by simp [H.len]
  refine ⟨[.seq false (ni ks), .seq true (ni ks), .seq false (cutW (ni ks) (some 1) none), .seq false (cutW (ni ks) none (some (-1))), .seq false (ni ks).reverse, .seq false (cutW (ni ks) none (some at') ++ [x] ++ cutW (ni ks) (some at') none),
    .seq false [x], .seq false [], .non, .str "01", .dct [], .int 5, .seq false (ni ks ++ ni ks)], ?_, ?_, rfl⟩
  · have c1 := cutW_len (ni ks) none (some at')
    have c2 := cutW_len (ni ks) (some at') none
    have oT : ∀ st, oTuple true [.d (.seq false (ni ks))] st = some (.d (.seq true (ni ks)), st) := fun st => oTup_d false (ni ks) st rfl
    have a1 : ∀ st, oAdd true (.d (.seq false (cutW (ni ks) none (some at')))) (.d (.seq false [x])) st = some (.d (.seq false (cutW (ni ks) none (some at') ++ [x])), st) := fun st => add_seqs _ _ (by simp only [List.length_cons, List.length_nil]; omega) st
    have a2 : ∀ st, oAdd true (.d (.seq false (cutW (ni ks) none (some at') ++ [x]))) (.d (.seq false (cutW (ni ks) (some at') none))) st = some (.d (.seq false (cutW (ni ks) none (some at') ++ [x] ++ cutW (ni ks) (some at') none)), st) := fun st => add_seqs _ _ (by simp only [List.length_append, List.length_cons, List.length_nil]; omega) st
    have a3 : ∀ st, oAdd true (.d (.seq false (ni ks))) (.d (.seq false (ni ks))) st = some (.d (.seq false (ni ks ++ ni ks)), st) := fun st => add_seqs _ _ (by omega) st
    have hng : ∀ st : Store, oNeg (.d (.int 1)) st = some (.d (.int (-1)), st) := fun st => rfl
    have s1 : ∀ (st : Store), mkS true false [.d x] st = some (.d (.seq false [x]), st) := fun st => rfl
    have s0 : ∀ (st : Store), mkS true false [] st = some (.d (.seq false []), st) := fun st => rfl
    have e13 : 13 ≤ sizeLine := by decide
    have e1 : 1 ≤ sizeLine := by decide
    have e0 : 0 ≤ sizeLine := by decide
    have ed : ∀ (ρ : En) (st : Store), mDict0 true ρ st = .ok (.d (.dct [])) st := fun ρ st => rfl
    have vi : ∀ (i : Int) (st : Store), vw st (.d (.int i)) = .int i := fun i st => rfl
    have em : ∀ (ws : List W) (st : Store), mkS false false ws st = some (.loc st.length, st ++ [.lst ws]) := fun ws st => rfl
    simp only [l11, rl, mSeq, mSl, mP, mP0, callP1, callP2, callP3, okF_ok, okF_ex, mPure, sAsg, sPar2, sPar3, sIf, sRet, sDrop, sNext, mT, mOp, mUn, mCall, mCons, mNil, mRaw, mIf, mAnd, mOr, mNot, eV, eC, R.bind, R.bindS, R.of, List.getElem?_cons_zero, List.getElem?_cons_succ, List.set_cons_zero, List.set_cons_succ, List.length_cons, List.length_nil, Nat.reduceAdd, if_true, Tgt.put, oT, sl_seq, vi, hng, rev_seq, s1, s0, e1, e0, a1, a2, ed, a3, e13, em, hN, List.append_assoc]
    rfl
  · have hi := item_ni (ks := ks)
    simp only [List.forall_mem_cons]
    refine ⟨thing_seq _ hi (by omega), thing_seq _ hi (by omega), thing_seq _ (fun z hz => hi z (cutW_mem hz)) (by have := cutW_len (ni ks) (some 1) none; omega), thing_seq _ (fun z hz => hi z (cutW_mem hz)) (by have := cutW_len (ni ks) none (some (-1)); omega),
      thing_seq _ (fun z hz => hi z (List.mem_reverse.mp hz)) (by rw [List.length_reverse]; omega), thing_seq _ (fun z hz => ?_) ?_, thing_seq _ (fun z hz => ?_) (by simp), thing_seq _ (fun z hz => by cases hz) (by simp), ⟨rfl, rfl⟩, ⟨rfl, rfl⟩, ⟨rfl, rfl⟩, ⟨rfl, rfl⟩, thing_seq _ (fun z hz => ?_) ?_, by simp⟩
    · rcases List.mem_append.mp hz with hz | hz
      · rcases List.mem_append.mp hz with hz | hz
        · exact hi z (cutW_mem hz)
        · rw [List.mem_singleton] at hz; subst hz; exact hx
      · exact hi z (cutW_mem hz)
    · have c1 := cutW_len (ni ks) none (some at')
      have c2 := cutW_len (ni ks) (some at') none
      simp only [List.length_append, List.length_cons, List.length_nil]; omega
    · rw [List.mem_singleton] at hz; subst hz; exact hx
    · rcases List.mem_append.mp hz with hz | hz <;> exact hi z hz
    · rw [List.length_append]; omega
def dEl : Ex := (mRaw f_L_draw 2 (mCons (eV 1) (mCons (mOp (oAdd true) (eV 9) (eC (.int 1))) mNil)))
theorem lcL_ints (m : Nat) (hm : m ≤ 100) : ∀ (k : Nat) (i : Int) (n : Nat) (h : Store) (v19 : Option W), Hd T n h → n + k + 100 ≤ 2 ^ 43 →
    ∃ (zs : List Int) (h' : Store), lcL (.nm 19) tYesX dEl (rl v0 v2 v3 v4 v5 v6 v7 v8 (some (.d (.int m))) v10 v11 v12 v13 v14 v15 v16 v17 v18 v19) (rngL i k) (h ++ rest) = .ok ((zs.map D.int).map .d) (h' ++ rest) ∧ zs.length = k ∧ Hd T (n + k) h'
  | 0, i, n, h, v19, H, _ => ⟨[], h, rfl, rfl, H⟩
  | k + 1, i, n, h, v19, H, hn => by
    obtain ⟨z, h1, e1, _, _, H1⟩ := draw_ok H rest ((m : Int) + 1) (by omega) (by omega) (by omega)
    obtain ⟨zs, h2, e2, l2, H2⟩ := lcL_ints m hm k (i + 1) (n + 1) h1 v19 H1 (by omega)
    refine ⟨z :: zs, h2, ?_, by simp [l2], H2.mono (by omega)⟩
    have ep : Tgt.putI (h ++ rest) (.nm 19) (one (.int i)) (rl v0 v2 v3 v4 v5 v6 v7 v8 (some (.d (.int m))) v10 v11 v12 v13 v14 v15 v16 v17 v18 v19) = some (rl v0 v2 v3 v4 v5 v6 v7 v8 (some (.d (.int m))) v10 v11 v12 v13 v14 v15 v16 v17 v18 (some (.d (.int i)))) := rfl
    have ea : ∀ st : Store, oAdd true (.d (.int m)) (.d (.int 1)) st = some (.d (.int ((m : Int) + 1)), st) := fun st => rfl
    have ee : dEl (rl v0 v2 v3 v4 v5 v6 v7 v8 (some (.d (.int m))) v10 v11 v12 v13 v14 v15 v16 v17 v18 (some (.d (.int i)))) (h ++ rest) = .ok (.d (.int z)) (h1 ++ rest) := by
      simp only [dEl, rl, callP1, callP2, callP3, okF_ok, okF_ex, mPure, sAsg, sPar2, sPar3, sIf, sRet, sDrop, sNext, mT, mOp, mUn, mCall, mCons, mNil, mRaw, mIf, mAnd, mOr, mNot, eV, eC, R.bind, R.bindS, R.of, List.getElem?_cons_zero, List.getElem?_cons_succ, List.set_cons_zero, List.set_cons_succ, List.length_cons, List.length_nil, Nat.reduceAdd, if_true, Tgt.put, ea, e1]
    simp only [rngL, lcL, ep, tYesX, noEx, R.bind, if_true, ee, e2, List.map_cons]
def l12 : Sx := (sDrop (mMeth oExtend (eV 11) (mCons (mSeq true false (mCons (mLc true (srRng1 (mCons (eC (.int 4)) mNil)) (.nm 19) [19] tYesX dEl) (mCons (mLc true (srRng1 (mCons (eC (.int 2)) mNil)) (.nm 19) [19] tYesX dEl) mNil))) mNil)))
theorem item_ints (zs : List Int) : ∀ z ∈ zs.map D.int, ItemOk z := fun z hz => by
  obtain ⟨k, _, rfl⟩ := List.mem_map.mp hz
  exact ⟨rfl, rfl⟩
theorem mLc_ints (H : Hd T n h) (m : Nat) (hm : m ≤ 100) (j : Int) (hj : 0 ≤ j) (hj2 : j ≤ 100) (hn : n + 300 ≤ 2 ^ 43) :
    ∃ (zs : List Int) (h' : Store), mLc true (srRng1 (mCons (eC (.int j)) mNil)) (.nm 19) [19] tYesX dEl (rl v0 v2 v3 v4 v5 v6 v7 v8 (some (.d (.int m))) v10 v11 v12 v13 v14 v15 v16 v17 v18 v19) (h ++ rest) = .ok (.d (.seq false (zs.map D.int))) (h' ++ rest) ∧ zs.length = j.toNat ∧ Hd T (n + j.toNat) h' := by
  obtain ⟨zs, h1, e1, l1, H1⟩ := lcL_ints (T := T) (rest := rest) (v0 := v0) (v2 := v2) (v3 := v3) (v4 := v4) (v5 := v5) (v6 := v6) (v7 := v7) (v8 := v8) (v10 := v10) (v11 := v11) (v12 := v12) (v13 := v13) (v14 := v14) (v15 := v15) (v16 := v16) (v17 := v17) (v18 := v18) m hm j.toNat 0 n h none H (by omega)
  refine ⟨zs, h1, ?_, l1, H1⟩
  have ei : inR j = true := by simp only [inR, Bool.and_eq_true, decide_eq_true_eq]; omega
  have ew : wipeE (rl v0 v2 v3 v4 v5 v6 v7 v8 (some (.d (.int m))) v10 v11 v12 v13 v14 v15 v16 v17 v18 v19) [19] = rl v0 v2 v3 v4 v5 v6 v7 v8 (some (.d (.int m))) v10 v11 v12 v13 v14 v15 v16 v17 v18 none := rfl
  have hs : ((zs.map D.int).map W.d).length ≤ sizeLine := small_of (by simp [l1]; omega)
  simp only [mLc, srRng1, mCons, mNil, eC, R.bind, asInt, ei, if_true, lcS, ew]
  rw [e1]
  simp only [R.bind, hs, if_true, mkS_d, R.of]
theorem l12_ok (H : Hd T n h) (m : Nat) (hm : m ≤ 100) {ts : List D} (hts : ∀ y ∈ ts, Thing y) (hl : ts.length = 13) (hn : n + 400 ≤ 2 ^ 43) :
    ∃ (ts' : List D) (h' : Store), l12 (rl v0 v2 v3 v4 v5 v6 v7 v8 (some (.d (.int m))) v10 (some (.loc (3 + rest.length))) v12 v13 v14 v15 v16 v17 v18 v19) (h ++ (rest ++ [.lst (ts.map .d)])) =
      .ok .nx (rl v0 v2 v3 v4 v5 v6 v7 v8 (some (.d (.int m))) v10 (some (.loc (3 + rest.length))) v12 v13 v14 v15 v16 v17 v18 v19) (h' ++ (rest ++ [.lst (ts'.map .d)])) ∧ (∀ y ∈ ts', Thing y) ∧ ts'.length = 15 ∧ Hd T (n + 6) h' := by
  obtain ⟨z1, h1, e1, l1, H1⟩ := mLc_ints (T := T) (rest := rest ++ [.lst (ts.map .d)]) (v0 := v0) (v2 := v2) (v3 := v3) (v4 := v4) (v5 := v5) (v6 := v6) (v7 := v7) (v8 := v8) (v10 := v10) (v11 := some (.loc (3 + rest.length))) (v12 := v12) (v13 := v13) (v14 := v14) (v15 := v15) (v16 := v16) (v17 := v17) (v18 := v18) (v19 := v19) H m hm 4 (by decide) (by decide) (by omega)
  obtain ⟨z2, h2, e2, l2, H2⟩ := mLc_ints (T := T) (rest := rest ++ [.lst (ts.map .d)]) (v0 := v0) (v2 := v2) (v3 := v3) (v4 := v4) (v5 := v5) (v6 := v6) (v7 := v7) (v8 := v8) (v10 := v10) (v11 := some (.loc (3 + rest.length))) (v12 := v12) (v13 := v13) (v14 := v14) (v15 := v15) (v16 := v16) (v17 := v17) (v18 := v18) (v19 := v19) H1 m hm 2 (by decide) (by decide) (by show n + 4 + 300 ≤ 2 ^ 43; omega)
  refine ⟨ts ++ [.seq false (z1.map .int), .seq false (z2.map .int)], h2, ?_, ?_, by simp [hl], H2⟩
  · have hv : vw (h ++ (rest ++ [.lst (ts.map .d)])) (.loc (3 + rest.length)) = .sq false (ts.map .d) := by simp only [vw, at3 H, vwS]
    have e1' : mLc true (srRng1 (mCons (eC (.int 4)) mNil)) (.nm 19) [19] tYesX dEl (rl v0 v2 v3 v4 v5 v6 v7 v8 (some (.d (.int m))) v10 (some (.loc (3 + rest.length))) v12 v13 v14 v15 v16 v17 v18 v19) (h ++ (rest ++ [.lst (ts.map .d)])) = _ := e1
    have e2' : mLc true (srRng1 (mCons (eC (.int 2)) mNil)) (.nm 19) [19] tYesX dEl (rl v0 v2 v3 v4 v5 v6 v7 v8 (some (.d (.int m))) v10 (some (.loc (3 + rest.length))) v12 v13 v14 v15 v16 v17 v18 v19) (h1 ++ (rest ++ [.lst (ts.map .d)])) = _ := e2
    have em : ∀ (a b : D) (st : Store), mkS true false [.d a, .d b] st = some (.d (.seq false [a, b]), st) := fun a b st => rfl
    have e5 : 2 ≤ sizeLine := by decide
    have es : mSeq true false (mCons (mLc true (srRng1 (mCons (eC (.int 4)) mNil)) (.nm 19) [19] tYesX dEl) (mCons (mLc true (srRng1 (mCons (eC (.int 2)) mNil)) (.nm 19) [19] tYesX dEl) mNil)) (rl v0 v2 v3 v4 v5 v6 v7 v8 (some (.d (.int m))) v10 (some (.loc (3 + rest.length))) v12 v13 v14 v15 v16 v17 v18 v19) (h ++ (rest ++ [.lst (ts.map .d)])) = .ok (.d (.seq false [.seq false (z1.map .int), .seq false (z2.map .int)])) (h2 ++ (rest ++ [.lst (ts.map .d)])) := by
      simp only [mSeq, mCons, mNil] at e1' e2' ⊢
      simp only [e1', e2', R.bind, List.length_cons, List.length_nil, Nat.reduceAdd, e5, if_true, em, R.of]
    have e0 : eV 11 (rl v0 v2 v3 v4 v5 v6 v7 v8 (some (.d (.int m))) v10 (some (.loc (3 + rest.length))) v12 v13 v14 v15 v16 v17 v18 v19) (h ++ (rest ++ [.lst (ts.map .d)])) = .ok (.loc (3 + rest.length)) (h ++ (rest ++ [.lst (ts.map .d)])) := rfl
    have ex : oExtend (.loc (3 + rest.length)) [.d (.seq false [D.seq false (z1.map .int), D.seq false (z2.map .int)])] (h2 ++ (rest ++ [.lst (ts.map .d)])) = some (.d .non, h2 ++ (rest ++ [.lst ((ts ++ [D.seq false (z1.map .int), D.seq false (z2.map .int)]).map .d)])) := by
      have v2 : vw (h2 ++ (rest ++ [.lst (ts.map .d)])) (.d (.seq false [.seq false (z1.map .int), .seq false (z2.map .int)])) = .sq false [.d (.seq false (z1.map .int)), .d (.seq false (z2.map .int))] := rfl
      have c : (ts.map W.d).length + [W.d (D.seq false (z1.map .int)), W.d (D.seq false (z2.map .int))].length ≤ sizeLine := small_of (by simp [hl])
      simp only [oExtend, at3 H2, v2, c, if_true, set3 H2, List.map_append, List.map_cons, List.map_nil]
    simp only [l12, sDrop, mMeth, e0, R.bind, hv, mCons, mNil, es, ex, R.of, R.bindS]
  · intro y hy
    rcases List.mem_append.mp hy with hy | hy
    · exact hts y hy
    · simp only [List.mem_cons, List.not_mem_nil, or_false] at hy
      rcases hy with rfl | rfl
      · exact thing_seq _ (item_ints z1) (by simp [l1])
      · exact thing_seq _ (item_ints z2) (by simp [l2])
end
end IL

set_option maxHeartbeats 4000007
namespace IL
open PySem PySem.Spec
open PyProof.Rows L2
/-! ### each thing looked at -/
theorem alongR_nice (t : Tk) (m : Nat) : ∀ (ks : List Nat) (i : Nat) (s : List Str), nice (m + 2) (alongR t i ks s).1 = true
  | [], _, _ => rfl
  | k :: ks, i, s => by
    simp only [alongR]
    cases t.ds[k]? with
    | none => rfl
    | some d =>
      simp only
      cases lackOf d.nd s with
      | some f => rfl
      | none => exact alongR_nice t m ks (i + 1) _
theorem alongD_nice (t : Tk) (m : Nat) (x : D) : nice (m + 2) (alongD t x).1 = true := by
  unfold alongD
  split
  · split
    · exact alongR_nice t m _ _ _
    · rfl
  · rfl
theorem planD_nice (t : Tk) (m : Nat) (x : D) : nice (m + 2) (planD t x) = true := by
  have h := alongD_nice t m x
  unfold planD
  split
  · split <;> rfl
  · exact h
theorem nice_two (k : Nat) {x : D} (t : Bool) (h : nice k x = true) : nice (k + 1) (.seq t [x, x]) = true := by
  rw [nice]
  simp only [List.all_cons, List.all_nil, h, Bool.and_self, List.length_cons, List.length_nil]
  rfl
def clauses : List (Str × Str × Str) := [("BadTask", "task", "fault"), ("BadPlan", "plan", "fault")]
theorem met_plan (F : D) (st : Store) : metEx true clauses "BadPlan" "fault" (.d F) st = .ok (.d (.seq true [.str "plan", F])) st := rfl
theorem met_task (F : D) (st : Store) : metEx true clauses "BadTask" "fault" (.d F) st = .ok (.d (.seq true [.str "task", F])) st := rfl
theorem mMet_ex {T : List (Addr × Str)} {m : Ex} {ρ : En} {st st1 : Store} {c f : Str} {w : W} (ht : tabsAre T st = true) (e : m ρ st = .ex c f w st1) : mMet T true true "told" clauses m ρ st = metEx true clauses c f w st1 := by
  simp only [mMet, ht, if_true, e]
theorem tabs_ok {T : List (Addr × Str)} {n : Nat} {h rest : Store} (H : Hd T n h) (g : Gr rest) : tabsAre T (h ++ rest) = true := by
  obtain ⟨ns, a, b, c, rfl, _⟩ := H.ex
  have q : rest.all (fun so => match so with | SO.tabs T' => decide (T' = T) | _ => true) = true := by
    rw [List.all_eq_true]
    intro so hso
    have := List.all_eq_true.mp g so hso
    simp only [okSO, Bool.and_eq_true] at this
    cases so with
    | tabs T' => exact absurd this.2 (by simp)
    | _ => rfl
  simp only [tabsAre, hd, List.cons_append, List.nil_append, List.getElem?_cons_zero, List.all_cons, decide_true, Bool.true_and]
  exact q
theorem gr_d {rest : Store} (g : Gr rest) (xs : List D) : Gr (rest ++ [.lst (xs.map .d)]) := g.more (by simp only [List.all_cons, List.all_nil, okSO_d, Bool.and_self])
section
variable {T : List (Addr × Str)} {n : Nat} {h rest : Store} {t : Tk} {X : D} {ks : List Nat} {v0 v2 v3 v4 v5 v6 v7 v8 v9 v10 v11 v12 v13 v14 v15 v16 v17 v18 v19 : Option W}
def i1 : Sx := (sPar2 13 14 (mCons (mPure f_L_plan_fault 2 (mCons (eV 3) (mCons (eV 12) mNil))) (mCons (mPure (f_L_copied 8) 1 (mCons (eV 12) mNil)) mNil)))
def i2 : Sx := (sIf (mOr (mNot (mT (mPure (f_L_same 8) 2 (mCons (mSeq true false (mCons (mPure f_plan_fault 2 (mCons (mPure (f_L_copied 8) 1 (mCons (eV 3) mNil)) (mCons (eV 14) mNil))) (mCons (mKw 2 [1, 0] 0 (callP f_plan_fault 2) mNil (mCons (mPure (f_L_copied 8) 1 (mCons (eV 12) mNil)) (mCons (mRaw f_L_handed 2 (mCons (eV 1) (mCons (eV 3) mNil))) mNil))) mNil))) (mCons (mSeq true false (mCons (eV 13) (mCons (eV 13) mNil))) mNil))))) (mNot (mT (mPure (f_L_same 8) 2 (mCons (eV 14) (mCons (eV 12) mNil)))))) (sRet (eC (.bl false))) sNext)
def i3 : Sx := (sAsg (.tp [(.nm 15), (.nm 16)]) (mPure f_L_along 2 (mCons (eV 3) (mCons (eV 12) mNil))))
def i4r (T : List (Addr × Str)) : Ex := mMet T true true "told" clauses (mRaw f_runM 2 (mCons (mPure (f_L_copied 8) 1 (mCons (eV 3) mNil)) (mCons (mPure (f_L_copied 8) 1 (mCons (eV 12) mNil)) mNil)))
def i4c (T : List (Addr × Str)) : Ex := mMet T true true "told" clauses (mPure f_cost 2 (mCons (mPure (f_L_copied 8) 1 (mCons (eV 3) mNil)) (mCons (mPure (f_L_copied 8) 1 (mCons (eV 12) mNil)) mNil)))
def i4s : Ex := (mPure (f_L_same 8) 2 (mCons (eV 17) (mCons (mOp (oMul true) (mSeq true false (mCons (mSeq true true (mCons (eC (.str "plan")) (mCons (eV 15) mNil))) mNil)) (eC (.int 2))) mNil)))
def i4 (T : List (Addr × Str)) : Sx := (sIf (mT (mOp (oIsN true) (eV 15) (eC .non))) (sSeq (sAsg (.nm 17) (mSeq false false (mCons (i4r T) mNil)))
  (sSeq (sDrop (mMeth oAppend (eV 17) (mCons (i4c T) mNil))) (sIf (mNot (mT i4s)) (sRet (eC (.bl false))) sNext))) sNext)
theorem i1_ok (r : TkR t X) (o : TkOk t) {x : D} (hx : Thing x) (st : Store) : i1 (rl v0 v2 (some (.d X)) v4 v5 v6 v7 v8 v9 v10 v11 (some (.d x)) v13 v14 v15 v16 v17 v18 v19) st =
    .ok .nx (rl v0 v2 (some (.d X)) v4 v5 v6 v7 v8 v9 v10 v11 (some (.d x)) (some (.d (planD t x))) (some (.d x)) v15 v16 v17 v18 v19) st := by
  have e1 := L_plan_fault_ok r o hx.g
  have e2 := copied_ok 8 x hx.n
  simp only [i1, rl, callP1, callP2, callP3, okF_ok, okF_ex, mPure, sAsg, sPar2, sPar3, sIf, sRet, sDrop, sNext, mT, mOp, mUn, mCall, mCons, mNil, mRaw, mIf, mAnd, mOr, mNot, eV, eC, R.bind, R.bindS, R.of, List.getElem?_cons_zero, List.getElem?_cons_succ, List.set_cons_zero, List.set_cons_succ, List.length_cons, List.length_nil, Nat.reduceAdd, if_true, Tgt.put, e1, e2]
theorem i2_ok (r : TkR t X) (o : TkOk t) (H : Hd T n h) {x : D} (hx : Thing x) (hn : n + 100 ≤ 2 ^ 43) : ∃ h' : Store, i2 (rl v0 v2 (some (.d X)) v4 v5 v6 v7 v8 v9 v10 v11 (some (.d x)) (some (.d (planD t x))) (some (.d x)) v15 v16 v17 v18 v19) (h ++ rest) =
    .ok .nx (rl v0 v2 (some (.d X)) v4 v5 v6 v7 v8 v9 v10 v11 (some (.d x)) (some (.d (planD t x))) (some (.d x)) v15 v16 v17 v18 v19) (h' ++ rest) ∧ Hd T (n + 40) h' := by
  obtain ⟨X', h1, e1, r1, H1⟩ := handed_ok H rest r o hn
  refine ⟨h1, ?_, H1⟩
  have p1 := plan_fault_ok r o hx.g
  have p2 := plan_fault_ok r1 o hx.g
  have e2 := copied_ok 8 x hx.n
  have e4 := copied_tk r o
  have s1 := same_ok 8 x hx.n
  have s2 := same_ok 8 _ (nice_two 7 false (planD_nice t 5 x))
  have ep : ∀ a b : W, permL [a, b] [1, 0] = [b, a] := fun a b => rfl
  have e5 : 2 ≤ sizeLine := by decide
  have em : ∀ (a b : D) (st : Store), mkS true false [.d a, .d b] st = some (.d (.seq false [a, b]), st) := fun a b st => rfl
  simp only [i2, rl, mSeq, mKw, callP1, callP2, callP3, okF_ok, okF_ex, mPure, sAsg, sPar2, sPar3, sIf, sRet, sDrop, sNext, mT, mOp, mUn, mCall, mCons, mNil, mRaw, mIf, mAnd, mOr, mNot, eV, eC, R.bind, R.bindS, R.of, List.getElem?_cons_zero, List.getElem?_cons_succ, List.set_cons_zero, List.set_cons_succ, List.length_cons, List.length_nil, Nat.reduceAdd, if_true, Tgt.put, e4, p1, e2, e1, and_self, List.nil_append, ep, p2, e5, em, s2, s1, Bool.not_true, Bool.false_eq_true, if_false]
theorem i3_ok (r : TkR t X) (o : TkOk t) {x : D} (hx : Thing x) (st : Store) : i3 (rl v0 v2 (some (.d X)) v4 v5 v6 v7 v8 v9 v10 v11 (some (.d x)) v13 v14 v15 v16 v17 v18 v19) st =
    .ok .nx (rl v0 v2 (some (.d X)) v4 v5 v6 v7 v8 v9 v10 v11 (some (.d x)) v13 v14 (some (.d (alongD t x).1)) (some (.d (alongD t x).2)) v17 v18 v19) st := by
  have e1 := L_along_ok r o hx.g
  have ee : mPure f_L_along 2 (mCons (eV 3) (mCons (eV 12) mNil)) (rl v0 v2 (some (.d X)) v4 v5 v6 v7 v8 v9 v10 v11 (some (.d x)) v13 v14 v15 v16 v17 v18 v19) st = .ok (.d (.seq true [(alongD t x).1, (alongD t x).2])) st := by
    simp only [rl, callP1, callP2, callP3, okF_ok, okF_ex, mPure, sAsg, sPar2, sPar3, sIf, sRet, sDrop, sNext, mT, mOp, mUn, mCall, mCons, mNil, mRaw, mIf, mAnd, mOr, mNot, eV, eC, R.bind, R.bindS, R.of, List.getElem?_cons_zero, List.getElem?_cons_succ, List.set_cons_zero, List.set_cons_succ, List.length_cons, List.length_nil, Nat.reduceAdd, if_true, Tgt.put, e1]
  simp only [i3, sAsg, ee, R.bindS, put_pair]
  rfl
theorem i4_ok (r : TkR t X) (o : TkOk t) (H : Hd T n h) (g : Gr rest) {x : D} (hx : Thing x) : ∃ (more : Store) (v17' : Option W), i4 T (rl v0 v2 (some (.d X)) v4 v5 v6 v7 v8 v9 v10 v11 (some (.d x)) v13 v14 (some (.d (alongD t x).1)) v16 v17 v18 v19) (h ++ rest) =
    .ok .nx (rl v0 v2 (some (.d X)) v4 v5 v6 v7 v8 v9 v10 v11 (some (.d x)) v13 v14 (some (.d (alongD t x).1)) v16 v17' v18 v19) (h ++ (rest ++ more)) ∧ Gr (rest ++ more) := by
  rcases alongD_cases o x with ⟨zs, q1, q2⟩ | ⟨q1, s, q2, hs⟩
  · have e2 := copied_ok 8 x hx.n
    have e4 := copied_tk r o
    have hc := cost_ok r o hx.g
    rw [q1] at hc
    simp only at hc
    have hr := fun st => runM_ex r o hx.g q1 st
    have hnc := alongD_nice t 4 x
    rw [q1] at hnc ⊢
    generalize hF : D.seq true zs = F at *
    have hF0 : ∀ st : Store, oIsN true (.d F) (.d .non) st = some (.d (.bl true), st) := fun st => by rw [← hF]; rfl
    have g1 : Gr (rest ++ [.lst [.d (.seq true [.str "plan", F])]]) := gr_d g [.seq true [.str "plan", F]]
    have g2 : Gr (rest ++ [.lst [.d (.seq true [.str "plan", F]), .d (.seq true [.str "plan", F])]]) := gr_d g [.seq true [.str "plan", F], .seq true [.str "plan", F]]
    have hN : (h ++ rest).length = 3 + rest.length := by simp [H.len]
    refine ⟨[.lst [.d (.seq true [.str "plan", F]), .d (.seq true [.str "plan", F])]], some (.loc (3 + rest.length)), ?_, g2⟩
    have t1 := tabs_ok H g
    have t2 := tabs_ok H g1
    have m1 : i4r T (rl v0 v2 (some (.d X)) v4 v5 v6 v7 v8 v9 v10 v11 (some (.d x)) v13 v14 (some (.d F)) v16 v17 v18 v19) (h ++ rest) = .ok (.d (.seq true [.str "plan", F])) (h ++ rest) := by
      refine (mMet_ex t1 (st1 := h ++ rest) (c := "BadPlan") (f := "fault") (w := .d F) ?_).trans (met_plan F _)
      simp only [rl, callP1, callP2, callP3, okF_ok, okF_ex, mPure, sAsg, sPar2, sPar3, sIf, sRet, sDrop, sNext, mT, mOp, mUn, mCall, mCons, mNil, mRaw, mIf, mAnd, mOr, mNot, eV, eC, R.bind, R.bindS, R.of, List.getElem?_cons_zero, List.getElem?_cons_succ, List.set_cons_zero, List.set_cons_succ, List.length_cons, List.length_nil, Nat.reduceAdd, if_true, Tgt.put, e4, e2, hr]
    have m2 : i4c T (rl v0 v2 (some (.d X)) v4 v5 v6 v7 v8 v9 v10 v11 (some (.d x)) v13 v14 (some (.d F)) v16 (some (.loc (3 + rest.length))) v18 v19) (h ++ (rest ++ [.lst [.d (.seq true [.str "plan", F])]])) = .ok (.d (.seq true [.str "plan", F])) (h ++ (rest ++ [.lst [.d (.seq true [.str "plan", F])]])) := by
      refine (mMet_ex t2 (st1 := h ++ (rest ++ [.lst [.d (.seq true [.str "plan", F])]])) (c := "BadPlan") (f := "fault") (w := .d F) ?_).trans (met_plan F _)
      simp only [rl, callP1, callP2, callP3, okF_ok, okF_ex, mPure, sAsg, sPar2, sPar3, sIf, sRet, sDrop, sNext, mT, mOp, mUn, mCall, mCons, mNil, mRaw, mIf, mAnd, mOr, mNot, eV, eC, R.bind, R.bindS, R.of, List.getElem?_cons_zero, List.getElem?_cons_succ, List.set_cons_zero, List.set_cons_succ, List.length_cons, List.length_nil, Nat.reduceAdd, if_true, Tgt.put, e4, e2, hc]
    have z0 : mT (mOp (oIsN true) (eV 15) (eC .non)) (rl v0 v2 (some (.d X)) v4 v5 v6 v7 v8 v9 v10 v11 (some (.d x)) v13 v14 (some (.d F)) v16 v17 v18 v19) (h ++ rest) = .ok true (h ++ rest) := by
      simp only [rl, callP1, callP2, callP3, okF_ok, okF_ex, mPure, sAsg, sPar2, sPar3, sIf, sRet, sDrop, sNext, mT, mOp, mUn, mCall, mCons, mNil, mRaw, mIf, mAnd, mOr, mNot, eV, eC, R.bind, R.bindS, R.of, List.getElem?_cons_zero, List.getElem?_cons_succ, List.set_cons_zero, List.set_cons_succ, List.length_cons, List.length_nil, Nat.reduceAdd, if_true, Tgt.put, hF0]
    have z1 : sAsg (.nm 17) (mSeq false false (mCons (i4r T) mNil)) (rl v0 v2 (some (.d X)) v4 v5 v6 v7 v8 v9 v10 v11 (some (.d x)) v13 v14 (some (.d F)) v16 v17 v18 v19) (h ++ rest) = .ok .nx (rl v0 v2 (some (.d X)) v4 v5 v6 v7 v8 v9 v10 v11 (some (.d x)) v13 v14 (some (.d F)) v16 (some (.loc (3 + rest.length))) v18 v19) (h ++ (rest ++ [.lst [.d (.seq true [.str "plan", F])]])) := by
      have e5 : 1 ≤ sizeLine := by decide
      have em : ∀ (ws : List W) (st : Store), mkS false false ws st = some (.loc st.length, st ++ [.lst ws]) := fun ws st => rfl
      simp only [sAsg, mSeq, mCons, mNil, m1, R.bind, List.length_cons, List.length_nil, Nat.zero_add, e5, if_true, em, R.of, R.bindS, Tgt.put, hN, List.append_assoc]
      rfl
    have hv : vw (h ++ (rest ++ [.lst [.d (.seq true [.str "plan", F])]])) (.loc (3 + rest.length)) = .sq false [.d (.seq true [.str "plan", F])] := by simp only [vw, at3 H, vwS]
    have ap := app3 H (rest := rest) [.d (.seq true [.str "plan", F])] (.d (.seq true [.str "plan", F])) (by simp)
    have z2 : sDrop (mMeth oAppend (eV 17) (mCons (i4c T) mNil)) (rl v0 v2 (some (.d X)) v4 v5 v6 v7 v8 v9 v10 v11 (some (.d x)) v13 v14 (some (.d F)) v16 (some (.loc (3 + rest.length))) v18 v19) (h ++ (rest ++ [.lst [.d (.seq true [.str "plan", F])]])) = .ok .nx (rl v0 v2 (some (.d X)) v4 v5 v6 v7 v8 v9 v10 v11 (some (.d x)) v13 v14 (some (.d F)) v16 (some (.loc (3 + rest.length))) v18 v19) (h ++ (rest ++ [.lst [.d (.seq true [.str "plan", F]), .d (.seq true [.str "plan", F])]])) := by
      have e0 : eV 17 (rl v0 v2 (some (.d X)) v4 v5 v6 v7 v8 v9 v10 v11 (some (.d x)) v13 v14 (some (.d F)) v16 (some (.loc (3 + rest.length))) v18 v19) (h ++ (rest ++ [.lst [.d (.seq true [.str "plan", F])]])) = .ok (.loc (3 + rest.length)) (h ++ (rest ++ [.lst [.d (.seq true [.str "plan", F])]])) := rfl
      simp only [sDrop, mMeth, e0, R.bind, hv, mCons, mNil, m2, ap, R.of, R.bindS, List.cons_append, List.nil_append]
    have z3 : mT i4s (rl v0 v2 (some (.d X)) v4 v5 v6 v7 v8 v9 v10 v11 (some (.d x)) v13 v14 (some (.d F)) v16 (some (.loc (3 + rest.length))) v18 v19) (h ++ (rest ++ [.lst [.d (.seq true [.str "plan", F]), .d (.seq true [.str "plan", F])]])) = .ok true (h ++ (rest ++ [.lst [.d (.seq true [.str "plan", F]), .d (.seq true [.str "plan", F])]])) := by
      have hl : (h ++ (rest ++ [SO.lst [.d (.seq true [.str "plan", F]), .d (.seq true [.str "plan", F])]])).length = (rest.length + 3) + 1 := by simp [H.len]; omega
      have d1 : deepB 0 (h ++ (rest ++ [SO.lst [.d (.seq true [.str "plan", F]), .d (.seq true [.str "plan", F])]])).length (h ++ (rest ++ [SO.lst [.d (.seq true [.str "plan", F]), .d (.seq true [.str "plan", F])]])) (.loc (3 + rest.length)) = some (.seq false [.seq true [.str "plan", F], .seq true [.str "plan", F]]) := by
        rw [hl]
        exact deepB_lst (xs := [.seq true [.str "plan", F], .seq true [.str "plan", F]]) (at3 H _)
      have np : nice 8 (.seq false [.seq true [.str "plan", F], .seq true [.str "plan", F]]) = true := by
        refine nice_two 7 false ?_
        rw [nice]
        simp only [List.all_cons, List.all_nil, hnc, List.length_cons, List.length_nil]
        rfl
      have es := same_deep d1 (deepB_d 0 _ _ _) np
      have e5 : 1 ≤ sizeLine := by decide
      have e6 : 2 ≤ sizeLine := by decide
      have em1 : ∀ (a b : D) (st : Store), mkS true true [.d a, .d b] st = some (.d (.seq true [a, b]), st) := fun a b st => rfl
      have em2 : ∀ (a : D) (st : Store), mkS true false [.d a] st = some (.d (.seq false [a]), st) := fun a st => rfl
      have mr : ∀ st, oMul true (.d (.seq false [.seq true [.str "plan", F]])) (.d (.int 2)) st = some (.d (.seq false [.seq true [.str "plan", F], .seq true [.str "plan", F]]), st) := fun st => mul_rep (.seq true [.str "plan", F]) 2 (by decide) st
      simp only [i4s, rl, mSeq, callP1, callP2, callP3, okF_ok, okF_ex, mPure, sAsg, sPar2, sPar3, sIf, sRet, sDrop, sNext, mT, mOp, mUn, mCall, mCons, mNil, mRaw, mIf, mAnd, mOr, mNot, eV, eC, R.bind, R.bindS, R.of, List.getElem?_cons_zero, List.getElem?_cons_succ, List.set_cons_zero, List.set_cons_succ, List.length_cons, List.length_nil, Nat.reduceAdd, if_true, Tgt.put, em1, e6, em2, e5, mr, es]
    simp only [i4, sIf, z0, R.bindS, if_true, sSeq, z1, z2, mNot, z3, R.bind, Bool.not_true, Bool.false_eq_true, if_false, sNext]
  · refine ⟨[], v17, ?_, by rwa [List.append_nil]⟩
    rw [q1, List.append_nil]
    have z0 : mT (mOp (oIsN true) (eV 15) (eC .non)) (rl v0 v2 (some (.d X)) v4 v5 v6 v7 v8 v9 v10 v11 (some (.d x)) v13 v14 (some (.d .non)) v16 v17 v18 v19) (h ++ rest) = .ok false (h ++ rest) := rfl
    simp only [i4, sIf, z0, R.bindS, Bool.false_eq_true, if_false, sNext]
end
end IL

set_option maxHeartbeats 4000007
namespace IL
open PySem PySem.Spec
open PyProof.Rows L2
theorem runSt_all {L N : Nat} (s0 : List Str) (r : List (List Str)) (h : L + r.length + 2 ≤ N) : (runSt L s0 r).all (okSO N) = true := by
  have e : okSO N (.lst (lcs L r.length)) = true := by
    show ((lcs L r.length).all (lowW N) && true) = true
    rw [Bool.and_true, List.all_eq_true]
    intro w hw
    rw [lcs_eq] at hw
    obtain ⟨i, hi, rfl⟩ := List.mem_map.mp hw
    simp only [lowW, decide_eq_true_eq]
    rcases List.mem_cons.mp hi with rfl | hi
    · omega
    · obtain ⟨j, hj, rfl⟩ := List.mem_map.mp hi
      have := List.mem_range.mp hj; omega
  simp only [runSt, List.all_cons, e, Bool.true_and, Bool.and_eq_true]
  refine ⟨okSO_d N _, ?_⟩
  rw [List.all_eq_true]
  intro so hso
  obtain ⟨s, _, rfl⟩ := List.mem_map.mp hso
  exact okSO_d N _
theorem okSO_two {a b N : Nat} (h1 : a < N) (h2 : b < N) : okSO N (.lst [.loc a, .loc b]) = true := by
  simp only [okSO, lowO, List.all_cons, List.all_nil, lowW, Bool.and_true, Bool.and_eq_true, decide_eq_true_eq]
  exact ⟨h1, h2⟩
theorem toldSt_all {L N : Nat} (s0 : List Str) (r : List (List Str)) (h : L + (r.length + 2) + (r.length + 2) + 1 ≤ N) : (toldSt L s0 r).all (okSO N) = true := by
  simp only [toldSt, List.all_append, runSt_all s0 r (L := L) (N := N) (by omega), runSt_all s0 r (L := L + (r.length + 2)) (N := N) (by omega), List.all_cons, List.all_nil, okSO_two (a := L + 1) (b := L + (r.length + 2) + 1) (N := N) (by omega) (by omega), Bool.and_self]
theorem toldSt_len (L : Nat) (s0 : List Str) (r : List (List Str)) : (toldSt L s0 r).length = (r.length + 2) + (r.length + 2) + 1 := by
  simp only [toldSt, List.length_append, runSt_len, List.length_cons, List.length_nil]; omega
section
variable {T : List (Addr × Str)} {n : Nat} {h rest : Store} {t : Tk} {X : D} {ks : List Nat} {v0 v2 v3 v4 v5 v6 v7 v8 v9 v10 v11 v12 v13 v14 v15 v16 v17 v18 v19 : Option W}
def ibody (T : List (Addr × Str)) : Sx := sSeq i1 (sSeq i2 (sSeq i3 (i4 T)))
theorem l13_for (r : TkR t X) (o : TkOk t) {A : Nat} {ts : List D} (hts : ∀ y ∈ ts, Thing y) : ∀ (xs : List D) (j : Nat) (n : Nat) (h rest : Store) (v12 v13 v14 v15 v16 v17 : Option W), xs = ts.drop j → Hd T n h → n + 50 * xs.length + 200 ≤ 2 ^ 43 → Gr rest → rest[A]? = some (.lst (ts.map .d)) →
    ∃ (more h' : Store) (u12 u13 u14 u15 u16 u17 : Option W), forI (getL (3 + A)) (.nm 12) (ibody T) xs.length j (rl v0 v2 (some (.d X)) v4 v5 v6 v7 v8 v9 v10 v11 v12 v13 v14 v15 v16 v17 v18 v19) (h ++ rest) =
      .ok .nx (rl v0 v2 (some (.d X)) v4 v5 v6 v7 v8 v9 v10 v11 u12 u13 u14 u15 u16 u17 v18 v19) (h' ++ (rest ++ more)) ∧ Gr (rest ++ more) ∧ Hd T (n + 50 * xs.length) h'
  | [], j, n, h, rest, v12, v13, v14, v15, v16, v17, hj, H, _, g, hA => by
    have hl : ts.length ≤ j := by have := congrArg List.length hj; simp at this; omega
    have e0 := get_rest H [] hA
    rw [List.append_nil] at e0
    have e : getL (3 + A) (h ++ rest) j = .stop := by
      simp only [getL, e0, List.getElem?_map]
      rw [List.getElem?_eq_none hl]; rfl
    exact ⟨[], h, v12, v13, v14, v15, v16, v17, by simp only [List.length_nil, forI, e, List.append_nil], by rwa [List.append_nil], H⟩
  | x :: xs, j, n, h, rest, v12, v13, v14, v15, v16, v17, hj, H, hn, g, hA => by
    have hx : ts[j]? = some x := by have := congrArg (·[0]?) hj; simpa using this.symm
    have hj' : xs = ts.drop (j + 1) := by have := congrArg List.tail hj; simpa using this
    have tx := hts x (List.mem_of_getElem? hx)
    have e0 := get_rest H [] hA
    rw [List.append_nil] at e0
    have e : getL (3 + A) (h ++ rest) j = .it (.one (.d x)) := by
      simp only [getL, e0, List.getElem?_map, hx, Option.map_some, Gt.of]
    simp only [List.length_cons] at hn
    have b1 := i1_ok (v0 := v0) (v2 := v2) (v4 := v4) (v5 := v5) (v6 := v6) (v7 := v7) (v8 := v8) (v9 := v9) (v10 := v10) (v11 := v11) (v13 := v13) (v14 := v14) (v15 := v15) (v16 := v16) (v17 := v17) (v18 := v18) (v19 := v19) r o tx (h ++ rest)
    obtain ⟨h1, b2, H1⟩ := i2_ok (rest := rest) (v0 := v0) (v2 := v2) (v4 := v4) (v5 := v5) (v6 := v6) (v7 := v7) (v8 := v8) (v9 := v9) (v10 := v10) (v11 := v11) (v15 := v15) (v16 := v16) (v17 := v17) (v18 := v18) (v19 := v19) r o H tx (by omega)
    have b3 := i3_ok (v0 := v0) (v2 := v2) (v4 := v4) (v5 := v5) (v6 := v6) (v7 := v7) (v8 := v8) (v9 := v9) (v10 := v10) (v11 := v11) (v13 := some (.d (planD t x))) (v14 := some (.d x)) (v15 := v15) (v16 := v16) (v17 := v17) (v18 := v18) (v19 := v19) r o tx (h1 ++ rest)
    obtain ⟨m1, u17, b4, g4⟩ := i4_ok (v0 := v0) (v2 := v2) (v4 := v4) (v5 := v5) (v6 := v6) (v7 := v7) (v8 := v8) (v9 := v9) (v10 := v10) (v11 := v11) (v13 := some (.d (planD t x))) (v14 := some (.d x)) (v16 := some (.d (alongD t x).2)) (v17 := v17) (v18 := v18) (v19 := v19) r o H1 g tx
    have hA' : (rest ++ m1)[A]? = some (.lst (ts.map .d)) := by rw [List.getElem?_append_left (List.getElem?_eq_some_iff.mp hA).1, hA]
    obtain ⟨m2, h2, w12, w13, w14, w15, w16, w17, b5, g5, H5⟩ := l13_for r o hts xs (j + 1) (n + 40) h1 (rest ++ m1) (some (.d x)) (some (.d (planD t x))) (some (.d x)) (some (.d (alongD t x).1)) (some (.d (alongD t x).2)) u17 hj' H1 (by omega) g4 hA'
    refine ⟨m1 ++ m2, h2, w12, w13, w14, w15, w16, w17, ?_, by rw [← List.append_assoc]; exact g5, H5.mono (by simp only [List.length_cons]; omega)⟩
    have ep : (Tgt.nm 12).putI (h ++ rest) (.one (.d x)) (rl v0 v2 (some (.d X)) v4 v5 v6 v7 v8 v9 v10 v11 v12 v13 v14 v15 v16 v17 v18 v19) = some (rl v0 v2 (some (.d X)) v4 v5 v6 v7 v8 v9 v10 v11 (some (.d x)) v13 v14 v15 v16 v17 v18 v19) := rfl
    have eb : ibody T (rl v0 v2 (some (.d X)) v4 v5 v6 v7 v8 v9 v10 v11 (some (.d x)) v13 v14 v15 v16 v17 v18 v19) (h ++ rest) = .ok .nx (rl v0 v2 (some (.d X)) v4 v5 v6 v7 v8 v9 v10 v11 (some (.d x)) (some (.d (planD t x))) (some (.d x)) (some (.d (alongD t x).1)) (some (.d (alongD t x).2)) u17 v18 v19) (h1 ++ (rest ++ m1)) := by
      simp only [ibody, sSeq, b1, b2, b3, b4]
    rw [List.length_cons, forI_it e ep eb, b5]
    simp only [List.append_assoc]
def l13 (T : List (Addr × Str)) : Sx := sFor (srSeq (eV 11)) (.nm 12) (ibody T)
theorem l13_ok (r : TkR t X) (o : TkOk t) {A : Nat} {ts : List D} (hts : ∀ y ∈ ts, Thing y) (hl : ts.length = 15) (H : Hd T n h) (hn : n + 1000 ≤ 2 ^ 43) (g : Gr rest) (hA : rest[A]? = some (.lst (ts.map .d))) :
    ∃ (more h' : Store) (u12 u13 u14 u15 u16 u17 : Option W), l13 T (rl v0 v2 (some (.d X)) v4 v5 v6 v7 v8 v9 v10 (some (.loc (3 + A))) v12 v13 v14 v15 v16 v17 v18 v19) (h ++ rest) =
      .ok .nx (rl v0 v2 (some (.d X)) v4 v5 v6 v7 v8 v9 v10 (some (.loc (3 + A))) u12 u13 u14 u15 u16 u17 v18 v19) (h' ++ (rest ++ more)) ∧ Gr (rest ++ more) ∧ Hd T (n + 750) h' := by
  obtain ⟨more, h', u12, u13, u14, u15, u16, u17, e, g', H'⟩ := l13_for (T := T) (v0 := v0) (v2 := v2) (v4 := v4) (v5 := v5) (v6 := v6) (v7 := v7) (v8 := v8) (v9 := v9) (v10 := v10) (v11 := some (.loc (3 + A))) (v18 := v18) (v19 := v19) r o hts ts 0 n h rest v12 v13 v14 v15 v16 v17 rfl H (by rw [hl]; omega) g hA
  refine ⟨more, h', u12, u13, u14, u15, u16, u17, ?_, g', H'.mono (by rw [hl]; omega)⟩
  have e0 := get_rest H [] hA
  rw [List.append_nil] at e0
  have es : sqOf (h ++ rest) (.loc (3 + A)) = .mu (3 + A) ts.length := by simp only [sqOf, e0, List.length_map]
  have ev : eV 11 (rl v0 v2 (some (.d X)) v4 v5 v6 v7 v8 v9 v10 (some (.loc (3 + A))) v12 v13 v14 v15 v16 v17 v18 v19) (h ++ rest) = .ok (.loc (3 + A)) (h ++ rest) := rfl
  simp only [l13, sFor, srSeq, ev, R.bind, es, R.bindS, forS]
  exact e
/-! ### a bad task -/
theorem bad_check {b F y : D} (hb : f_check_task [b] = .ex "BadTask" "fault" F) : f_check_along [b, y] = .ex "BadTask" "fault" F := by
  rw [f_check_along_eq]
  simp only [m_check_along, sSeq, callP1, callP2, callP3, okF_ok, okF_ex, mPure, sAsg, sPar2, sPar3, sIf, sRet, sDrop, sNext, mT, mOp, mUn, mCall, mCons, mNil, mRaw, mIf, mAnd, mOr, mNot, eV, eC, R.bind, R.bindS, R.of, List.getElem?_cons_zero, List.getElem?_cons_succ, List.set_cons_zero, List.set_cons_succ, List.length_cons, List.length_nil, Nat.reduceAdd, if_true, Tgt.put, hb, outP, deepB_d]
theorem bad_run {b F : D} (hb : f_check_task [b] = .ex "BadTask" "fault" F) (y : D) (st : Store) : f_runM [.d b, .d y] st = .ex "BadTask" "fault" (.d F) st := by
  have e := bad_check (y := y) hb
  rw [f_runM_eq]
  simp only [m_runM, sSeq, callP1, callP2, callP3, okF_ok, okF_ex, mPure, sAsg, sPar2, sPar3, sIf, sRet, sDrop, sNext, mT, mOp, mUn, mCall, mCons, mNil, mRaw, mIf, mAnd, mOr, mNot, eV, eC, R.bind, R.bindS, R.of, List.getElem?_cons_zero, List.getElem?_cons_succ, List.set_cons_zero, List.set_cons_succ, List.length_cons, List.length_nil, Nat.reduceAdd, if_true, Tgt.put, e, outW]
theorem bad_cost {b F : D} (hb : f_check_task [b] = .ex "BadTask" "fault" F) (y : D) : f_cost [b, y] = .ex "BadTask" "fault" F := by
  have e := bad_check (y := y) hb
  rw [f_cost_eq]
  simp only [m_cost, sSeq, callP1, callP2, callP3, okF_ok, okF_ex, mPure, sAsg, sPar2, sPar3, sIf, sRet, sDrop, sNext, mT, mOp, mUn, mCall, mCons, mNil, mRaw, mIf, mAnd, mOr, mNot, eV, eC, R.bind, R.bindS, R.of, List.getElem?_cons_zero, List.getElem?_cons_succ, List.set_cons_zero, List.set_cons_succ, List.length_cons, List.length_nil, Nat.reduceAdd, if_true, Tgt.put, e, outP, deepB_d]
theorem bad_plan {b F : D} (hb : f_check_task [b] = .ex "BadTask" "fault" F) (y : D) : f_plan_fault [b, y] = .ex "BadTask" "fault" F := by
  rw [f_plan_fault_eq]
  simp only [m_plan_fault, sSeq, callP1, callP2, callP3, okF_ok, okF_ex, mPure, sAsg, sPar2, sPar3, sIf, sRet, sDrop, sNext, mT, mOp, mUn, mCall, mCons, mNil, mRaw, mIf, mAnd, mOr, mNot, eV, eC, R.bind, R.bindS, R.of, List.getElem?_cons_zero, List.getElem?_cons_succ, List.set_cons_zero, List.set_cons_succ, List.length_cons, List.length_nil, Nat.reduceAdd, if_true, Tgt.put, hb, outP, deepB_d]
def k1 (T : List (Addr × Str)) : Ex := mMet T true true "told" clauses (mRaw f_runM 2 (mCons (mOp oIx (eV 18) (eC (.int 0))) (mCons (eC .non) mNil)))
def k2 (T : List (Addr × Str)) : Ex := mMet T true true "told" clauses (mPure f_cost 2 (mCons (mOp oIx (eV 18) (eC (.int 0))) (mCons (eC .non) mNil)))
def k3 (T : List (Addr × Str)) : Ex := mMet T true true "told" clauses (mPure f_plan_fault 2 (mCons (mOp oIx (eV 18) (eC (.int 0))) (mCons (eC .non) mNil)))
def k4 : Ex := (mPure (f_L_same 8) 2 (mCons (eV 17) (mCons (mOp (oMul true) (mSeq true false (mCons (mSeq true true (mCons (eC (.str "task")) (mCons (mOp oIx (eV 18) (eC (.int 1))) mNil))) mNil)) (eC (.int 3))) mNil)))
def kAll (T : List (Addr × Str)) : Sx := (sSeq (sAsg (.nm 17) (mSeq false false (mCons (k1 T) mNil)))
  (sSeq (sDrop (mMeth oAppend (eV 17) (mCons (k2 T) mNil)))
  (sSeq (sDrop (mMeth oAppend (eV 17) (mCons (k3 T) mNil)))
  (sIf (mNot (mT k4)) (sRet (eC (.bl false))) sNext))))
theorem kAll_ok (H : Hd T n h) (g : Gr rest) {b F : D} (hb : f_check_task [b] = .ex "BadTask" "fault" F) (hF : nice 6 F = true) :
    kAll T (rl v0 v2 v3 v4 v5 v6 v7 v8 v9 v10 v11 v12 v13 v14 v15 v16 v17 (some (.d (.seq true [b, F]))) v19) (h ++ rest) =
      .ok .nx (rl v0 v2 v3 v4 v5 v6 v7 v8 v9 v10 v11 v12 v13 v14 v15 v16 (some (.loc (3 + rest.length))) (some (.d (.seq true [b, F]))) v19) (h ++ (rest ++ [.lst [.d (.seq true [.str "task", F]), .d (.seq true [.str "task", F]), .d (.seq true [.str "task", F])]])) := by
  have hN : (h ++ rest).length = 3 + rest.length := by simp [H.len]
  have i0 : ∀ st : Store, oIx (.d (.seq true [b, F])) (.d (.int 0)) st = some (.d b, st) := fun st => rfl
  have i1 : ∀ st : Store, oIx (.d (.seq true [b, F])) (.d (.int 1)) st = some (.d F, st) := fun st => rfl
  have hr := bad_run hb
  have hc := bad_cost hb
  have hp := bad_plan hb
  generalize hB : D.seq true [b, F] = B at *
  generalize hP : D.seq true [.str "task", F] = P at *
  have g1 : Gr (rest ++ [.lst [.d P]]) := gr_d g [P]
  have g2 : Gr (rest ++ [.lst [.d P, .d P]]) := gr_d g [P, P]
  have t1 := tabs_ok H g
  have t2 := tabs_ok H g1
  have t3 := tabs_ok H g2
  have m1 : k1 T (rl v0 v2 v3 v4 v5 v6 v7 v8 v9 v10 v11 v12 v13 v14 v15 v16 v17 (some (.d B)) v19) (h ++ rest) = .ok (.d P) (h ++ rest) := by
    rw [← hP]
    refine (mMet_ex t1 (st1 := h ++ rest) (c := "BadTask") (f := "fault") (w := .d F) ?_).trans (met_task F _)
    simp only [rl, callP1, callP2, callP3, okF_ok, okF_ex, mPure, sAsg, sPar2, sPar3, sIf, sRet, sDrop, sNext, mT, mOp, mUn, mCall, mCons, mNil, mRaw, mIf, mAnd, mOr, mNot, eV, eC, R.bind, R.bindS, R.of, List.getElem?_cons_zero, List.getElem?_cons_succ, List.set_cons_zero, List.set_cons_succ, List.length_cons, List.length_nil, Nat.reduceAdd, if_true, Tgt.put, i0, hr]
  have m2 : k2 T (rl v0 v2 v3 v4 v5 v6 v7 v8 v9 v10 v11 v12 v13 v14 v15 v16 (some (.loc (3 + rest.length))) (some (.d B)) v19) (h ++ (rest ++ [.lst [.d P]])) = .ok (.d P) (h ++ (rest ++ [.lst [.d P]])) := by
    refine (mMet_ex t2 (st1 := h ++ (rest ++ [.lst [.d P]])) (c := "BadTask") (f := "fault") (w := .d F) ?_).trans ((met_task F _).trans (by rw [hP]))
    simp only [rl, callP1, callP2, callP3, okF_ok, okF_ex, mPure, sAsg, sPar2, sPar3, sIf, sRet, sDrop, sNext, mT, mOp, mUn, mCall, mCons, mNil, mRaw, mIf, mAnd, mOr, mNot, eV, eC, R.bind, R.bindS, R.of, List.getElem?_cons_zero, List.getElem?_cons_succ, List.set_cons_zero, List.set_cons_succ, List.length_cons, List.length_nil, Nat.reduceAdd, if_true, Tgt.put, i0, hc]
  have m3 : k3 T (rl v0 v2 v3 v4 v5 v6 v7 v8 v9 v10 v11 v12 v13 v14 v15 v16 (some (.loc (3 + rest.length))) (some (.d B)) v19) (h ++ (rest ++ [.lst [.d P, .d P]])) = .ok (.d P) (h ++ (rest ++ [.lst [.d P, .d P]])) := by
    refine (mMet_ex t3 (st1 := h ++ (rest ++ [.lst [.d P, .d P]])) (c := "BadTask") (f := "fault") (w := .d F) ?_).trans ((met_task F _).trans (by rw [hP]))
    simp only [rl, callP1, callP2, callP3, okF_ok, okF_ex, mPure, sAsg, sPar2, sPar3, sIf, sRet, sDrop, sNext, mT, mOp, mUn, mCall, mCons, mNil, mRaw, mIf, mAnd, mOr, mNot, eV, eC, R.bind, R.bindS, R.of, List.getElem?_cons_zero, List.getElem?_cons_succ, List.set_cons_zero, List.set_cons_succ, List.length_cons, List.length_nil, Nat.reduceAdd, if_true, Tgt.put, i0, hp]
  have z1 : sAsg (.nm 17) (mSeq false false (mCons (k1 T) mNil)) (rl v0 v2 v3 v4 v5 v6 v7 v8 v9 v10 v11 v12 v13 v14 v15 v16 v17 (some (.d B)) v19) (h ++ rest) = .ok .nx (rl v0 v2 v3 v4 v5 v6 v7 v8 v9 v10 v11 v12 v13 v14 v15 v16 (some (.loc (3 + rest.length))) (some (.d B)) v19) (h ++ (rest ++ [.lst [.d P]])) := by
    have e5 : 1 ≤ sizeLine := by decide
    have em : ∀ (ws : List W) (st : Store), mkS false false ws st = some (.loc st.length, st ++ [.lst ws]) := fun ws st => rfl
    simp only [sAsg, mSeq, mCons, mNil, m1, R.bind, List.length_cons, List.length_nil, Nat.zero_add, e5, if_true, em, R.of, R.bindS, Tgt.put, hN, List.append_assoc]
    rfl
  have z2 : sDrop (mMeth oAppend (eV 17) (mCons (k2 T) mNil)) (rl v0 v2 v3 v4 v5 v6 v7 v8 v9 v10 v11 v12 v13 v14 v15 v16 (some (.loc (3 + rest.length))) (some (.d B)) v19) (h ++ (rest ++ [.lst [.d P]])) = .ok .nx (rl v0 v2 v3 v4 v5 v6 v7 v8 v9 v10 v11 v12 v13 v14 v15 v16 (some (.loc (3 + rest.length))) (some (.d B)) v19) (h ++ (rest ++ [.lst [.d P, .d P]])) := by
    have e0 : eV 17 (rl v0 v2 v3 v4 v5 v6 v7 v8 v9 v10 v11 v12 v13 v14 v15 v16 (some (.loc (3 + rest.length))) (some (.d B)) v19) (h ++ (rest ++ [.lst [.d P]])) = .ok (.loc (3 + rest.length)) (h ++ (rest ++ [.lst [.d P]])) := rfl
    have hv : vw (h ++ (rest ++ [.lst [.d P]])) (.loc (3 + rest.length)) = .sq false [.d P] := by simp only [vw, at3 H, vwS]
    have ap := app3 H (rest := rest) [.d P] (.d P) (by simp)
    simp only [sDrop, mMeth, e0, R.bind, hv, mCons, mNil, m2, ap, R.of, R.bindS, List.cons_append, List.nil_append]
  have z3 : sDrop (mMeth oAppend (eV 17) (mCons (k3 T) mNil)) (rl v0 v2 v3 v4 v5 v6 v7 v8 v9 v10 v11 v12 v13 v14 v15 v16 (some (.loc (3 + rest.length))) (some (.d B)) v19) (h ++ (rest ++ [.lst [.d P, .d P]])) = .ok .nx (rl v0 v2 v3 v4 v5 v6 v7 v8 v9 v10 v11 v12 v13 v14 v15 v16 (some (.loc (3 + rest.length))) (some (.d B)) v19) (h ++ (rest ++ [.lst [.d P, .d P, .d P]])) := by
    have e0 : eV 17 (rl v0 v2 v3 v4 v5 v6 v7 v8 v9 v10 v11 v12 v13 v14 v15 v16 (some (.loc (3 + rest.length))) (some (.d B)) v19) (h ++ (rest ++ [.lst [.d P, .d P]])) = .ok (.loc (3 + rest.length)) (h ++ (rest ++ [.lst [.d P, .d P]])) := rfl
    have hv : vw (h ++ (rest ++ [.lst [.d P, .d P]])) (.loc (3 + rest.length)) = .sq false [.d P, .d P] := by simp only [vw, at3 H, vwS]
    have ap := app3 H (rest := rest) [.d P, .d P] (.d P) (by simp)
    simp only [sDrop, mMeth, e0, R.bind, hv, mCons, mNil, m3, ap, R.of, R.bindS, List.cons_append, List.nil_append]
  have z4 : mT k4 (rl v0 v2 v3 v4 v5 v6 v7 v8 v9 v10 v11 v12 v13 v14 v15 v16 (some (.loc (3 + rest.length))) (some (.d B)) v19) (h ++ (rest ++ [.lst [.d P, .d P, .d P]])) = .ok true (h ++ (rest ++ [.lst [.d P, .d P, .d P]])) := by
    have hl : (h ++ (rest ++ [SO.lst [.d P, .d P, .d P]])).length = (rest.length + 3) + 1 := by simp [H.len]; omega
    have d1 : deepB 0 (h ++ (rest ++ [SO.lst [.d P, .d P, .d P]])).length (h ++ (rest ++ [SO.lst [.d P, .d P, .d P]])) (.loc (3 + rest.length)) = some (.seq false [P, P, P]) := by
      rw [hl]
      exact deepB_lst (xs := [P, P, P]) (at3 H _)
    have nP : nice 7 P = true := by
      rw [← hP, nice]
      simp only [List.all_cons, List.all_nil, hF, List.length_cons, List.length_nil]
      rfl
    have np : nice 8 (.seq false [P, P, P]) = true := by
      rw [nice]
      simp only [List.all_cons, List.all_nil, nP, Bool.and_self, List.length_cons, List.length_nil]
      rfl
    have es := same_deep d1 (deepB_d 0 _ _ _) np
    have e5 : 1 ≤ sizeLine := by decide
    have e6 : 2 ≤ sizeLine := by decide
    have em1 : ∀ (st : Store), mkS true true [.d (.str "task"), .d F] st = some (.d P, st) := fun st => by rw [← hP]; rfl
    have em2 : ∀ (a : D) (st : Store), mkS true false [.d a] st = some (.d (.seq false [a]), st) := fun a st => rfl
    have mr : ∀ st, oMul true (.d (.seq false [P])) (.d (.int 3)) st = some (.d (.seq false [P, P, P]), st) := fun st => mul_rep P 3 (by decide) st
    simp only [k4, rl, mSeq, callP1, callP2, callP3, okF_ok, okF_ex, mPure, sAsg, sPar2, sPar3, sIf, sRet, sDrop, sNext, mT, mOp, mUn, mCall, mCons, mNil, mRaw, mIf, mAnd, mOr, mNot, eV, eC, R.bind, R.bindS, R.of, List.getElem?_cons_zero, List.getElem?_cons_succ, List.set_cons_zero, List.set_cons_succ, List.length_cons, List.length_nil, Nat.reduceAdd, if_true, Tgt.put, i1, em1, e6, em2, e5, mr, es]
  simp only [kAll, sSeq, z1, z2, z3, sIf, mNot, z4, R.bind, Bool.not_true, R.bindS, Bool.false_eq_true, if_false, sNext]
theorem bads_nice : ∀ p ∈ bads, nice 6 p.2 = true := by
  intro p hp
  simp only [bads, List.mem_cons, List.not_mem_nil, or_false] at hp
  rcases hp with rfl | rfl | rfl | rfl | rfl <;> rfl
end
end IL

set_option maxHeartbeats 4000007
namespace IL
open PySem PySem.Spec
open PyProof.Rows L2
section
variable {T : List (Addr × Str)} {n : Nat} {h rest : Store} {v0 v2 v3 v4 v5 v6 v7 v8 v9 v10 v11 v12 v13 v14 v15 v16 v17 v18 v19 : Option W}
def l1 : Sx := (sAsg (.nm 3) (mRaw f_L_task 2 (mCons (eV 1) (mCons (eC (.int 7)) mNil))))
def l2 : Sx := (sAsg (.nm 4) (mRaw f_L_drawn_row 2 (mCons (eV 1) (mCons (eV 3) mNil))))
def l3 : Sx := sAsg (.nm 5) (mSeq false false (mCons (mCall (oList true) (mCons (mOp oIx (eV 3) (eC (.int 2))) mNil)) mNil))
def l4 : Sx := sFor (srSeq (eV 4)) (.nm 6) l4_body
def l14 : Sx := (sAsg (.nm 18) (mRaw f_L_bad_task 1 (mCons (eV 1) mNil)))
def turn (T : List (Addr × Str)) : Sx := sSeq l1 (sSeq l2 (sSeq l3 (sSeq l4 (sSeq l5 (sSeq l6 (sSeq l7 (sSeq l8 (sSeq l9 (sSeq l10 (sSeq l11 (sSeq l12 (sSeq (l13 T) (sSeq l14 (kAll T))))))))))))))
theorem m_law_split (T : List (Addr × Str)) : m_law T = sSeq (sAsg (.nm 1) (mRaw f_L_stream 1 (mCons (eV 0) mNil))) (sSeq (sFor (srRng1 (mCons (eC (.int 5)) mNil)) (.nm 2) (turn T)) (sRet (eC (.bl true)))) := rfl
theorem turn_ok (H : Hd T n h) (g : Gr rest) (hn : n + 10000 ≤ 2 ^ 42) :
    ∃ (rest' h' : Store) (u3 u4 u5 u6 u7 u8 u9 u10 u11 u12 u13 u14 u15 u16 u17 u18 : Option W), turn T (rl v0 v2 v3 v4 v5 v6 v7 v8 v9 v10 v11 v12 v13 v14 v15 v16 v17 v18 v19) (h ++ rest) =
      .ok .nx (rl v0 v2 u3 u4 u5 u6 u7 u8 u9 u10 u11 u12 u13 u14 u15 u16 u17 u18 v19) (h' ++ rest') ∧ Gr rest' ∧ Hd T (n + 5000) h' := by
  obtain ⟨t, X, h1, e1, o, r, H1⟩ := task_ok H rest g.low (by omega)
  obtain ⟨ks, cur, h2, e2, hk, ha, H2⟩ := drawn_row_ok (rest := rest) r o H1 g.low (by omega)
  have ha1 : (alongR t 0 ks t.s).1 = .non := by rw [ha]
  have z1 : l1 (rl v0 v2 v3 v4 v5 v6 v7 v8 v9 v10 v11 v12 v13 v14 v15 v16 v17 v18 v19) (h ++ rest) = .ok .nx (rl v0 v2 (some (.d X)) v4 v5 v6 v7 v8 v9 v10 v11 v12 v13 v14 v15 v16 v17 v18 v19) (h1 ++ rest) := by
    simp only [l1, rl, callP1, callP2, callP3, okF_ok, okF_ex, mPure, sAsg, sPar2, sPar3, sIf, sRet, sDrop, sNext, mT, mOp, mUn, mCall, mCons, mNil, mRaw, mIf, mAnd, mOr, mNot, eV, eC, R.bind, R.bindS, R.of, List.getElem?_cons_zero, List.getElem?_cons_succ, List.set_cons_zero, List.set_cons_succ, List.length_cons, List.length_nil, Nat.reduceAdd, if_true, Tgt.put, e1]
  have z2 : l2 (rl v0 v2 (some (.d X)) v4 v5 v6 v7 v8 v9 v10 v11 v12 v13 v14 v15 v16 v17 v18 v19) (h1 ++ rest) = .ok .nx (rl v0 v2 (some (.d X)) (some (.d (.seq false (ni ks)))) v5 v6 v7 v8 v9 v10 v11 v12 v13 v14 v15 v16 v17 v18 v19) (h2 ++ rest) := by
    simp only [l2, rl, callP1, callP2, callP3, okF_ok, okF_ex, mPure, sAsg, sPar2, sPar3, sIf, sRet, sDrop, sNext, mT, mOp, mUn, mCall, mCons, mNil, mRaw, mIf, mAnd, mOr, mNot, eV, eC, R.bind, R.bindS, R.of, List.getElem?_cons_zero, List.getElem?_cons_succ, List.set_cons_zero, List.set_cons_succ, List.length_cons, List.length_nil, Nat.reduceAdd, if_true, Tgt.put, e2]
  have z3 : l3 (rl v0 v2 (some (.d X)) (some (.d (.seq false (ni ks)))) v5 v6 v7 v8 v9 v10 v11 v12 v13 v14 v15 v16 v17 v18 v19) (h2 ++ rest) = _ := l3_ok r H2
  obtain ⟨u6, e4⟩ := l4_for (v0 := v0) (v2 := v2) (v4 := some (.d (.seq false (ni ks)))) (v7 := v7) (v8 := v8) (v9 := v9) (v10 := v10) (v11 := v11) (v12 := v12) (v13 := v13) (v14 := v14) (v15 := v15) (v16 := v16) (v17 := v17) (v18 := v18) (v19 := v19) (rest := rest) r o H2 ks 0 [] t.s v6 ha1 (by simp; omega)
  have eS : ((([] : List (List Str)) ++ [t.s] ++ statesT t ks t.s).map (txs false)) = stsD t ks := by simp [stsD]
  rw [eS] at e4
  have z4 : l4 (rl v0 v2 (some (.d X)) (some (.d (.seq false (ni ks)))) (some (.loc (3 + rest.length))) v6 v7 v8 v9 v10 v11 v12 v13 v14 v15 v16 v17 v18 v19) (h2 ++ (rest ++ [.lst (([t.s].map (txs false)).map .d)])) = .ok .nx (rl v0 v2 (some (.d X)) (some (.d (.seq false (ni ks)))) (some (.loc (3 + rest.length))) u6 v7 v8 v9 v10 v11 v12 v13 v14 v15 v16 v17 v18 v19) (h2 ++ (rest ++ [.lst ((stsD t ks).map .d)])) := by
    have ev : eV 4 (rl v0 v2 (some (.d X)) (some (.d (.seq false (ni ks)))) (some (.loc (3 + rest.length))) v6 v7 v8 v9 v10 v11 v12 v13 v14 v15 v16 v17 v18 v19) (h2 ++ (rest ++ [.lst (([t.s].map (txs false)).map .d)])) = .ok (.d (.seq false (ni ks))) (h2 ++ (rest ++ [.lst (([t.s].map (txs false)).map .d)])) := rfl
    have es : sqOf (h2 ++ (rest ++ [.lst (([t.s].map (txs false)).map .d)])) (.d (.seq false (ni ks))) = .dat false (ni ks) := rfl
    simp only [l4, sFor, srSeq, ev, R.bind, es, R.bindS, forS]
    exact e4
  have hA1 : (rest ++ [SO.lst ((stsD t ks).map .d)])[rest.length]? = some (.lst ((stsD t ks).map .d)) := get_at
  have gr1 : Gr (rest ++ [SO.lst ((stsD t ks).map .d)]) := gr_d g _
  generalize hr1 : rest ++ [SO.lst ((stsD t ks).map .d)] = rest1 at *
  have hl1 : rest1.length = rest.length + 1 := by rw [← hr1]; simp
  obtain ⟨h5, e5, H5⟩ := l5_ok (rest := rest1) (v0 := v0) (v2 := v2) (v5 := some (.loc (3 + rest.length))) (v6 := u6) (v7 := v7) (v8 := v8) (v9 := v9) (v10 := v10) (v11 := v11) (v12 := v12) (v13 := v13) (v14 := v14) (v15 := v15) (v16 := v16) (v17 := v17) (v18 := v18) (v19 := v19) r o H2 (by omega) ha1 (by omega)
  have hrl := statesT_length t ks t.s
  have hsl := statesT_len t o ks t.s
  have hs7 : t.s.length ≤ 7 := sub7 (o.s.trans o.fs)
  have hst : stsD t ks = ((t.s :: statesT t ks t.s).map (txs false)) := rfl
  generalize hrr : statesT t ks t.s = rr at *
  have hM : ∀ (hh : Store) (m : Nat), Hd T m hh → ∀ more k, deepB 0 (k + 3) (hh ++ (rest1 ++ toldSt (3 + rest1.length) t.s rr ++ more)) (.loc (3 + rest1.length + (rr.length + 2) + (rr.length + 2))) = some (.seq false [.seq false (stsD t ks), .seq false (stsD t ks)]) := by
    intro hh m HH more k
    have hL : (hh ++ rest1).length = 3 + rest1.length := by simp [HH.len]
    have := told_deep (hh ++ rest1) more t.s rr k
    rw [hL] at this
    rw [hst]
    simp only [List.append_assoc] at this ⊢
    exact this
  have hA2 : (rest1 ++ toldSt (3 + rest1.length) t.s rr)[rest.length]? = some (.lst ((stsD t ks).map .d)) := by rw [List.getElem?_append_left (by omega), hA1]
  obtain ⟨h6, e6, H6⟩ := l6_ok (rest := rest1 ++ toldSt (3 + rest1.length) t.s rr) (v0 := v0) (v2 := v2) (v6 := u6) (v8 := v8) (v9 := v9) (v10 := v10) (v11 := v11) (v12 := v12) (v13 := v13) (v14 := v14) (v15 := v15) (v16 := v16) (v17 := v17) (v18 := v18) (v19 := v19) (M := 3 + rest1.length + (rr.length + 2) + (rr.length + 2)) (A := rest.length) r o H5 (by omega) ha1 (by omega) hA2 (hM h5 _ H5)
  have hL6 : (h6 ++ rest1).length = 3 + rest1.length := by simp [H6.len]
  obtain ⟨m7, e7, l7l, q7⟩ := l7_ok (v0 := v0) (v2 := v2) (v3 := some (.d X)) (v4 := some (.d (.seq false (ni ks)))) (v5 := some (.loc (3 + rest.length))) (v6 := u6) (v8 := v8) (v9 := v9) (v10 := v10) (v11 := v11) (v12 := v12) (v13 := v13) (v14 := v14) (v15 := v15) (v16 := v16) (v17 := v17) (v18 := v18) (v19 := v19) (h6 ++ rest1) [.lst [.loc (3 + rest.length), .loc (3 + rest.length)]] t.s rr hs7 hsl (by omega)
  rw [hL6] at e7 l7l q7
  have ea7 : h6 ++ rest1 ++ (toldSt (3 + rest1.length) t.s rr ++ [.lst [.loc (3 + rest.length), .loc (3 + rest.length)]]) = h6 ++ (rest1 ++ toldSt (3 + rest1.length) t.s rr ++ [.lst [.loc (3 + rest.length), .loc (3 + rest.length)]]) := by simp only [List.append_assoc]
  rw [ea7, List.append_assoc h6 rest1 m7] at e7
  have hl7 : m7.length = (rr.length + 2) + (rr.length + 2) + 1 + 1 + 1 := by
    rw [l7l, List.length_append, toldSt_len, List.length_cons, List.length_nil]
  have gr4 : Gr (rest1 ++ m7) := by
    refine gr1.more (q7 _ (by omega) ?_)
    rw [List.all_append, toldSt_all t.s rr (by omega), List.all_cons, List.all_nil, okSO_two (by omega) (by omega)]
    rfl
  have hA4 : (rest1 ++ m7)[rest.length]? = some (.lst ((stsD t ks).map .d)) := by rw [List.getElem?_append_left (by omega), hA1]
  have e8 := l8_ok (rest := rest1 ++ m7) (v0 := v0) (v2 := v2) (v6 := u6) (v7 := some (.loc (3 + rest1.length + (rr.length + 2) + (rr.length + 2)))) (v8 := v8) (v9 := v9) (v10 := v10) (v11 := v11) (v12 := v12) (v13 := v13) (v14 := v14) (v15 := v15) (v16 := v16) (v17 := v17) (v18 := v18) (v19 := v19) (A := rest.length) (ks := ks) r o H6 (by omega) ha1 hA4
  rw [hrr] at e8
  have gr5 : Gr (rest1 ++ m7 ++ runSt (3 + (rest1 ++ m7).length) t.s rr) := gr4.more (runSt_all t.s rr (by rw [runSt_len]; omega))
  generalize hr5 : rest1 ++ m7 ++ runSt (3 + (rest1 ++ m7).length) t.s rr = rest5 at *
  obtain ⟨a9, h9, e9, _, _, H9⟩ := l9_ok (rest := rest5) (ks := ks) (v0 := v0) (v2 := v2) (v5 := some (.loc (3 + rest.length))) (v6 := u6) (v7 := some (.loc (3 + rest1.length + (rr.length + 2) + (rr.length + 2)))) (v8 := v8) (v9 := v9) (v10 := v10) (v11 := v11) (v12 := v12) (v13 := v13) (v14 := v14) (v15 := v15) (v16 := v16) (v17 := v17) (v18 := v18) (v19 := v19) r H6 (by omega) (by omega)
  obtain ⟨x10, h10, e10, s10, n10, H10⟩ := l10_ok (rest := rest5) (v0 := v0) (v2 := v2) (v3 := some (.d X)) (v4 := some (.d (.seq false (ni ks)))) (v5 := some (.loc (3 + rest.length))) (v6 := u6) (v7 := some (.loc (3 + rest1.length + (rr.length + 2) + (rr.length + 2)))) (v8 := some (.d (.int a9))) (v10 := v10) (v11 := v11) (v12 := v12) (v13 := v13) (v14 := v14) (v15 := v15) (v16 := v16) (v17 := v17) (v18 := v18) (v19 := v19) H9 t.ds.length (by omega)
  obtain ⟨ts, e11, t11, l11l⟩ := l11_ok (rest := rest5) (v0 := v0) (v2 := v2) (v3 := some (.d X)) (v5 := some (.loc (3 + rest.length))) (v6 := u6) (v7 := some (.loc (3 + rest1.length + (rr.length + 2) + (rr.length + 2)))) (v9 := some (.d (.int t.ds.length))) (v11 := v11) (v12 := v12) (v13 := v13) (v14 := v14) (v15 := v15) (v16 := v16) (v17 := v17) (v18 := v18) (v19 := v19) (ks := ks) H10 (by omega) a9 ⟨s10, n10⟩
  have hdl := o.len
  obtain ⟨ts', h12, e12, t12, l12l, H12⟩ := l12_ok (rest := rest5) (v0 := v0) (v2 := v2) (v3 := some (.d X)) (v4 := some (.d (.seq false (ni ks)))) (v5 := some (.loc (3 + rest.length))) (v6 := u6) (v7 := some (.loc (3 + rest1.length + (rr.length + 2) + (rr.length + 2)))) (v8 := some (.d (.int a9))) (v10 := some (.d x10)) (v12 := v12) (v13 := v13) (v14 := v14) (v15 := v15) (v16 := v16) (v17 := v17) (v18 := v18) (v19 := v19) H10 t.ds.length (by omega) t11 l11l (by omega)
  have gr6 : Gr (rest5 ++ [.lst (ts'.map .d)]) := gr_d gr5 ts'
  have hA6 : (rest5 ++ [SO.lst (ts'.map .d)])[rest5.length]? = some (.lst (ts'.map .d)) := get_at
  obtain ⟨m13, h13, w12, w13, w14, w15, w16, w17, e13, g13, H13⟩ := l13_ok (T := T) (v0 := v0) (v2 := v2) (v4 := some (.d (.seq false (ni ks)))) (v5 := some (.loc (3 + rest.length))) (v6 := u6) (v7 := some (.loc (3 + rest1.length + (rr.length + 2) + (rr.length + 2)))) (v8 := some (.d (.int a9))) (v9 := some (.d (.int t.ds.length))) (v10 := some (.d x10)) (v12 := v12) (v13 := v13) (v14 := v14) (v15 := v15) (v16 := v16) (v17 := v17) (v18 := v18) (v19 := v19) r o t12 l12l H12 (by omega) gr6 hA6
  obtain ⟨bp, h14, hbp, e14, H14⟩ := bad_task_ok H13 (rest5 ++ [.lst (ts'.map .d)] ++ m13) (by omega)
  have z14 : l14 (rl v0 v2 (some (.d X)) (some (.d (.seq false (ni ks)))) (some (.loc (3 + rest.length))) u6 (some (.loc (3 + rest1.length + (rr.length + 2) + (rr.length + 2)))) (some (.d (.int a9))) (some (.d (.int t.ds.length))) (some (.d x10)) (some (.loc (3 + rest5.length))) w12 w13 w14 w15 w16 w17 v18 v19) (h13 ++ (rest5 ++ [.lst (ts'.map .d)] ++ m13)) =
      .ok .nx (rl v0 v2 (some (.d X)) (some (.d (.seq false (ni ks)))) (some (.loc (3 + rest.length))) u6 (some (.loc (3 + rest1.length + (rr.length + 2) + (rr.length + 2)))) (some (.d (.int a9))) (some (.d (.int t.ds.length))) (some (.d x10)) (some (.loc (3 + rest5.length))) w12 w13 w14 w15 w16 w17 (some (.d (.seq true [bp.1, bp.2]))) v19) (h14 ++ (rest5 ++ [.lst (ts'.map .d)] ++ m13)) := by
    simp only [l14, rl, callP1, callP2, callP3, okF_ok, okF_ex, mPure, sAsg, sPar2, sPar3, sIf, sRet, sDrop, sNext, mT, mOp, mUn, mCall, mCons, mNil, mRaw, mIf, mAnd, mOr, mNot, eV, eC, R.bind, R.bindS, R.of, List.getElem?_cons_zero, List.getElem?_cons_succ, List.set_cons_zero, List.set_cons_succ, List.length_cons, List.length_nil, Nat.reduceAdd, if_true, Tgt.put, e14]
  have e15 := kAll_ok (T := T) (v0 := v0) (v2 := v2) (v3 := some (.d X)) (v4 := some (.d (.seq false (ni ks)))) (v5 := some (.loc (3 + rest.length))) (v6 := u6) (v7 := some (.loc (3 + rest1.length + (rr.length + 2) + (rr.length + 2)))) (v8 := some (.d (.int a9))) (v9 := some (.d (.int t.ds.length))) (v10 := some (.d x10)) (v11 := some (.loc (3 + rest5.length))) (v12 := w12) (v13 := w13) (v14 := w14) (v15 := w15) (v16 := w16) (v17 := w17) (v19 := v19) H14 g13 (bads_ok bp hbp) (bads_nice bp hbp)
  refine ⟨_, h14, some (.d X), some (.d (.seq false (ni ks))), some (.loc (3 + rest.length)), u6, some (.loc (3 + rest1.length + (rr.length + 2) + (rr.length + 2))), some (.d (.int a9)), some (.d (.int t.ds.length)), some (.d x10), some (.loc (3 + rest5.length)), w12, w13, w14, w15, w16, some (.loc (3 + (rest5 ++ [SO.lst (ts'.map .d)] ++ m13).length)), some (.d (.seq true [bp.1, bp.2])), ?_, gr_d g13 [.seq true [.str "task", bp.2], .seq true [.str "task", bp.2], .seq true [.str "task", bp.2]], H14.mono (by omega)⟩
  simp only [turn, sSeq, z1, z2, z3, z4, e5, e6, e7, e8, e9, e10, e11, e12, e13, z14, e15]
  rfl
theorem turns_ok : ∀ (k : Nat) (i : Int) (n : Nat) (h rest : Store) (v2 v3 v4 v5 v6 v7 v8 v9 v10 v11 v12 v13 v14 v15 v16 v17 v18 : Option W), Hd T n h → Gr rest → n + 10000 * k ≤ 2 ^ 42 →
    ∃ (rest' h' : Store) (ρ : En), forL (.nm 2) (turn T) (rngL i k) (rl v0 v2 v3 v4 v5 v6 v7 v8 v9 v10 v11 v12 v13 v14 v15 v16 v17 v18 v19) (h ++ rest) = .ok .nx ρ (h' ++ rest')
  | 0, i, n, h, rest, v2, v3, v4, v5, v6, v7, v8, v9, v10, v11, v12, v13, v14, v15, v16, v17, v18, H, g, _ => ⟨rest, h, _, rfl⟩
  | k + 1, i, n, h, rest, v2, v3, v4, v5, v6, v7, v8, v9, v10, v11, v12, v13, v14, v15, v16, v17, v18, H, g, hn => by
    obtain ⟨rest1, h1, u3, u4, u5, u6, u7, u8, u9, u10, u11, u12, u13, u14, u15, u16, u17, u18, e1, g1, H1⟩ := turn_ok (v0 := v0) (v2 := some (.d (.int i))) (v3 := v3) (v4 := v4) (v5 := v5) (v6 := v6) (v7 := v7) (v8 := v8) (v9 := v9) (v10 := v10) (v11 := v11) (v12 := v12) (v13 := v13) (v14 := v14) (v15 := v15) (v16 := v16) (v17 := v17) (v18 := v18) (v19 := v19) H g (by omega)
    obtain ⟨rest2, h2, ρ, e2⟩ := turns_ok k (i + 1) (n + 5000) h1 rest1 (some (.d (.int i))) u3 u4 u5 u6 u7 u8 u9 u10 u11 u12 u13 u14 u15 u16 u17 u18 H1 g1 (by omega)
    refine ⟨rest2, h2, ρ, ?_⟩
    have ep : Tgt.putI (h ++ rest) (.nm 2) (one (.int i)) (rl v0 v2 v3 v4 v5 v6 v7 v8 v9 v10 v11 v12 v13 v14 v15 v16 v17 v18 v19) = some (rl v0 (some (.d (.int i))) v3 v4 v5 v6 v7 v8 v9 v10 v11 v12 v13 v14 v15 v16 v17 v18 v19) := rfl
    rw [rngL, forL_cons, ep]
    simp only [e1, e2]
end
theorem f_L_stream_eq (ws : List W) (st : Store) : f_L_stream ws st = outW (m_L_stream (initE 1 ws) st) := rfl
theorem plain_law : ∀ (T : List (Addr × Str)) (ns : List Int), ns.length ≤ 63 → ∃ st', f_law T [.d (.scr ns)] [.tabs T] = .ok (.d (.bl true)) st' := by
  intro T ns hl
  have e1 : f_L_stream [.d (.scr ns)] [.tabs T] = .ok (.loc 2) (hd T ns 0 0 19 ++ []) := rfl
  have H : Hd T 0 (hd T ns 0 0 19) := ⟨ns, 0, 0, 19, rfl, hl, by decide, by decide, by decide, by decide, by decide⟩
  obtain ⟨rest', h', ρ, e2⟩ := turns_ok (T := T) (v0 := some (.d (.scr ns))) (v19 := none) 5 0 0 (hd T ns 0 0 19) [] none none none none none none none none none none none none none none none none none H rfl (by decide)
  have e0 : initE 20 [W.d (.scr ns)] = [some (.d (.scr ns)), none, none, none, none, none, none, none, none, none, none, none, none, none, none, none, none, none, none, none] := rfl
  have z1 : sAsg (.nm 1) (mRaw f_L_stream 1 (mCons (eV 0) mNil)) [some (.d (.scr ns)), none, none, none, none, none, none, none, none, none, none, none, none, none, none, none, none, none, none, none] [.tabs T] = .ok .nx (rl (some (.d (.scr ns))) none none none none none none none none none none none none none none none none none none) (hd T ns 0 0 19 ++ []) := by
    simp only [callP1, callP2, callP3, okF_ok, okF_ex, mPure, sAsg, sPar2, sPar3, sIf, sRet, sDrop, sNext, mT, mOp, mUn, mCall, mCons, mNil, mRaw, mIf, mAnd, mOr, mNot, eV, eC, R.bind, R.bindS, R.of, List.getElem?_cons_zero, List.getElem?_cons_succ, List.set_cons_zero, List.set_cons_succ, List.length_cons, List.length_nil, Nat.reduceAdd, if_true, Tgt.put, e1]
    rfl
  have z2 : sFor (srRng1 (mCons (eC (.int 5)) mNil)) (.nm 2) (turn T) (rl (some (.d (.scr ns))) none none none none none none none none none none none none none none none none none none) (hd T ns 0 0 19 ++ []) = .ok .nx ρ (h' ++ rest') := e2
  refine ⟨h' ++ rest', ?_⟩
  show outW (m_law T (initE 20 [W.d (.scr ns)]) [.tabs T]) = _
  rw [m_law_split, e0]
  simp only [sSeq, z1, z2]
  rfl
end IL

set_option maxHeartbeats 4000007
namespace IL
open PySem PySem.Spec
open PyProof.Rows L2
end IL
open PySem PySem.W PyProof.Rows
theorem PySem.Challenge.cw_leadsthere_k11_whole_main_plans_replayed_holds : PySem.Challenge.rw_leadsthere_k11_whole_main_plans_replayed.Holds := by
  w_on; o_law; k_head; (case hw => w_witness2)
  k_fill
  refine IL.walk_ofTT (l := PySem.Challenge.rw_leadsthere_k11_whole_main_plans_replayed) (n := 63) (k := 15) (x := "script") (CX := fun w => L2.CX (PySem.Challenge.rw_leadsthere_k11_whole_main_plans_replayed).prog w) rfl (by decide) rfl ⟨rfl, by decide, by decide⟩ (fun w h Y => PySem.W.km_in_of Y) ?F (fun _ _ _ _ _ h => IL.cx_false h)
  case F =>
    intro w mg fa h tf KX G hmg
    refine' IL.all_mk KX G hmg tf ?a0 ?l0 ?c0 ?cv ?lc ?h11 ?nP ?a_L_stream_ ?l_L_stream_ ?c_L_stream_ ?k_L_stream_ ?a_L_draw_ ?l_L_draw_ ?c_L_draw_ ?k_L_draw_ ?a_L_pick_ ?l_L_pick_ ?c_L_pick_ ?k_L_pick_ ?a_L_some_ ?l_L_some_ ?c_L_some_ ?k_L_some_ ?a_L_task_ ?l_L_task_ ?c_L_task_ ?k_L_task_ ?a_L_open_ ?l_L_open_ ?c_L_open_ ?k_L_open_ ?a_L_after_ ?l_L_after_ ?c_L_after_ ?k_L_after_ ?a_L_drawn_row_ ?l_L_drawn_row_ ?c_L_drawn_row_ ?k_L_drawn_row_ ?a_is_list_ ?l_is_list_ ?c_is_list_ ?k_is_list_ ?a_is_row_ ?l_is_row_ ?c_is_row_ ?k_is_row_ ?a_is_name_ ?l_is_name_ ?c_is_name_ ?k_is_name_ ?a_first_bad_name_ ?l_first_bad_name_ ?c_first_bad_name_ ?k_first_bad_name_ ?a_is_whole_ ?l_is_whole_ ?c_is_whole_ ?k_is_whole_ ?a_is_number_ ?l_is_number_ ?c_is_number_ ?k_is_number_ ?a_are_facts_ ?l_are_facts_ ?c_are_facts_ ?k_are_facts_ ?a_is_deed_ ?l_is_deed_ ?c_is_deed_ ?k_is_deed_ ?a_fault_of_ ?l_fault_of_ ?c_fault_of_ ?k_fault_of_ ?a_check_task_ ?l_check_task_ ?c_check_task_ ?k_check_task_ ?a_first_lack_ ?l_first_lack_ ?c_first_lack_ ?k_first_lack_ ?a_done_ ?l_done_ ?c_done_ ?k_done_ ?a_fault_along_ ?l_fault_along_ ?c_fault_along_ ?k_fault_along_ ?a_check_along_ ?l_check_along_ ?c_check_along_ ?k_check_along_ ?a_states_along_ ?l_states_along_ ?c_states_along_ ?k_states_along_ ?a_run_ ?l_run_ ?c_run_ ?k_run_ ?a_L_copied_ ?l_L_copied_ ?c_L_copied_ ?k_L_copied_ ?a_L_loose_ ?l_L_loose_ ?c_L_loose_ ?k_L_loose_ ?a_L_handed_ ?l_L_handed_ ?c_L_handed_ ?k_L_handed_ ?a_L_same_ ?l_L_same_ ?c_L_same_ ?k_L_same_ ?a_L_cost_ ?l_L_cost_ ?c_L_cost_ ?k_L_cost_ ?a_cost_of_ ?l_cost_of_ ?c_cost_of_ ?k_cost_of_ ?a_cost_ ?l_cost_ ?c_cost_ ?k_cost_ ?a_L_spoilt_ ?l_L_spoilt_ ?c_L_spoilt_ ?k_L_spoilt_ ?a_L_is_whole_ ?l_L_is_whole_ ?c_L_is_whole_ ?k_L_is_whole_ ?a_L_along_ ?l_L_along_ ?c_L_along_ ?k_L_along_ ?a_L_plan_fault_ ?l_L_plan_fault_ ?c_L_plan_fault_ ?k_L_plan_fault_ ?a_fault_of_plan_ ?l_fault_of_plan_ ?c_fault_of_plan_ ?k_fault_of_plan_ ?a_plan_fault_ ?l_plan_fault_ ?c_plan_fault_ ?k_plan_fault_ ?a_L_bad_task_ ?l_L_bad_task_ ?c_L_bad_task_ ?k_L_bad_task_ ?a_L_met_ ?l_L_met_ ?c_L_met_ ?k_L_met_ ?a_XBadTask ?xL_XBadTask ?xb_XBadTask ?sa_XBadTask ?kC_XBadTask ?iC_XBadTask ?tI_XBadTask ?l_XBadTask ?c_XBadTask ?k_XBadTask ?tC_XBadTask ?eC_XBadTask ?nf_XBadTask ?ga_XBadTask ?gg_XBadTask ?hC_XBadTask ?is_XBadTask ?a_XBadPlan ?xL_XBadPlan ?xb_XBadPlan ?sa_XBadPlan ?kC_XBadPlan ?iC_XBadPlan ?tI_XBadPlan ?l_XBadPlan ?c_XBadPlan ?k_XBadPlan ?tC_XBadPlan ?eC_XBadPlan ?nf_XBadPlan ?ga_XBadPlan ?gg_XBadPlan ?hC_XBadPlan ?is_XBadPlan ?em_BadTask_BadTask ?em_BadTask_BadPlan ?em_BadPlan_BadTask ?em_BadPlan_BadPlan ?b_abs ?b_all ?b_bool ?b_dict ?b_enumerate ?b_int ?b_isinstance ?b_len ?b_list ?b_range ?b_sorted ?b_str ?b_sum ?b_tuple ?b_zip ?rq IL.plain_law
    (case a0 => k_is)
    (case l0 => k_is)
    (case c0 => k_is)
    (case cv => rfl)
    (case lc => k_is)
    (case h11 => rfl)
    (case nP => first | rfl | kernel_rfl)
    (case a_L_stream_ => k_is)
    (case l_L_stream_ => k_is)
    (case c_L_stream_ => k_is)
    (case k_L_stream_ => k_is)
    (case a_L_draw_ => k_is)
    (case l_L_draw_ => k_is)
    (case c_L_draw_ => k_is)
    (case k_L_draw_ => k_is)
    (case a_L_pick_ => k_is)
    (case l_L_pick_ => k_is)
    (case c_L_pick_ => k_is)
    (case k_L_pick_ => k_is)
    (case a_L_some_ => k_is)
    (case l_L_some_ => k_is)
    (case c_L_some_ => k_is)
    (case k_L_some_ => k_is)
    (case a_L_task_ => k_is)
    (case l_L_task_ => k_is)
    (case c_L_task_ => k_is)
    (case k_L_task_ => k_is)
    (case a_L_open_ => k_is)
    (case l_L_open_ => k_is)
    (case c_L_open_ => k_is)
    (case k_L_open_ => k_is)
    (case a_L_after_ => k_is)
    (case l_L_after_ => k_is)
    (case c_L_after_ => k_is)
    (case k_L_after_ => k_is)
    (case a_L_drawn_row_ => k_is)
    (case l_L_drawn_row_ => k_is)
    (case c_L_drawn_row_ => k_is)
    (case k_L_drawn_row_ => k_is)
    (case a_is_list_ => k_is)
    (case l_is_list_ => k_is)
    (case c_is_list_ => k_is)
    (case k_is_list_ => k_is)
    (case a_is_row_ => k_is)
    (case l_is_row_ => k_is)
    (case c_is_row_ => k_is)
    (case k_is_row_ => k_is)
    (case a_is_name_ => k_is)
    (case l_is_name_ => k_is)
    (case c_is_name_ => k_is)
    (case k_is_name_ => k_is)
    (case a_first_bad_name_ => k_is)
    (case l_first_bad_name_ => k_is)
    (case c_first_bad_name_ => k_is)
    (case k_first_bad_name_ => k_is)
    (case a_is_whole_ => k_is)
    (case l_is_whole_ => k_is)
    (case c_is_whole_ => k_is)
    (case k_is_whole_ => k_is)
    (case a_is_number_ => k_is)
    (case l_is_number_ => k_is)
    (case c_is_number_ => k_is)
    (case k_is_number_ => k_is)
    (case a_are_facts_ => k_is)
    (case l_are_facts_ => k_is)
    (case c_are_facts_ => k_is)
    (case k_are_facts_ => k_is)
    (case a_is_deed_ => k_is)
    (case l_is_deed_ => k_is)
    (case c_is_deed_ => k_is)
    (case k_is_deed_ => k_is)
    (case a_fault_of_ => k_is)
    (case l_fault_of_ => k_is)
    (case c_fault_of_ => k_is)
    (case k_fault_of_ => k_is)
    (case a_check_task_ => k_is)
    (case l_check_task_ => k_is)
    (case c_check_task_ => k_is)
    (case k_check_task_ => k_is)
    (case a_first_lack_ => k_is)
    (case l_first_lack_ => k_is)
    (case c_first_lack_ => k_is)
    (case k_first_lack_ => k_is)
    (case a_done_ => k_is)
    (case l_done_ => k_is)
    (case c_done_ => k_is)
    (case k_done_ => k_is)
    (case a_fault_along_ => k_is)
    (case l_fault_along_ => k_is)
    (case c_fault_along_ => k_is)
    (case k_fault_along_ => k_is)
    (case a_check_along_ => k_is)
    (case l_check_along_ => k_is)
    (case c_check_along_ => k_is)
    (case k_check_along_ => k_is)
    (case a_states_along_ => k_is)
    (case l_states_along_ => k_is)
    (case c_states_along_ => k_is)
    (case k_states_along_ => k_is)
    (case a_run_ => k_is)
    (case l_run_ => k_is)
    (case c_run_ => k_is)
    (case k_run_ => k_is)
    (case a_L_copied_ => k_is)
    (case l_L_copied_ => k_is)
    (case c_L_copied_ => k_is)
    (case k_L_copied_ => k_is)
    (case a_L_loose_ => k_is)
    (case l_L_loose_ => k_is)
    (case c_L_loose_ => k_is)
    (case k_L_loose_ => k_is)
    (case a_L_handed_ => k_is)
    (case l_L_handed_ => k_is)
    (case c_L_handed_ => k_is)
    (case k_L_handed_ => k_is)
    (case a_L_same_ => k_is)
    (case l_L_same_ => k_is)
    (case c_L_same_ => k_is)
    (case k_L_same_ => k_is)
    (case a_L_cost_ => k_is)
    (case l_L_cost_ => k_is)
    (case c_L_cost_ => k_is)
    (case k_L_cost_ => k_is)
    (case a_cost_of_ => k_is)
    (case l_cost_of_ => k_is)
    (case c_cost_of_ => k_is)
    (case k_cost_of_ => k_is)
    (case a_cost_ => k_is)
    (case l_cost_ => k_is)
    (case c_cost_ => k_is)
    (case k_cost_ => k_is)
    (case a_L_spoilt_ => k_is)
    (case l_L_spoilt_ => k_is)
    (case c_L_spoilt_ => k_is)
    (case k_L_spoilt_ => k_is)
    (case a_L_is_whole_ => k_is)
    (case l_L_is_whole_ => k_is)
    (case c_L_is_whole_ => k_is)
    (case k_L_is_whole_ => k_is)
    (case a_L_along_ => k_is)
    (case l_L_along_ => k_is)
    (case c_L_along_ => k_is)
    (case k_L_along_ => k_is)
    (case a_L_plan_fault_ => k_is)
    (case l_L_plan_fault_ => k_is)
    (case c_L_plan_fault_ => k_is)
    (case k_L_plan_fault_ => k_is)
    (case a_fault_of_plan_ => k_is)
    (case l_fault_of_plan_ => k_is)
    (case c_fault_of_plan_ => k_is)
    (case k_fault_of_plan_ => k_is)
    (case a_plan_fault_ => k_is)
    (case l_plan_fault_ => k_is)
    (case c_plan_fault_ => k_is)
    (case k_plan_fault_ => k_is)
    (case a_L_bad_task_ => k_is)
    (case l_L_bad_task_ => k_is)
    (case c_L_bad_task_ => k_is)
    (case k_L_bad_task_ => k_is)
    (case a_L_met_ => k_is)
    (case l_L_met_ => k_is)
    (case c_L_met_ => k_is)
    (case k_L_met_ => k_is)
    (case a_XBadTask => k_is)
    (case xL_XBadTask => k_is)
    (case xb_XBadTask => first | rfl | decide +kernel | k_is)
    (case sa_XBadTask => k_is)
    (case kC_XBadTask => k_is)
    (case iC_XBadTask => k_is)
    (case tI_XBadTask => k_is)
    (case l_XBadTask => k_is)
    (case c_XBadTask => k_is)
    (case k_XBadTask => k_is)
    (case tC_XBadTask => k_is)
    (case eC_XBadTask => k_is)
    (case nf_XBadTask => k_is)
    (case ga_XBadTask => k_is)
    (case gg_XBadTask => k_is)
    (case hC_XBadTask => k_is)
    (case is_XBadTask => k_is)
    (case a_XBadPlan => k_is)
    (case xL_XBadPlan => k_is)
    (case xb_XBadPlan => first | rfl | decide +kernel | k_is)
    (case sa_XBadPlan => k_is)
    (case kC_XBadPlan => k_is)
    (case iC_XBadPlan => k_is)
    (case tI_XBadPlan => k_is)
    (case l_XBadPlan => k_is)
    (case c_XBadPlan => k_is)
    (case k_XBadPlan => k_is)
    (case tC_XBadPlan => k_is)
    (case eC_XBadPlan => k_is)
    (case nf_XBadPlan => k_is)
    (case ga_XBadPlan => k_is)
    (case gg_XBadPlan => k_is)
    (case hC_XBadPlan => k_is)
    (case is_XBadPlan => k_is)
    (case em_BadTask_BadTask => first | rfl | k_is)
    (case em_BadTask_BadPlan => first | rfl | k_is)
    (case em_BadPlan_BadTask => first | rfl | k_is)
    (case em_BadPlan_BadPlan => first | rfl | k_is)
    (case b_abs => k_is)
    (case b_all => k_is)
    (case b_bool => k_is)
    (case b_dict => k_is)
    (case b_enumerate => k_is)
    (case b_int => k_is)
    (case b_isinstance => k_is)
    (case b_len => k_is)
    (case b_list => k_is)
    (case b_range => k_is)
    (case b_sorted => k_is)
    (case b_str => k_is)
    (case b_sum => k_is)
    (case b_tuple => k_is)
    (case b_zip => k_is)
    (case rq => exact ⟨_, by first | rfl | decide +kernel⟩)

