import PyProof.Rows.All
import HandS.ForMost
import HandS.Walk
import HandS.Zip
import HandS.TupAny
import HandS.TupMul
import HandS.Style
import HandS.Flow
import HandS.IsInst
import HandS.Wide
import KE.KTupSum
import KE.GoesEnumKw
import PyProof.Rows.CallKwBuiltin
import PySem.Challenge.RW_keybench_k75_whole_swap_or_parting
set_option Elab.async false
set_option linter.all false
set_option maxRecDepth 100000
set_option maxHeartbeats 4000000
namespace KB
open PySem PySem.Spec PyProof.Rows L2

/-! ### data as trees, and what stands for them in a heap -/
inductive Dt where
  | non | bl (b : Bool) | int (i : Int) | str (s : Str) | ty (n : String) | ptr (a : Addr) | tup (l : List Dt) | lst (l : List Dt)

mutual
def Rp (F : Hp) : Dt → V → Prop
  | .non, v => v = .non
  | .bl b, v => v = .bl b
  | .int i, v => v = .int i
  | .str s, v => v = .str s
  | .ty n, v => v = .ty n
  | .ptr a, v => v = .ref a
  | .tup l, v => ∃ a xs, v = .ref a ∧ F a = some (.tup xs) ∧ RpL F l xs
  | .lst l, v => ∃ a xs, v = .ref a ∧ F a = some (.lst xs) ∧ RpL F l xs
def RpL (F : Hp) : List Dt → List V → Prop
  | [], xs => xs = []
  | d :: ds, xs => ∃ x r, xs = x :: r ∧ Rp F d x ∧ RpL F ds r
end

mutual
theorem Rp.mono {F F' : Hp} (e : Same F F') : ∀ {d : Dt} {v : V}, Rp F d v → Rp F' d v
  | .non, _, h => by simpa only [Rp] using h
  | .bl _, _, h => by simpa only [Rp] using h
  | .int _, _, h => by simpa only [Rp] using h
  | .str _, _, h => by simpa only [Rp] using h
  | .ty _, _, h => by simpa only [Rp] using h
  | .ptr _, _, h => by simpa only [Rp] using h
  | .tup l, _, h => by
    simp only [Rp] at h ⊢
    obtain ⟨a, xs, e1, e2, e3⟩ := h
    exact ⟨a, xs, e1, e _ _ e2, RpL.mono e e3⟩
  | .lst l, _, h => by
    simp only [Rp] at h ⊢
    obtain ⟨a, xs, e1, e2, e3⟩ := h
    exact ⟨a, xs, e1, e _ _ e2, RpL.mono e e3⟩
theorem RpL.mono {F F' : Hp} (e : Same F F') : ∀ {ds : List Dt} {xs : List V}, RpL F ds xs → RpL F' ds xs
  | [], _, h => by simpa only [RpL] using h
  | d :: ds, _, h => by
    simp only [RpL] at h ⊢
    obtain ⟨x, r, e1, e2, e3⟩ := h
    exact ⟨x, r, e1, Rp.mono e e2, RpL.mono e e3⟩
end
theorem rp_int {F : Hp} {i : Int} {v : V} : Rp F (.int i) v ↔ v = .int i := by simp only [Rp]
theorem rp_bl {F : Hp} {i : Bool} {v : V} : Rp F (.bl i) v ↔ v = .bl i := by simp only [Rp]
theorem rp_non {F : Hp} {v : V} : Rp F .non v ↔ v = .non := by simp only [Rp]
theorem rp_ptr {F : Hp} {a : Addr} {v : V} : Rp F (.ptr a) v ↔ v = .ref a := by simp only [Rp]
theorem rp_tup {F : Hp} {l : List Dt} {v : V} : Rp F (.tup l) v ↔ ∃ a xs, v = .ref a ∧ F a = some (.tup xs) ∧ RpL F l xs := by simp only [Rp]
theorem rp_lst {F : Hp} {l : List Dt} {v : V} : Rp F (.lst l) v ↔ ∃ a xs, v = .ref a ∧ F a = some (.lst xs) ∧ RpL F l xs := by simp only [Rp]
theorem RpL.nil {F : Hp} : RpL F [] [] := by simp only [RpL]
theorem RpL.cons {F : Hp} {d : Dt} {ds : List Dt} {x : V} {xs : List V} (h : Rp F d x) (t : RpL F ds xs) : RpL F (d :: ds) (x :: xs) := by
  simp only [RpL]
  exact ⟨x, xs, rfl, h, t⟩
theorem RpL.inv0 {F : Hp} {xs : List V} (h : RpL F [] xs) : xs = [] := by simpa only [RpL] using h
theorem RpL.inv {F : Hp} {d : Dt} {ds : List Dt} {xs : List V} (h : RpL F (d :: ds) xs) : ∃ x r, xs = x :: r ∧ Rp F d x ∧ RpL F ds r := by simpa only [RpL] using h
theorem RpL.length {F : Hp} : ∀ {ds : List Dt} {xs : List V}, RpL F ds xs → ds.length = xs.length
  | [], _, h => by
    rw [h.inv0]
    rfl
  | d :: ds, _, h => by
    obtain ⟨x, r, rfl, _, t⟩ := h.inv
    rw [List.length_cons, List.length_cons, RpL.length t]
theorem RpL.get {F : Hp} : ∀ {ds : List Dt} {xs : List V} {i : Nat} {d : Dt}, RpL F ds xs → ds[i]? = some d → ∃ x, xs[i]? = some x ∧ Rp F d x
  | [], _, _, _, h, e => by simp at e
  | d :: ds, _, 0, _, h, e => by
    obtain ⟨x, r, rfl, hx, _⟩ := h.inv
    have e' : d = _ := Option.some.inj e
    subst e'
    exact ⟨x, rfl, hx⟩
  | d :: ds, _, i + 1, _, h, e => by
    obtain ⟨x, r, rfl, _, t⟩ := h.inv
    exact RpL.get (i := i) t e
theorem RpL.at_ {F : Hp} {ds : List Dt} {xs : List V} {i : Nat} {x : V} (h : RpL F ds xs) (e : xs[i]? = some x) : ∃ d, ds[i]? = some d ∧ Rp F d x := by
  have hl := h.length
  obtain ⟨hi, _⟩ := List.getElem?_eq_some_iff.mp e
  have hd : ds[i]? = some ds[i] := List.getElem?_eq_getElem (by omega)
  obtain ⟨y, e2, r⟩ := h.get hd
  have : y = x := Option.some.inj (e2.symm.trans e)
  subst this
  exact ⟨_, hd, r⟩
theorem RpL.append {F : Hp} : ∀ {ds es : List Dt} {xs ys : List V}, RpL F ds xs → RpL F es ys → RpL F (ds ++ es) (xs ++ ys)
  | [], _, _, _, h, t => by rw [h.inv0]; exact t
  | d :: ds, _, _, _, h, t => by
    obtain ⟨x, r, rfl, hx, u⟩ := h.inv
    exact .cons hx (RpL.append u t)
theorem RpL.take {F : Hp} : ∀ (n : Nat) {ds : List Dt} {xs : List V}, RpL F ds xs → RpL F (ds.take n) (xs.take n)
  | 0, _, _, _ => by simp [RpL]
  | n + 1, [], _, h => by rw [h.inv0]; simp [RpL]
  | n + 1, d :: ds, _, h => by
    obtain ⟨x, r, rfl, hx, u⟩ := h.inv
    exact .cons hx (RpL.take n u)
theorem RpL.drop {F : Hp} : ∀ (n : Nat) {ds : List Dt} {xs : List V}, RpL F ds xs → RpL F (ds.drop n) (xs.drop n)
  | 0, _, _, h => h
  | n + 1, [], _, h => by rw [h.inv0]; simp [RpL]
  | n + 1, d :: ds, _, h => by
    obtain ⟨x, r, rfl, hx, u⟩ := h.inv
    exact RpL.drop n u
theorem RpL.set {F : Hp} {d : Dt} {x : V} (hx : Rp F d x) : ∀ (n : Nat) {ds : List Dt} {xs : List V}, RpL F ds xs → RpL F (ds.set n d) (xs.set n x)
  | _, [], _, h => by rw [h.inv0]; simp [RpL]
  | 0, e :: ds, _, h => by
    obtain ⟨y, r, rfl, _, u⟩ := h.inv
    exact .cons hx u
  | n + 1, e :: ds, _, h => by
    obtain ⟨y, r, rfl, hy, u⟩ := h.inv
    exact .cons hy (RpL.set hx n u)
theorem RpL.dropLast {F : Hp} {ds : List Dt} {xs : List V} (h : RpL F ds xs) : RpL F ds.dropLast xs.dropLast := by
  rw [List.dropLast_eq_take, List.dropLast_eq_take, h.length]
  exact h.take _
theorem RpL.rep {F : Hp} {ds : List Dt} {xs : List V} (h : RpL F ds xs) : ∀ k : Nat, RpL F (List.replicate k ds).flatten (List.replicate k xs).flatten
  | 0 => by simp [RpL]
  | k + 1 => by
    rw [List.replicate_succ, List.replicate_succ, List.flatten_cons, List.flatten_cons]
    exact h.append (RpL.rep h k)
theorem RpL.ints {F : Hp} : ∀ {ns : List Int} {xs : List V}, RpL F (ns.map Dt.int) xs → xs = ns.map V.int
  | [], _, h => h.inv0
  | n :: ns, _, h => by
    obtain ⟨x, r, rfl, hx, u⟩ := h.inv
    rw [rp_int.mp hx, RpL.ints u]
    rfl
theorem RpL.ofInts {F : Hp} : ∀ (ns : List Int), RpL F (ns.map Dt.int) (ns.map V.int)
  | [] => .nil
  | n :: ns => .cons (rp_int.mpr rfl) (RpL.ofInts ns)
theorem RpL.bls {F : Hp} : ∀ {ns : List Bool} {xs : List V}, RpL F (ns.map Dt.bl) xs → xs = ns.map V.bl
  | [], _, h => h.inv0
  | n :: ns, _, h => by
    obtain ⟨x, r, rfl, hx, u⟩ := h.inv
    rw [rp_bl.mp hx, RpL.bls u]
    rfl

/-! ### growth of a heap -/
/-- from the footprint F to F', the heap now being H'; B is left as it was -/
structure Gr (B F F' H' : Hp) : Prop where
  ff : Same F F'
  fh : Same F' H'
  bh : Same B H'
  fr : ∀ p o, B p = some o → (∀ xs, o ≠ .tup xs) → F' p = F p
theorem Gr.refl {F H : Hp} (h : Same F H) : Gr H F F H := ⟨Same.refl F, h, Same.refl H, fun _ _ _ _ => rfl⟩
theorem Gr.trans {B F F1 H1 F2 H2 : Hp} (a : Gr B F F1 H1) (b : Gr H1 F1 F2 H2) : Gr B F F2 H2 :=
  ⟨a.ff.trans b.ff, b.fh, a.bh.trans b.bh, fun p o e n => (b.fr p o (a.bh p o e) n).trans (a.fr p o e n)⟩
/-- the frame may be taken smaller -/
theorem Gr.less {B B' F F' H' : Hp} (a : Gr B F F' H') (h : Same B' B) : Gr B' F F' H' :=
  ⟨a.ff, a.fh, h.trans a.bh, fun p o e n => a.fr p o (h p o e) n⟩
theorem same_new {H : Hp} {p : Addr} {o : HO} (h : H p = none) : Same H (upd H p o) := fun b x e => by
  rw [upd_ne (ne_of_none e h)]
  exact e
theorem same_upd2 {F H : Hp} {p : Addr} {o : HO} (h : Same F H) : Same (upd F p o) (upd H p o) := fun b x e => by
  by_cases hb : b = p
  · subst hb
    rw [upd_same] at e ⊢
    exact e
  · rw [upd_ne hb] at e ⊢
    exact h b x e
/-- a new object, in the footprint -/
theorem Gr.new {F H : Hp} {p : Addr} {o : HO} (h : Same F H) (hp : H p = none) : Gr H F (upd F p o) (upd H p o) :=
  ⟨same_new (h.free hp), same_upd2 h, same_new hp, fun q u e _ => upd_ne (ne_of_none e hp)⟩
/-- a new object that may be changed: not in the footprint -/
theorem Gr.newM {F H : Hp} {p : Addr} {o : HO} (h : Same F H) (hp : H p = none) : Gr H F F (upd H p o) :=
  ⟨Same.refl F, h.trans (same_new hp), same_new hp, fun q u e _ => rfl⟩

/-! ### what the def itself changes -/
inductive MO where
  | lst (ds : List Dt)
  | dic (kvs : List (List Int × Int))
  | frz (o : Obj) (kvs : List (List Int × Int))
  | pen (k : Nat)
abbrev Mu := List (Addr × MO)
def dTof (kvs : List (List Int × Int)) : List (List Key × V) := kvs.map fun p => (p.1.map Sum.inl, V.int p.2)
def RpM (F : Hp) : MO → HO → Prop
  | .lst ds, o => ∃ xs, o = .lst xs ∧ RpL F ds xs
  | .dic kvs, o => o = .dT (dTof kvs)
  | .frz ob kvs, o => o = .frz ob (.dT (dTof kvs))
  | .pen k, o => ∃ (cv : V) (cells : List Int) (at_ z : Int), o = .lst [cv, .int at_, .int z] ∧ Rp F (.lst (cells.map Dt.int)) cv ∧ 0 ≤ at_ ∧ at_ ≤ k ∧ 0 ≤ z ∧ cells.length ≤ 63
theorem RpM.mono {F F' : Hp} (e : Same F F') : ∀ {m : MO} {o : HO}, RpM F m o → RpM F' m o
  | .lst ds, _, h => by
    obtain ⟨xs, e1, e2⟩ := h
    exact ⟨xs, e1, e2.mono e⟩
  | .dic _, _, h => h
  | .frz _ _, _, h => h
  | .pen _, _, h => by
    obtain ⟨cv, cells, a, z, e1, e2, e3⟩ := h
    exact ⟨cv, cells, a, z, e1, e2.mono e, e3⟩
theorem RpM.notup {F : Hp} : ∀ {m : MO} {o : HO}, RpM F m o → ∀ xs, o ≠ .tup xs
  | .lst ds, _, h => by
    obtain ⟨xs, e1, e2⟩ := h
    subst e1
    intro _ z
    cases z
  | .dic _, _, h => by
    cases (show _ = _ from h)
    intro _ z
    cases z
  | .frz _ _, _, h => by
    cases (show _ = _ from h)
    intro _ z
    cases z
  | .pen _, _, h => by
    obtain ⟨cv, cells, a, z, e1, e2, e3⟩ := h
    subst e1
    intro _ z
    cases z
structure MS (mus : Mu) (F H : Hp) : Prop where
  fh : Same F H
  mu : ∀ m ∈ mus, F m.1 = none ∧ ∃ o, H m.1 = some o ∧ RpM F m.2 o
  nd : (mus.map (·.1)).Nodup
theorem MS.grow {mus : Mu} {F H F' H' : Hp} (h : MS mus F H) (g : Gr H F F' H') : MS mus F' H' :=
  ⟨g.fh, fun m hm => by
    obtain ⟨e1, o, e2, e3⟩ := h.mu m hm
    exact ⟨(g.fr _ _ e2 e3.notup).trans e1, o, g.bh _ _ e2, e3.mono g.ff⟩, h.nd⟩
abbrev Env_ := List (Option Dt)
structure ES (env : Env_) (F : Hp) (σ : L2.St) : Prop where
  len : σ.length = env.length
  get : ∀ (i : Nat) d, env[i]? = some (some d) → ∃ v, σ[i]? = some (some v) ∧ Rp F d v
theorem ES.mono {env : Env_} {F F' : Hp} {σ : L2.St} (h : ES env F σ) (e : Same F F') : ES env F' σ :=
  ⟨h.len, fun i d q => by
    obtain ⟨v, e1, e2⟩ := h.get i d q
    exact ⟨v, e1, e2.mono e⟩⟩
theorem ES.set {env : Env_} {F : Hp} {σ : L2.St} (h : ES env F σ) {i : Nat} {d : Dt} {v : V} (r : Rp F d v) : ES (env.set i (some d)) F (σ.set i (some v)) :=
  ⟨by rw [List.length_set, List.length_set, h.len], fun j d' q => by
    by_cases hj : i = j
    · subst hj
      by_cases hl : i < env.length
      · rw [List.getElem?_set_self hl] at q
        cases q
        exact ⟨v, by rw [List.getElem?_set_self (by rw [h.len]; exact hl)], r⟩
      · rw [List.getElem?_eq_none (by rw [List.length_set]; omega)] at q
        cases q
    · rw [List.getElem?_set_ne hj] at q ⊢
      exact h.get j d' q⟩
theorem ES.setN {env : Env_} {F : Hp} {σ : L2.St} (h : ES env F σ) {i : Nat} : ES (env.set i none) F (σ.set i none) :=
  ⟨by rw [List.length_set, List.length_set, h.len], fun j d' q => by
    by_cases hj : i = j
    · subst hj
      by_cases hl : i < env.length
      · rw [List.getElem?_set_self hl] at q
        cases q
      · rw [List.getElem?_eq_none (by rw [List.length_set]; omega)] at q
        cases q
    · rw [List.getElem?_set_ne hj] at q ⊢
      exact h.get j d' q⟩
/-- a slot is taken for another datum that the same value bears -/
theorem ES.turn {env : Env_} {F : Hp} {σ : L2.St} (h : ES env F σ) {i : Nat} {d : Dt} (r : ∀ v, σ[i]? = some (some v) → Rp F d v) (hv : ∃ d0, env[i]? = some (some d0)) : ES (env.set i (some d)) F σ :=
  ⟨by rw [List.length_set, h.len], fun j d' q => by
    by_cases hj : i = j
    · subst hj
      by_cases hl : i < env.length
      · rw [List.getElem?_set_self hl] at q
        cases q
        obtain ⟨d0, e0⟩ := hv
        obtain ⟨v, e1, _⟩ := h.get i d0 e0
        exact ⟨v, e1, r v e1⟩
      · rw [List.getElem?_eq_none (by rw [List.length_set]; omega)] at q
        cases q
    · rw [List.getElem?_set_ne hj] at q
      exact h.get j d' q⟩

/-! ### expressions -/
def EvD (te : TE) (env : Env_) (mus : Mu) (d : Dt) : Prop := ∀ F σ H, MS mus F H → ES env F σ → ∀ Q : VK, (∀ v F' H', Gr H F F' H' → Rp F' d v → Q v H') → te σ H Q
/-- a list that is new and may be changed -/
def EvN (te : TE) (env : Env_) (mus : Mu) (ds : List Dt) : Prop := ∀ F σ H, MS mus F H → ES env F σ → ∀ Q : VK, (∀ p xs F' H', Gr H F F' H' → F' p = none → H p = none → H' p = some (.lst xs) → RpL F' ds xs → Q (.ref p) H') → te σ H Q
def EvT (tt : TT) (env : Env_) (mus : Mu) (b : Bool) : Prop := ∀ F σ H, MS mus F H → ES env F σ → ∀ Q : Bool → Hp → Prop, (∀ F' H', Gr H F F' H' → Q b H') → tt σ H Q
def EvA (ta : TA) (env : Env_) (mus : Mu) (ds : List Dt) : Prop := ∀ F σ H, MS mus F H → ES env F σ → ∀ Q : List V → Hp → Prop, (∀ vs F' H', Gr H F F' H' → RpL F' ds vs → Q vs H') → ta σ H Q
def EvO (to : TO) (env : Env_) (mus : Mu) (o : Option Int) : Prop := ∀ F σ H, MS mus F H → ES env F σ → ∀ Q : Option Int → Hp → Prop, (∀ F' H', Gr H F F' H' → Q o H') → to σ H Q
def RD (r : R2) (mus : Mu) (d1 d2 d : Dt) : Prop := ∀ F H v1 v2, MS mus F H → Rp F d1 v1 → Rp F d2 v2 → ∀ Q : VK, (∀ v F' H', Gr H F F' H' → Rp F' d v → Q v H') → r v1 v2 H Q
def RC (r : List V → Hp → VK → Prop) (mus : Mu) (ds : List Dt) (d : Dt) : Prop := ∀ F H vs, MS mus F H → RpL F ds vs → ∀ Q : VK, (∀ v F' H', Gr H F F' H' → Rp F' d v → Q v H') → r vs H Q

section
variable {env : Env_} {mus : Mu} {ta tb te : TE} {d d1 d2 d3 : Dt} {r : R2} {t u : TT}
theorem ev_var {i : Nat} (h : env[i]? = some (some d)) : EvD (tVar i) env mus d := fun F σ H M E Q q => by
  obtain ⟨v, e, rp⟩ := E.get i d h
  exact ⟨v, e, q v F H (Gr.refl M.fh) rp⟩
theorem ev_int {i : Int} : EvD (tC (.int i)) env mus (.int i) := fun F σ H M E Q q => q _ F H (Gr.refl M.fh) (rp_int.mpr rfl)
theorem ev_bl {i : Bool} : EvD (tC (.bl i)) env mus (.bl i) := fun F σ H M E Q q => q _ F H (Gr.refl M.fh) (rp_bl.mpr rfl)
theorem ev_non : EvD (tC .non) env mus .non := fun F σ H M E Q q => q _ F H (Gr.refl M.fh) (rp_non.mpr rfl)
theorem ev_str {x : Str} : EvD (tC (.str x)) env mus (.str x) := fun F σ H M E Q q => q _ F H (Gr.refl M.fh) (by simp only [Rp])
theorem ev_ty {x : String} : EvD (tC (.ty x)) env mus (.ty x) := fun F σ H M E Q q => q _ F H (Gr.refl M.fh) (by simp only [Rp])
theorem ev_op (ha : EvD ta env mus d1) (hb : EvD tb env mus d2) (hr : RD r mus d1 d2 d) : EvD (tOp r ta tb) env mus d := fun F σ H M E Q q =>
  ha F σ H M E _ fun v1 F1 H1 g1 r1 => hb F1 σ H1 (M.grow g1) (E.mono g1.ff) _ fun v2 F2 H2 g2 r2 =>
    hr F2 H2 v1 v2 ((M.grow g1).grow g2) (r1.mono g2.ff) r2 Q fun v F3 H3 g3 r3 => q v F3 H3 ((g1.trans g2).trans g3) r3
theorem rd_i0 {g : Int → Int → Int} {i j : Int} : RD (rI0 fun i j => .int (g i j)) mus (.int i) (.int j) (.int (g i j)) := fun F H v1 v2 M r1 r2 Q q =>
  ⟨i, j, rp_int.mp r1, rp_int.mp r2, q _ F H (Gr.refl M.fh) (rp_int.mpr rfl)⟩
theorem rd_b0 {g : Int → Int → Bool} {i j : Int} : RD (rI0 fun i j => .bl (g i j)) mus (.int i) (.int j) (.bl (g i j)) := fun F H v1 v2 M r1 r2 Q q =>
  ⟨i, j, rp_int.mp r1, rp_int.mp r2, q _ F H (Gr.refl M.fh) (rp_bl.mpr rfl)⟩
theorem rd_i {C : Int → Int → Prop} {g : Int → Int → Int} {i j : Int} (h : C i j) : RD (rI C fun i j => .int (g i j)) mus (.int i) (.int j) (.int (g i j)) := fun F H v1 v2 M r1 r2 Q q =>
  ⟨i, j, rp_int.mp r1, rp_int.mp r2, h, q _ F H (Gr.refl M.fh) (rp_int.mpr rfl)⟩
theorem dec_vint {i j : Int} : decide (V.int i = V.int j) = decide (i = j) := by
  by_cases e : i = j
  · rw [e, decide_eq_true rfl, decide_eq_true rfl]
  · rw [decide_eq_false e, decide_eq_false (fun z => e (V.int.inj z))]
theorem dec_vbl {i j : Bool} : decide (V.bl i = V.bl j) = decide (i = j) := by
  by_cases e : i = j
  · rw [e, decide_eq_true rfl, decide_eq_true rfl]
  · rw [decide_eq_false e, decide_eq_false (fun z => e (V.bl.inj z))]
theorem rd_eq {i j : Int} : RD rEq mus (.int i) (.int j) (.bl (decide (i = j))) := fun F H v1 v2 M r1 r2 Q q => by
  rw [rp_int.mp r1, rp_int.mp r2]
  refine ⟨rfl, ?_⟩
  rw [dec_vint]
  exact q _ F H (Gr.refl M.fh) (rp_bl.mpr rfl)
theorem rd_ne {i j : Int} : RD rNe mus (.int i) (.int j) (.bl (!decide (i = j))) := fun F H v1 v2 M r1 r2 Q q => by
  rw [rp_int.mp r1, rp_int.mp r2]
  refine ⟨rfl, ?_⟩
  rw [dec_vint]
  exact q _ F H (Gr.refl M.fh) (rp_bl.mpr rfl)
theorem rd_neB {i j : Bool} : RD rNe mus (.bl i) (.bl j) (.bl (!decide (i = j))) := fun F H v1 v2 M r1 r2 Q q => by
  rw [rp_bl.mp r1, rp_bl.mp r2]
  refine ⟨rfl, ?_⟩
  rw [dec_vbl]
  exact q _ F H (Gr.refl M.fh) (rp_bl.mpr rfl)
theorem rd_eqB {i j : Bool} : RD rEq mus (.bl i) (.bl j) (.bl (decide (i = j))) := fun F H v1 v2 M r1 r2 Q q => by
  rw [rp_bl.mp r1, rp_bl.mp r2]
  refine ⟨rfl, ?_⟩
  rw [dec_vbl]
  exact q _ F H (Gr.refl M.fh) (rp_bl.mpr rfl)
theorem ev_un {i : Int} {g : Int → Int} (ha : EvD ta env mus (.int i)) : EvD (tUn (rU fun i => .int (g i)) ta) env mus (.int (g i)) := fun F σ H M E Q q =>
  ha F σ H M E _ fun v1 F1 H1 g1 r1 => ⟨i, rp_int.mp r1, q _ F1 H1 g1 (rp_int.mpr rfl)⟩

/-! items -/
theorem RpL.atI {F : Hp} {ds : List Dt} {xs : List V} {i : Int} (h : RpL F ds xs) (e : L2.atI ds i = some d) : ∃ x, L2.atI xs i = some x ∧ Rp F d x := by
  unfold L2.atI at e ⊢
  rw [← h.length]
  obtain ⟨j, e1, e2⟩ := Option.bind_eq_some_iff.mp e
  obtain ⟨x, e3, e4⟩ := h.get e2
  exact ⟨x, by rw [e1]; exact e3, e4⟩
theorem rd_ixT {K : PySem.W.Frag} {ds : List Dt} {i : Int} (e : L2.atI ds i = some d) : RD (rIxT K) mus (.tup ds) (.int i) d := fun F H v1 v2 M r1 r2 Q q => by
  obtain ⟨a, xs, rfl, ha, hl⟩ := rp_tup.mp r1
  obtain ⟨x, e1, e2⟩ := RpL.atI hl e
  exact ⟨a, xs, i, x, rfl, rp_int.mp r2, SqT.of (M.fh _ _ ha), e1, q x F H (Gr.refl M.fh) e2⟩
theorem rd_ixL {K : PySem.W.Frag} {ds : List Dt} {i : Int} (e : L2.atI ds i = some d) : RD (rIxL K) mus (.lst ds) (.int i) d := fun F H v1 v2 M r1 r2 Q q => by
  obtain ⟨a, xs, rfl, ha, hl⟩ := rp_lst.mp r1
  obtain ⟨x, e1, e2⟩ := RpL.atI hl e
  exact ⟨a, xs, i, x, rfl, rp_int.mp r2, SqL.of (M.fh _ _ ha), e1, q x F H (Gr.refl M.fh) e2⟩
theorem rd_ixM {K : PySem.W.Frag} {p : Addr} {ds : List Dt} {i : Int} (hm : (p, MO.lst ds) ∈ mus) (e : L2.atI ds i = some d) : RD (rIxL K) mus (.ptr p) (.int i) d := fun F H v1 v2 M r1 r2 Q q => by
  obtain ⟨_, o, e1, xs, rfl, hl⟩ := M.mu _ hm
  obtain ⟨x, e2, e3⟩ := RpL.atI hl e
  exact ⟨p, xs, i, x, rp_ptr.mp r1, rp_int.mp r2, SqL.of e1, e2, q x F H (Gr.refl M.fh) e3⟩
theorem rd_left {r r' : R2} (h : RD r mus d1 d2 d) : RD (fun x y H Q => r x y H Q ∨ r' x y H Q) mus d1 d2 d := fun F H v1 v2 M r1 r2 Q q => .inl (h F H v1 v2 M r1 r2 Q q)
theorem rd_right {r r' : R2} (h : RD r' mus d1 d2 d) : RD (fun x y H Q => r x y H Q ∨ r' x y H Q) mus d1 d2 d := fun F H v1 v2 M r1 r2 Q q => .inr (h F H v1 v2 M r1 r2 Q q)
/-- by the common rule of subscripts -/
theorem rd_xT {K : PySem.W.Frag} {ds : List Dt} {i : Int} (e : L2.atI ds i = some d) : RD (rIx K) mus (.tup ds) (.int i) d := rd_right (rd_left (rd_ixT e))
theorem rd_xL {K : PySem.W.Frag} {ds : List Dt} {i : Int} (e : L2.atI ds i = some d) : RD (rIx K) mus (.lst ds) (.int i) d := rd_left (rd_ixL e)
theorem rd_xM {K : PySem.W.Frag} {p : Addr} {ds : List Dt} {i : Int} (hm : (p, MO.lst ds) ∈ mus) (e : L2.atI ds i = some d) : RD (rIx K) mus (.ptr p) (.int i) d := rd_left (rd_ixM hm e)

/-! arguments, displays -/
theorem ea_nil : EvA tNil env mus [] := fun F σ H M E Q q => q [] F H (Gr.refl M.fh) .nil
theorem ea_cons {tr : TA} {ds : List Dt} (ha : EvD ta env mus d) (hr : EvA tr env mus ds) : EvA (tCons ta tr) env mus (d :: ds) := fun F σ H M E Q q =>
  ha F σ H M E _ fun v1 F1 H1 g1 r1 => hr F1 σ H1 (M.grow g1) (E.mono g1.ff) _ fun vs F2 H2 g2 r2 => q _ F2 H2 (g1.trans g2) (.cons (r1.mono g2.ff) r2)
theorem sz_of {n : Nat} (h : n ≤ 100000) : n ≤ sizeLine := Nat.le_trans h (by decide)
theorem sz_lt {n : Nat} (h : n < 100000) : n < sizeLine := Nat.lt_of_lt_of_le h (by decide)
theorem ev_tup {tr : TA} {ds : List Dt} (h : EvA tr env mus ds) (hl : ds.length ≤ 100000) : EvD (tTup tr) env mus (.tup ds) := fun F σ H M E Q q =>
  h F σ H M E _ fun vs F1 H1 g1 r1 => ⟨sz_of (by rw [← r1.length]; exact hl), fun p hp =>
    q _ (upd F1 p (.tup vs)) _ (g1.trans (Gr.new g1.fh hp)) (rp_tup.mpr ⟨p, vs, rfl, upd_same, r1.mono (same_new (g1.fh.free hp))⟩)⟩
theorem en_lst {tr : TA} {ds : List Dt} (h : EvA tr env mus ds) (hl : ds.length ≤ 100000) : EvN (tLst tr) env mus ds := fun F σ H M E Q q =>
  h F σ H M E _ fun vs F1 H1 g1 r1 => ⟨sz_of (by rw [← r1.length]; exact hl), fun p hp =>
    q p vs F1 _ (g1.trans (Gr.newM g1.fh hp)) (g1.fh.free hp) (g1.bh.free hp) upd_same r1⟩
/-- a new list as a datum -/
theorem EvN.toD {ds : List Dt} (h : EvN te env mus ds) : EvD te env mus (.lst ds) := fun F σ H M E Q q =>
  h F σ H M E _ fun p xs F1 H1 g1 n1 n0 e1 r1 => by
    refine q _ (upd F1 p (.lst xs)) H1 ⟨g1.ff.trans (same_new n1), fun b o e => ?_, g1.bh, fun b o e n => ?_⟩ (rp_lst.mpr ⟨p, xs, rfl, upd_same, r1.mono (same_new n1)⟩)
    · by_cases hb : b = p
      · subst hb
        rw [upd_same] at e
        rw [e1]
        exact e
      · rw [upd_ne hb] at e
        exact g1.fh b o e
    · rw [upd_ne (ne_of_none e n0)]
      exact g1.fr b o e n

/-! tests -/
theorem et_test {b : Bool} (h : EvD te env mus (.bl b)) : EvT (tTest te) env mus b := fun F σ H M E Q q =>
  h F σ H M E _ fun v F1 H1 g1 r1 => ⟨b, rp_bl.mp r1, q F1 H1 g1⟩
theorem et_B {b : Bool} (h : EvD te env mus (.bl b)) : EvT (tB te) env mus b := fun F σ H M E Q q =>
  h F σ H M E _ fun v F1 H1 g1 r1 => ⟨b, rp_bl.mp r1, q F1 H1 g1⟩
theorem et_and {a b : Bool} (h1 : EvT t env mus a) (h2 : a = true → EvT u env mus b) : EvT (tAnd t u) env mus (a && b) := fun F σ H M E Q q =>
  h1 F σ H M E _ fun F1 H1 g1 => by
    cases a with
    | true =>
      show u σ H1 Q
      exact h2 rfl F1 σ H1 (M.grow g1) (E.mono g1.ff) Q fun F2 H2 g2 => q F2 H2 (g1.trans g2)
    | false =>
      show Q false H1
      exact q F1 H1 g1
theorem et_or {a b : Bool} (h1 : EvT t env mus a) (h2 : a = false → EvT u env mus b) : EvT (tOr t u) env mus (a || b) := fun F σ H M E Q q =>
  h1 F σ H M E _ fun F1 H1 g1 => by
    cases a with
    | false =>
      show u σ H1 Q
      exact h2 rfl F1 σ H1 (M.grow g1) (E.mono g1.ff) Q fun F2 H2 g2 => q F2 H2 (g1.trans g2)
    | true =>
      show Q true H1
      exact q F1 H1 g1
theorem et_not {a : Bool} (h1 : EvT t env mus a) : EvT (tNot t) env mus (!a) := fun F σ H M E Q q => h1 F σ H M E _ fun F1 H1 g1 => q F1 H1 g1
theorem EvT.is {a b : Bool} (h : EvT t env mus a) (e : a = b) : EvT t env mus b := e ▸ h
theorem EvD.is (h : EvD te env mus d1) (e : d1 = d2) : EvD te env mus d2 := e ▸ h
theorem ev_andV {a b : Bool} (h1 : EvD ta env mus (.bl a)) (h2 : a = true → EvD tb env mus (.bl b)) : EvD (tAndV ta tb) env mus (.bl (a && b)) := fun F σ H M E Q q =>
  h1 F σ H M E _ fun v F1 H1 g1 r1 => ⟨a, rp_bl.mp r1, by
    cases a with
    | true =>
      show tb σ H1 Q
      exact h2 rfl F1 σ H1 (M.grow g1) (E.mono g1.ff) Q fun v F2 H2 g2 r2 => q v F2 H2 (g1.trans g2) r2
    | false =>
      show Q (.bl false) H1
      exact q _ F1 H1 g1 (rp_bl.mpr rfl)⟩
theorem ev_orV {a b : Bool} (h1 : EvD ta env mus (.bl a)) (h2 : a = false → EvD tb env mus (.bl b)) : EvD (tOrV ta tb) env mus (.bl (a || b)) := fun F σ H M E Q q =>
  h1 F σ H M E _ fun v F1 H1 g1 r1 => ⟨a, rp_bl.mp r1, by
    cases a with
    | false =>
      show tb σ H1 Q
      exact h2 rfl F1 σ H1 (M.grow g1) (E.mono g1.ff) Q fun v F2 H2 g2 r2 => q v F2 H2 (g1.trans g2) r2
    | true =>
      show Q (.bl true) H1
      exact q _ F1 H1 g1 (rp_bl.mpr rfl)⟩
theorem ev_notV {a : Bool} (h1 : EvD ta env mus (.bl a)) : EvD (tNotV ta) env mus (.bl (!a)) := fun F σ H M E Q q =>
  h1 F σ H M E _ fun v F1 H1 g1 r1 => ⟨a, rp_bl.mp r1, q _ F1 H1 g1 (rp_bl.mpr rfl)⟩
theorem ev_if {b : Bool} (h : EvT t env mus b) (h1 : b = true → EvD ta env mus d) (h2 : b = false → EvD tb env mus d) : EvD (tIf t ta tb) env mus d := fun F σ H M E Q q =>
  h F σ H M E _ fun F1 H1 g1 => by
    cases b with
    | true =>
      show ta σ H1 Q
      exact h1 rfl F1 σ H1 (M.grow g1) (E.mono g1.ff) Q fun v F2 H2 g2 r2 => q v F2 H2 (g1.trans g2) r2
    | false =>
      show tb σ H1 Q
      exact h2 rfl F1 σ H1 (M.grow g1) (E.mono g1.ff) Q fun v F2 H2 g2 r2 => q v F2 H2 (g1.trans g2) r2
theorem rd_isN : RD (fun x y H Q => y = .non ∧ Q (.bl (decide (x = .non))) H) mus .non .non (.bl true) := fun F H v1 v2 M r1 r2 Q q => by
  rw [rp_non.mp r1]
  exact ⟨rp_non.mp r2, q _ F H (Gr.refl M.fh) (rp_bl.mpr rfl)⟩
theorem rp_notnon {F : Hp} {v : V} (hd : d ≠ .non) (r : Rp F d v) : v ≠ .non := by
  cases d with
  | non => exact absurd rfl hd
  | bl b => rw [rp_bl.mp r]; exact fun z => nomatch z
  | int b => rw [rp_int.mp r]; exact fun z => nomatch z
  | ptr b => rw [rp_ptr.mp r]; exact fun z => nomatch z
  | str b => rw [show v = .str b by simpa only [Rp] using r]; exact fun z => nomatch z
  | ty b => rw [show v = .ty b by simpa only [Rp] using r]; exact fun z => nomatch z
  | tup l => obtain ⟨a, xs, rfl, _⟩ := rp_tup.mp r; exact fun z => nomatch z
  | lst l => obtain ⟨a, xs, rfl, _⟩ := rp_lst.mp r; exact fun z => nomatch z
theorem rd_isN0 (hd : d ≠ .non) : RD (fun x y H Q => y = .non ∧ Q (.bl (decide (x = .non))) H) mus d .non (.bl false) := fun F H v1 v2 M r1 r2 Q q => by
  refine ⟨rp_non.mp r2, ?_⟩
  rw [decide_eq_false (rp_notnon hd r1)]
  exact q _ F H (Gr.refl M.fh) (rp_bl.mpr rfl)
theorem rd_notN : RD (fun x y H Q => y = .non ∧ Q (.bl (!decide (x = .non))) H) mus .non .non (.bl false) := fun F H v1 v2 M r1 r2 Q q => by
  rw [rp_non.mp r1]
  exact ⟨rp_non.mp r2, q _ F H (Gr.refl M.fh) (rp_bl.mpr rfl)⟩
theorem rd_notN1 (hd : d ≠ .non) : RD (fun x y H Q => y = .non ∧ Q (.bl (!decide (x = .non))) H) mus d .non (.bl true) := fun F H v1 v2 M r1 r2 Q q => by
  refine ⟨rp_non.mp r2, ?_⟩
  rw [decide_eq_false (rp_notnon hd r1)]
  exact q _ F H (Gr.refl M.fh) (rp_bl.mpr rfl)
end
end KB
/-! rules that the hand layer lacks: xs[i] of xs[i] += e, sum of a tuple, a tuple times any small int, enumerate(tuple), zip(.., strict=False), a chain of three -/
namespace KB
open PySem PySem.Spec PyProof.Rows L2
section
variable {X : Cx}
theorem get_list : PGet X (rIxL X.K) := by
  intro pins s σ H o i ov iv Q I ro ri h
  obtain ⟨p, xs, k, z, rfl, rfl, hq, he, q⟩ := h
  cases ro
  obtain ⟨t, rfl⟩ := ri
  obtain ⟨its, r, pl, hz⟩ := I.list hq
  obtain ⟨j, h1, h2, h3, h4, h5⟩ := atI_get he
  obtain ⟨w, ew, rw'⟩ := r.get h2
  have hl := r.length
  have hn := line63
  have fin : EP X pins σ Q w s := ⟨z, H, I, rw', q⟩
  by_cases h0 : 0 ≤ k
  · have hj : k.toNat = j := by
      rw [seqIndex_of h0 h5] at h1
      exact Option.some.inj h1
    exact wpAny_getItem_list pl.isList h0 (by omega) (by rw [hj]; simpa using ew) fin
  · have hj : (k + (its.toArray.size : Int)).toNat = j := by
      rw [seqIndex_neg (by omega) h4] at h1
      rw [List.size_toArray, ← hl]
      exact Option.some.inj h1
    exact wpAny_getItem_list_neg pl.isList (by omega) (by rw [List.size_toArray] <;> omega) (by omega) (by rw [hj]; simpa using ew) fin
/-- sum of a tuple of ints -/
def rSumT (K : PySem.W.Frag) : List V → Hp → VK → Prop := fun vs H Q => ∃ (a : Addr) (ns : List Int), vs = [V.ref a] ∧ SqT K H a (ns.map V.int) ∧ Q (.int ns.sum) H
theorem cr_sumT (hc : X.calm = true) : CallR X (.builtin "sum") (rSumT X.K) := by
  intro pins s σ H vs us Q I r h
  obtain ⟨a, ns, rfl, hs, q⟩ := h
  obtain ⟨its, rv, hl, _⟩ := I.tuple hs
  rw [Vals.ref1 r]
  obtain ⟨xs, hx⟩ := rv.ints.allInts.items
  have hn : numsOf its.toArray.toList = ns := by rw [show its.toArray.toList = its from rfl, rv.ints.numsOf]
  have hl' : s.heap.IsTuple a its.toArray := hl
  rw [hx] at hl' hn
  rw [nums_intItems] at hn
  refine PySem.W.ktm_sumG (I.ok.hd hc) hl' fun h' tk t' hk => ?_
  have e : preSum (numAt xs) xs.size = ns.sum := by
    rw [preSum_eq, List.take_of_length_le (by simp), hn]
  rw [e]
  exact ⟨.int _, H, I.kept hk, ⟨_, rfl⟩, q⟩
end

/-! ### a tuple times an int -/
theorem tuple_mulW1 (l : Addr) (items : Array Value) (n : Nat) (dd : Option Addr) (sl : Array (Option Value)) (x : Int) (u : Tok) (c0 : (decide (x < -(2 ^ 63)) || decide (x ≥ 2 ^ 63)) = false) (c1 : (items.isEmpty || x == 1) = true) :
    Meets (Builtin.«tuple.__mul__» ⟨[.ref l, .int x u], []⟩) (fun _ R s => s.heap.get? l = some { cls := .type "tuple", dict := dd, data := .seq items n, slots := sl } ∧
      R (.ok (.ret (Value.ref l))) s) :=
  .of_wp fun prog w A R s h => by
    obtain ⟨hp, g, d, tk, os⟩ := s
    obtain ⟨hl, h⟩ := h
    have f1 := AutoSeq1.idx_int
    wp_walk using wpAny_loadPart' hl
    repeat (first
      | (refine wpAny_ite_false (decide_eq_false (by rw [c0]; exact Bool.false_ne_true)) ?_; wp_walk using wpAny_loadPart' hl)
      | (refine wpAny_ite_true (decide_eq_true c1) ?_; wp_walk using wpAny_loadPart' hl))
    exact ⟨_, rfl, h⟩
theorem tuple_mulW0 (l : Addr) (items : Array Value) (n : Nat) (dd : Option Addr) (sl : Array (Option Value)) (x : Int) (u : Tok) (c0 : (decide (x < -(2 ^ 63)) || decide (x ≥ 2 ^ 63)) = false) (c1 : (items.isEmpty || x == 1) = false) (c2 : (decide (x ≤ 0) || items.isEmpty) = true) :
    Meets (Builtin.«tuple.__mul__» ⟨[.ref l, .int x u], []⟩) (fun _ R s => s.heap.get? l = some { cls := .type "tuple", dict := dd, data := .seq items n, slots := sl } ∧
      R (.ok (.ret (Value.ref s.heap.objs.size))) { s with heap := s.heap.push { cls := Value.type "tuple", data := Data.seq #[] }, toks := s.toks }) :=
  .of_wp fun prog w A R s h => by
    obtain ⟨hp, g, d, tk, os⟩ := s
    obtain ⟨hl, h⟩ := h
    have f1 := AutoSeq1.idx_int
    wp_walk using wpAny_loadPart' hl
    repeat (first
      | (refine wpAny_ite_false (decide_eq_false (by rw [c0]; exact Bool.false_ne_true)) ?_; wp_walk using wpAny_loadPart' hl)
      | (refine wpAny_ite_false (decide_eq_false (by rw [c1]; exact Bool.false_ne_true)) ?_; wp_walk using wpAny_loadPart' hl)
      | (refine wpAny_ite_true (decide_eq_true c2) ?_; wp_walk using wpAny_loadPart' hl))
    exact ⟨_, rfl, h⟩
def rRepA (K : PySem.W.Frag) : R2 := fun x y H Q => ∃ l k xs, x = .ref l ∧ y = .int k ∧ SqT K H l xs ∧ xs ≠ [] ∧ 0 ≤ k ∧ k ≤ 1000 ∧ xs.length ≤ 1000 ∧ (k = 1 → Q (.ref l) H) ∧ (k ≠ 1 → ∀ p, H p = none → Q (.ref p) (upd H p (.tup (List.replicate k.toNat xs).flatten)))
section
variable {X : Cx}
theorem op_repA : OpR X (binaryOp .Mult) (rRepA X.K) := by
  intro pins s σ H x y v u Q I rx ry h
  obtain ⟨l, k, xs, rfl, rfl, hT, hne, h1, h2, hz, q1, q2⟩ := h
  by_cases hk2 : 2 ≤ k
  · exact op_repT pins s σ H _ _ v u Q I rx ry ⟨l, k, xs, rfl, rfl, hT, hne, hk2, h2, hz, q2 (by omega)⟩
  cases rx
  obtain ⟨t, rfl⟩ := ry
  obtain ⟨its, r, ⟨⟨cls, dd, data, sl⟩, ho, hc, n, hd⟩, hs⟩ := I.tuple hT
  simp only at hc hd
  subst hc hd
  have hle : its.length = xs.length := r.length.symm
  have hn : its ≠ [] := fun e => hne (by
    rw [e] at hle
    exact List.eq_nil_of_length_eq_zero hle.symm)
  have hi : its.toArray.isEmpty = false := by
    cases its with
    | nil => exact absurd rfl hn
    | cons a b => rfl
  have c0 : (decide (k < -(2 ^ 63)) || decide (k ≥ 2 ^ 63)) = false := by
    rw [decide_eq_false (by omega), decide_eq_false (by omega)] <;> rfl
  by_cases e1 : k = 1
  · subst e1
    refine wpAny_binaryOp_repeat_ref (T := "tuple") (U := "int") (by decide) ⟨_, ho, rfl⟩ (fun s' => typeIs_int s' 1 t) noFill_tuple_mul F.fills_int_mul F.slot_int_rmul repeat_tuple F.slot_int_index.lookup
      (call_meets F.slot_int_rmul (typeIs_int s 1 t) F.entry_int_rmul (F.args_int_rmul_2 _ _) (int_rmul_tuple 1 t l its.toArray n dd sl)
        ⟨ho, rfl, ⟨_, ho, rfl⟩, call_meets F.slot_tuple_mul ⟨_, ho, rfl⟩ F.entry_tuple_mul (F.args_tuple_mul_2 _ _) (tuple_mulW1 l its.toArray n dd sl 1 t c0 (by rw [hi]; rfl)) ⟨ho, ?_⟩⟩)
    exact ⟨.ref l, H, I, rfl, q1 rfl⟩
  · have e0 : k = 0 := by omega
    subst e0
    refine wpAny_binaryOp_repeat_ref (T := "tuple") (U := "int") (by decide) ⟨_, ho, rfl⟩ (fun s' => typeIs_int s' 0 t) noFill_tuple_mul F.fills_int_mul F.slot_int_rmul repeat_tuple F.slot_int_index.lookup
      (call_meets F.slot_int_rmul (typeIs_int s 0 t) F.entry_int_rmul (F.args_int_rmul_2 _ _) (int_rmul_tuple 0 t l its.toArray n dd sl)
        ⟨ho, rfl, ⟨_, ho, rfl⟩, call_meets F.slot_tuple_mul ⟨_, ho, rfl⟩ F.entry_tuple_mul (F.args_tuple_mul_2 _ _) (tuple_mulW0 l its.toArray n dd sl 0 t c0 (by rw [hi]; rfl) rfl) ⟨ho, ?_⟩⟩)
    refine ⟨.ref s.heap.objs.size, _, I.laid (t' := s.toks) (o := .tup (List.replicate (0 : Int).toNat xs).flatten) (fun b ob q => Heap.get?_push_of_some _ q) (Nat.le_refl _) ?_, rfl, q2 e1 _ (I.hok.fresh (Nat.le_refl _))⟩
    exact ⟨Nat.zero_le _, [], .nil, IsTup.new _ _⟩

/-! ### a < b < c <= d -/
def tChain3 (r r' r'' : R2) (ta tb tc td : TE) : TE := fun σ H Q => ta σ H fun x H1 => tb σ H1 fun y H2 => r x y H2 fun z H3 => ∃ k, z = .bl k ∧
  (if k = true then tc σ H3 fun w' H4 => r' y w' H4 fun z2 H5 => ∃ k2, z2 = .bl k2 ∧ (if k2 = true then td σ H5 fun w2 H6 => r'' w' w2 H6 Q else Q (.bl false) H5) else Q (.bl false) H3)
theorem pt_chain3 {a b c d : Expr} {ta tb tc td : TE} {pos : Pos} {op op' op'' : CmpOp} {r r' r'' : R2} (ho : OpR X (compareOp op) r) (ho' : OpR X (compareOp op') r') (ho'' : OpR X (compareOp op'') r'') (ha : PE X a ta) (hb : PE X b tb) (hc : PE X c tc) (hd : PE X d td)
    (hm : lastMarks [op, op', op''] [b, c, d] = false := by with_unfolding_all rfl) : PT X (.Compare a [op, op', op''] [b, c, d] pos) (tTest (tChain3 r r' r'' ta tb tc td)) := by
  refine ⟨fun pins s σ H Q I h => ?_⟩
  refine isTrue_chain (thn (ha.run pins s σ H _ I h) fun v s1 ⟨x, H1, I1, r1, q1⟩ => test_link (thn (hb.run pins s1 σ H1 _ I1 q1) fun u s2 ⟨y, H2, I2, r2, q2⟩ =>
    thn (ho pins s2 σ H2 x y v u _ I2 r1 r2 q2) fun d s3 ⟨z, H3, I3, r3, k, e, q3⟩ => ?_)) hm
  subst e
  cases r3
  refine wpAny_truthy_bool ?_
  cases k with
  | false =>
    obtain ⟨k', e', q'⟩ := q3
    cases e'
    exact ite_ff ⟨H3, I3, q'⟩
  | true =>
    refine ite_tt (test_link (thn (hc.run pins s3 σ H3 _ I3 q3) fun w' s4 ⟨z', H4, I4, r4, q4⟩ => thn (ho' pins s4 σ H4 y z' u w' _ I4 r2 r4 q4) fun d' s5 ⟨z2, H5, I5, r5, k2, e2, q5⟩ => ?_))
    subst e2
    cases r5
    refine wpAny_truthy_bool ?_
    cases k2 with
    | false =>
      obtain ⟨k', e', q'⟩ := q5
      cases e'
      exact ite_ff ⟨H5, I5, q'⟩
    | true =>
      refine ite_tt (test_last (thn (hd.run pins s5 σ H5 _ I5 q5) fun w2 s6 ⟨z3, H6, I6, r6, q6⟩ => thn (ho'' pins s6 σ H6 z' z3 w' w2 _ I6 r4 r6 q6) fun d2 s7 ⟨z4, H7, I7, r7, k3, e3, q7⟩ => ?_))
      subst e3
      cases r7
      exact wpAny_truthy_bool ⟨H7, I7, q7⟩
end

/-! ### enumerate(tuple) -/
/-- the tuple at a, each item in a new pair -/
def IteT (K : PySem.W.Frag) (a : Addr) : It :=
  ⟨fun i H => ∃ (xs : List V) (x : V), SqT K H a xs ∧ xs[i]? = some x, fun i H v H' => ∃ T x, v = .ref T ∧ H T = none ∧ H' = upd H T (.tup [.int (i : Nat), x]) ∧ ∀ xs, SqT K H a xs → xs[i]? = some x, fun i H => ∃ xs : List V, SqT K H a xs ∧ xs.length ≤ i⟩
theorem turn_enumT {P : Program} {w : World} {K : PySem.W.Frag} {elts : List Expr} {kk : Nat} {tpos : Pos} (a e it : Addr) (hae : a ≠ e) (hai : a ≠ it) :
    Turn P w K (.Tuple elts kk tpos) (IteT K a) [e, it] e (fun i h => (∃ old, IsEnum h e it ((i : Nat) : Int) old) ∧ h.IsTupleIter it a i ∧ e ≠ it) where
  mem := by simp
  obj := fun i h st b hb => by
    obtain ⟨⟨old, he⟩, ⟨o, ho, hc, hd⟩, _⟩ := st
    have e' : b = e ∨ b = it := by simpa using hb
    rcases e' with z | z
    · rw [z]; exact ⟨_, he, fun v q => nomatch q⟩
    · rw [z]; exact ⟨o, ho, fun v q => by rw [hd] at q; cases q⟩
  keep := fun i h h' st k => let ⟨⟨old, he⟩, hi, hne⟩ := st; ⟨⟨old, k e (by simp) _ he⟩, hi.at fun o q => k it (by simp) o q, hne⟩
  item := by
    intro X hP hw hK hc i pins s σ H E I hf st hg
    subst hP hw hK
    obtain ⟨⟨old, he⟩, hit, hne⟩ := st
    obtain ⟨xs, x, hq, hx⟩ := hg
    obtain ⟨its, rv, p, hz⟩ := I.tuple hq
    obtain ⟨u, hu, ru⟩ := rv.get hx
    have hu' : its.toArray[i]? = some u := by simpa using hu
    have hsz : i < its.toArray.size := (Array.getElem?_eq_some_iff.mp hu').1
    have hel : e < s.heap.objs.size := Heap.lt_size he
    have hil : it < s.heap.objs.size := by obtain ⟨_, q, _⟩ := hit; exact Heap.lt_size q
    have hd0 : (X.A.in1).handled = none := I.ok.hd hc
    refine wpAny_pyNext_enum_itemD (Draws.tuple hd0 it a hai its.toArray) he ⟨hit, p⟩ hsz hne (by simp [hne, Ne.symm hae]) fun x2 h' tk hP ho hst' hT hsz' hk => ?_
    have e2 : x2 = u := Option.some.inj (hP.symm.trans hu')
    subst e2
    obtain ⟨hit', _⟩ := hst'
    refine ⟨_, rfl, wpAny_letOwnedTupleGo_enum (s := { s with heap := h', toks := tk + 1 }) ho fun h'' he' sb => ?_⟩
    have hT2 : h''.get? s.heap.objs.size = some { cls := .type "tuple", data := .seq #[.int i tk, x2] } := (sb.2 _ (Nat.ne_of_gt hel)).trans hT
    have new : ObjOk X.prog X.w (upd H s.heap.objs.size (.tup [.int (i : Nat), x])) h'' s.heap.objs.size (.tup [.int (i : Nat), x]) :=
      ⟨by show 2 ≤ sizeLine; decide, [.int i tk, x2], .cons ⟨_, rfl⟩ (.cons ru .nil), ⟨_, hT2, rfl, _, rfl⟩⟩
    have I1 : Inv X pins σ (upd H s.heap.objs.size (.tup [.int (i : Nat), x])) { s with heap := h'', toks := tk + 1 } :=
      I.turnedNew (ch := [e, it]) (fun b ob hb q => (sb.2 b (fun z => hb (by simp [z]))).trans (hk b ob (fun z => hb (by simp [z])) (fun z => hb (by simp [z])) q)) hf (Nat.le_refl _) new
    refine ⟨.ref s.heap.objs.size, _, I1, rfl, ⟨_, x, rfl, I.hok.fresh (Nat.le_refl _), rfl, fun ys hy => by rw [I.tuple_inj hy hq]; exact hx⟩, ⟨⟨x2, ?_⟩, hit'.at fun o q => (sb.2 it (Ne.symm hne)).trans q, hne⟩, fun b hb => ?_⟩
    · have e1 : ((i + 1 : Nat) : Int) = (i : Int) + 1 := by omega
      rw [e1]; exact he'
    · have hb' : b < s.heap.objs.size := by
        have e' : b = e ∨ b = it := by simpa using hb
        rcases e' with z | z
        · rw [z]; exact hel
        · rw [z]; exact hil
      rw [upd_ne (Nat.ne_of_lt hb')]
      exact (hf b hb).1
  done := by
    intro X hP hw hK hc i pins s σ H E I hf st hg
    subst hP hw hK
    obtain ⟨⟨old, he⟩, hit, hne⟩ := st
    obtain ⟨xs, hq, hx⟩ := hg
    obtain ⟨its, rv, p, hz⟩ := I.tuple hq
    obtain ⟨f0, f1, f2, f3, f4, f5⟩ := hf it (by simp)
    have hl := rv.length
    have hn : its.toArray[i]? = none := by simp; omega
    have hT : s.TypeIs (.ref e) "enumerate" := ⟨_, he, rfl⟩
    have hd0 : (X.A.in1).handled = none := I.ok.hd hc
    unfold pyNext
    refine wpAny_bind (wpAny_attempt (wpAny_callSpecial?_slot (name := Str.ofString "__next__") hT F.slot_enumerate_next
      (wpAny_call_entry F.slot_enumerate_next hT F.entry_enumerate_next ?_ (F.args_enumerate_next_1 _))))
    show wpAny _ _ (field (.ref e) 2 >>= _) _ _ _
    refine wpAny_bind (wpAny_field he rfl (x := .ref it) rfl ?_)
    refine wpAny_bind (wpAny_nextOf_tuple_end hd0 hit p hn fun h' x eb hx' => ?_)
    obtain ⟨o, ho, hcl⟩ := hx'
    refine wpAny_bind (wpAny_isInstance (T := "StopIteration") (b := true) ⟨o, ho, hcl⟩ isSubtype_stop ?_)
    exact wpAny_pure ⟨rfl, I.turned (t' := s.toks) (fun b o hb q => eb b o hb q) f0 f1 f3 f4 f5⟩
  self := fun A i s Q E st h => let ⟨⟨_, he⟩, _⟩ := st; wpAny_pyIter_enum he h
theorem meets_enumerate_newT (t : Addr) (items : Array Value) :
    Meets (Builtin.«enumerate.__new__» ⟨[.type "enumerate", .ref t], []⟩) (fun _ R s => s.heap.IsTuple t items ∧
      R (.ok (.ret (.ref (s.heap.push { cls := .type "tuple_iterator", data := .fields #[.ref t, .int 0 0] }).objs.size))) { s with heap := (s.heap.push { cls := .type "tuple_iterator", data := .fields #[.ref t, .int 0 0] }).push { cls := .type "enumerate", data := .fields #[.none, .bool false, .ref s.heap.objs.size, rawInt 0, .none, .none] } }) :=
  .of_wp fun prog w A R s h => by
    obtain ⟨hp, g, d, tk, os⟩ := s; obtain ⟨h1, h⟩ := h
    have hsub := sub_enumerate
    have hL1 : Heap.IsTuple (Shared.heap ⟨hp, g, d, tk, os⟩) t items := h1
    wp_walk using wpAny_pyIter_tuple hL1
    refine wpAny_stack_any fun st => wpAny_pure ?_
    split
    · rename_i c _ _ _ _ _
      cases (c == Value.type "enumerate")
      · wp_walk using wpAny_pyIter_tuple hL1
        exact ⟨_, rfl, h⟩
      · wp_walk using wpAny_pyIter_tuple hL1
        exact ⟨_, rfl, h⟩
    · wp_walk using wpAny_pyIter_tuple hL1
      exact ⟨_, rfl, h⟩
section
variable {prog : Program} {w : World} {A : Around} {E : Value → Shared → Prop} {s : Shared}
theorem call_enumerate_tuple {l : Addr} {items : Array Value} {Q : Value → Shared → Prop} (hL : s.heap.IsTuple l items)
    (h : ∀ h', IsEnum h' (s.heap.objs.size + 1) s.heap.objs.size 0 .none → h'.IsTupleIter s.heap.objs.size l 0 → h'.objs.size = s.heap.objs.size + 2 →
      (∀ b o, s.heap.get? b = some o → h'.get? b = some o) → Q (.ref (s.heap.objs.size + 1)) { s with heap := h' }) :
    wpAny (model prog w) A (call (.type "enumerate") [.ref l]) Q E s := by
  refine callType_new F.called_enumerate (by decide) (F.typeCall_enumerate_1 _) (F.newCall_enumerate_1 _) (fun obj => F.args_object_init_2 obj _) F.entry_enumerate_new
    (meets_enumerate_newT l items) ⟨hL, ?_⟩
  have hz : (s.heap.push { cls := .type "tuple_iterator", data := .fields #[.ref l, .int 0 0] }).objs.size = s.heap.objs.size + 1 := Heap.size_push ..
  show _ ∧ _
  rw [hz]
  have he : IsEnum ((s.heap.push { cls := .type "tuple_iterator", data := .fields #[.ref l, .int 0 0] }).push
      { cls := .type "enumerate", data := .fields #[.none, .bool false, .ref s.heap.objs.size, rawInt 0, .none, .none] }) (s.heap.objs.size + 1) s.heap.objs.size 0 .none := by
    have := Heap.get?_push_size (s.heap.push { cls := .type "tuple_iterator", data := .fields #[.ref l, .int 0 0] })
      (o := { cls := .type "enumerate", data := .fields #[.none, .bool false, .ref s.heap.objs.size, rawInt 0, .none, .none] }) rfl
    rw [hz] at this; exact this
  refine ⟨⟨_, he, rfl⟩, h _ he ⟨_, Heap.get?_push_of_some _ (Heap.get?_push_size _ rfl), rfl, rfl⟩ (by rw [Heap.size_push, hz]) fun b o x => Heap.get?_push_of_some _ (Heap.get?_push_of_some _ x)⟩
end
def iEnumT (K : PySem.W.Frag) (ta : TA) : TI := fun σ H R => ta σ H fun vs H1 => ∃ a xs, vs = [.ref a] ∧ SqT K H1 a xs ∧ R (IteT K a) H1
theorem pi_enumT {X : Cx} {e : Expr} {ta : TA} {p pos tpos : Pos} {elts : List Expr} {kk : Nat} (hg : Gl X "enumerate") (hm : X.mg "enumerate" = none) (ha : PA X [e] ta) (hs : starEach [e] X.env = [(false, eval e X.env)] := by rfl) :
    PI X (.Tuple elts kk tpos) (.Call (.Name "enumerate" p) [e] [] pos) (iEnumT X.K ta) := by
  refine ⟨fun pins s σ H R I h => ?_⟩
  refine Call_ (ld_blt I hg hm boot_enumerate (PyProof.Rows.callWith_type1 (thn (ha.run pos pins s σ H _ I h) fun us s1 ⟨vs, H1, I1, r1, q1⟩ => ?_) hs rfl))
  obtain ⟨a, xs, ex, hq, q⟩ := q1
  subst ex
  cases r1 with
  | cons r rr =>
    cases rr
    cases r
    obtain ⟨its, rv, p', hz⟩ := I1.tuple hq
    obtain ⟨o1, ho1, _⟩ := id p'
    have hlt : a < s1.heap.objs.size := Heap.lt_size ho1
    refine call_enumerate_tuple (show s1.heap.IsTuple a its.toArray from p') fun h' he hit hsz hk => wpAny_pyIter_enum he ?_
    have I2 : Inv X pins σ H1 { s1 with heap := h' } := I1.kept (t' := s1.toks) hk
    refine ⟨s1.heap.objs.size + 1, [s1.heap.objs.size + 1, s1.heap.objs.size], _, _, H1, rfl, I2, turn_enumT a (s1.heap.objs.size + 1) s1.heap.objs.size (Nat.ne_of_lt (Nat.lt_succ_of_lt hlt)) (Nat.ne_of_lt hlt), ⟨⟨.none, he⟩, hit, Nat.succ_ne_self _⟩, fun b hb => ?_, q⟩
    have e' : b = s1.heap.objs.size + 1 ∨ b = s1.heap.objs.size := by simpa using hb
    have hle : s1.heap.objs.size ≤ b := by
      rcases e' with z | z
      · rw [z]; exact Nat.le_add_right _ _
      · rw [z]; exact Nat.le_refl _
    exact I1.fpOk hle (I1.hok.fresh hle)

/-! ### zip(xs, ys, strict=False) -/
theorem typeCall_zip_k (a b c : Value) : checkTypeCall "zip" ⟨[a, b], [(Str.ofString "strict", c)]⟩ = pure () := by kernel_rfl
theorem newCall_zip_k (a b c : Value) : checkBuiltinCall "zip.__new__" ⟨[.type "zip", a, b], [(Str.ofString "strict", c)]⟩ = pure () := by kernel_rfl
theorem init_zip_k (obj a b c : Value) : argsOk "object.__init__" ⟨[obj, a, b], [(Str.ofString "strict", c)]⟩ := by unfold argsOk; kernel_rfl
abbrev zkH1 (h : Heap) (l1 : Addr) : Heap := h.push { cls := .type "list_iterator", data := .fields #[.ref l1, .int 0 0] }
abbrev zkH2 (h : Heap) (l1 l2 : Addr) : Heap := (zkH1 h l1).push { cls := .type "list_iterator", data := .fields #[.ref l2, .int 0 0] }
abbrev zkH3 (h : Heap) (l1 l2 : Addr) : Heap := (zkH2 h l1 l2).push { cls := .type "tuple", data := .seq #[.ref h.objs.size, .ref (zkH1 h l1).objs.size] }
abbrev zkH4 (h : Heap) (l1 l2 : Addr) : Heap := (zkH3 h l1 l2).push { cls := .type "tuple", data := .seq #[.none, .none] }
abbrev zkH5 (h : Heap) (l1 l2 : Addr) : Heap := (zkH4 h l1 l2).push { cls := .type "zip", data := .fields #[.none, .bool false, .bool false, .ref (zkH2 h l1 l2).objs.size, .ref (zkH3 h l1 l2).objs.size] }
theorem meets_zip_k (l1 l2 : Addr) (xs ys : Array Value) :
    Meets (Builtin.«zip.__new__» ⟨[.type "zip", .ref l1, .ref l2], [(Str.ofString "strict", .bool false)]⟩) (fun _ R s => s.heap.IsList l1 xs ∧ s.heap.IsList l2 ys ∧
      R (.ok (.ret (.ref (zkH4 s.heap l1 l2).objs.size))) { s with heap := zkH5 s.heap l1 l2 }) :=
  .of_wp fun prog w A R s h => by
    obtain ⟨hp, g, d, tk, os⟩ := s; obtain ⟨hl1, hl2, h⟩ := h
    have hsub := sub_zip
    have e1 : (Str.ofString "strict" == ("strict" : Str)) = true := by decide +kernel
    have e2 : (Str.ofString "strict" != ("strict" : Str)) = false := by decide +kernel
    have hL1 : Heap.IsList (Shared.heap ⟨hp, g, d, tk, os⟩) l1 xs := hl1
    have hL2 : Heap.IsList (Shared.heap ⟨hp.push { cls := .type "list_iterator", data := .fields #[.ref l1, .int 0 0] }, g, d, tk, os⟩) l2 ys := Heap.IsList.push hl2 _
    wp_walk using wpAny_pyIter_list hL1, wpAny_pyIter_list hL2
    exact ⟨_, rfl, h⟩
end KB
namespace KB
open PySem PySem.Spec PyProof.Rows L2
section
variable {M : Model} {A : Around} {E : Value → Shared → Prop} {s : Shared} {env : PySem.Env}
theorem callWith_typeKw {pos : Pos} {T : String} {args : List (Bool × Sem Value)} {keywords : List (Option Str × Sem Value)} {Q : Value → Shared → Prop}
    (hplain : args.any (·.1) = false) (hkw : keywords.any (·.1.isNone) = false)
    (h : wpAny M A (evalArgs (.type T) true args keywords) (fun a s₁ => wpAny M A (call (.type T) ([] ++ a.pos) a.kw) Q E s₁) E s) :
    wpAny M A (callWith pos (.type T) [] args keywords) Q E s := by
  unfold callWith
  refine wpAny_bind (wpAny_holding (wpAny_mono h (fun a s₁ h₁ => wpAny_bind (wpAny_standAt ?_)) fun _ _ x => x))
  simp only [hplain, hkw, Bool.or_false]
  refine wpAny_bind (wpAny_pure ?_)
  exact wpAny_bind (wpAny_mono h₁ (fun r s₂ hr => wpAny_bind (wpAny_holding (wpAny_point (wpAny_pure hr)))) fun _ _ x => x)
end
section
variable {prog : Program} {w : World} {A : Around} {E : Value → Shared → Prop} {s : Shared}
theorem call_zip_k {l1 l2 : Addr} {xs ys : Array Value} {Q : Value → Shared → Prop} (hl1 : s.heap.IsList l1 xs) (hl2 : s.heap.IsList l2 ys)
    (h : ∀ h', IsZip h' (s.heap.objs.size + 4) (s.heap.objs.size + 2) (s.heap.objs.size + 3) .none → IsPair h' (s.heap.objs.size + 2) (.ref s.heap.objs.size) (.ref (s.heap.objs.size + 1)) →
      IsPair h' (s.heap.objs.size + 3) .none .none → h'.IsListIter s.heap.objs.size l1 0 → h'.IsListIter (s.heap.objs.size + 1) l2 0 → h'.objs.size = s.heap.objs.size + 5 →
      (∀ c o, s.heap.get? c = some o → h'.get? c = some o) → Q (.ref (s.heap.objs.size + 4)) { s with heap := h' }) :
    wpAny (model prog w) A (call (.type "zip") [.ref l1, .ref l2] [(Str.ofString "strict", .bool false)]) Q E s := by
  refine callType_newKw F.called_zip (by decide) (typeCall_zip_k _ _ _) (newCall_zip_k _ _ _) (fun obj => init_zip_k obj _ _ _) F.entry_zip_new
    (meets_zip_k l1 l2 xs ys) ⟨hl1, hl2, ?_⟩
  have z1 : (zkH1 s.heap l1).objs.size = s.heap.objs.size + 1 := Heap.size_push ..
  have z2 : (zkH2 s.heap l1 l2).objs.size = s.heap.objs.size + 2 := by rw [Heap.size_push, z1]
  have z3 : (zkH3 s.heap l1 l2).objs.size = s.heap.objs.size + 3 := by rw [Heap.size_push, z2]
  have z4 : (zkH4 s.heap l1 l2).objs.size = s.heap.objs.size + 4 := by rw [Heap.size_push, z3]
  have z5 : (zkH5 s.heap l1 l2).objs.size = s.heap.objs.size + 5 := by rw [Heap.size_push, z4]
  have g5 : (zkH5 s.heap l1 l2).get? (zkH4 s.heap l1 l2).objs.size = some _ := Heap.get?_push_size _ rfl
  have g4 : (zkH5 s.heap l1 l2).get? (zkH3 s.heap l1 l2).objs.size = some _ := Heap.get?_push_of_some _ (Heap.get?_push_size _ rfl)
  have g3 : (zkH5 s.heap l1 l2).get? (zkH2 s.heap l1 l2).objs.size = some _ := Heap.get?_push_of_some _ (Heap.get?_push_of_some _ (Heap.get?_push_size _ rfl))
  have g2 : (zkH5 s.heap l1 l2).get? (zkH1 s.heap l1).objs.size = some _ := Heap.get?_push_of_some _ (Heap.get?_push_of_some _ (Heap.get?_push_of_some _ (Heap.get?_push_size _ rfl)))
  have g1 : (zkH5 s.heap l1 l2).get? s.heap.objs.size = some _ := Heap.get?_push_of_some _ (Heap.get?_push_of_some _ (Heap.get?_push_of_some _ (Heap.get?_push_of_some _ (Heap.get?_push_size _ rfl))))
  show _ ∧ _
  rw [z2, z3, z4] at g5
  rw [z1, z2] at g3
  rw [z3] at g4
  rw [z1] at g2
  rw [z4]
  exact ⟨⟨_, g5, rfl⟩, h _ g5 g3 g4 ⟨_, g1, rfl, rfl⟩ ⟨_, g2, rfl, rfl⟩ z5 fun c o x =>
    Heap.get?_push_of_some _ (Heap.get?_push_of_some _ (Heap.get?_push_of_some _ (Heap.get?_push_of_some _ (Heap.get?_push_of_some _ x))))⟩
end
theorem pi_zipK {X : Cx} {e e2 : Expr} {ta : TA} {p pos tpos cp kp : Pos} {elts : List Expr} {kk j : Nat} (hg : Gl X "zip") (hm : X.mg "zip" = none) (ha : PA X [e, e2] ta)
    (hs : starEach [e, e2] X.env = (false, eval e X.env) :: starEach [e2] X.env := by rfl) (hpl : (backTo pos (starEach [e2] X.env)).any (·.1) = false := by rfl) :
    PI X (.Tuple elts kk tpos) (.Call (.Name "zip" p) [e, e2] [⟨some "strict", .Constant (.bool false) j cp, kp⟩] pos) (iZip X.K ta) := by
  refine ⟨fun pins s σ H R I h => ?_⟩
  have he : eval (.Call (.Name "zip" p) [e, e2] [⟨some "strict", .Constant (.bool false) j cp, kp⟩] pos) X.env = (do callWith pos (← eval (.Name "zip" p) X.env) [] (backTo pos (starEach [e, e2] X.env)) (backToKw pos (keywordEach [⟨some "strict", .Constant (.bool false) j cp, kp⟩] X.env))) := by rfl
  rw [he]
  refine wpAny_bind (ld_blt I hg hm PyProof.Rows.boot_zip ?_)
  refine callWith_typeKw ?_ rfl ?_
  · rw [hs]
    show (false || (backTo pos (starEach [e2] X.env)).any (·.1)) = false
    rw [hpl] <;> rfl
  have hh := ha.run pos pins s σ H _ I h
  rw [hs] at hh ⊢
  show wpAny _ _ (evalArgs (.type "zip") true ((false, eval e X.env) :: backTo pos (starEach [e2] X.env)) (backToKw pos (keywordEach [⟨some "strict", .Constant (.bool false) j cp, kp⟩] X.env))) _ _ _
  refine evalArgs_kwB rfl ?_
  refine thn hh fun us s1 ⟨vs, H1, I1, r1, q1⟩ => ?_
  refine kws_cons (env := X.env) (Constant_bool ?_)
  refine kws_nil (env := X.env) ?_
  obtain ⟨a, b, xs, ys, ex, hqx, hqy, q⟩ := q1
  subst ex
  cases r1 with
  | cons r rr =>
    cases rr with
    | cons r' rr =>
      cases rr
      cases r
      cases r'
      obtain ⟨its, rv, p1, _⟩ := I1.list hqx
      obtain ⟨its2, rv2, p2, _⟩ := I1.list hqy
      have la : a < s1.heap.objs.size := p1.lt
      have lb : b < s1.heap.objs.size := p2.lt
      refine call_zip_k p1.isList p2.isList fun h' hz hTI hTO h1 h2 hsz hk => wpAny_pyIter_zip hz ?_
      have I2 : Inv X pins σ H1 { s1 with heap := h' } := I1.kept (t' := s1.toks) hk
      refine ⟨s1.heap.objs.size + 4, [s1.heap.objs.size + 4, s1.heap.objs.size + 2, s1.heap.objs.size + 3, s1.heap.objs.size, s1.heap.objs.size + 1], _, _, H1, rfl, I2, turn_zip (PySem.W.ktu_apart s1.heap.objs.size a b la lb), ⟨hz, hTI, ⟨_, _, hTO⟩, h1, h2⟩, fun c hcm => ?_, q⟩
      have e' : c = s1.heap.objs.size + 4 ∨ c = s1.heap.objs.size + 2 ∨ c = s1.heap.objs.size + 3 ∨ c = s1.heap.objs.size ∨ c = s1.heap.objs.size + 1 := by simpa using hcm
      have hle : s1.heap.objs.size ≤ c := by
        rcases e' with z | z | z | z | z
        · rw [z]; exact Nat.le_add_right _ _
        · rw [z]; exact Nat.le_add_right _ _
        · rw [z]; exact Nat.le_add_right _ _
        · rw [z]; exact Nat.le_refl _
        · rw [z]; exact Nat.le_add_right _ _
      exact I1.fpOk hle (I1.hok.fresh hle)
end KB
namespace KB
open PySem PySem.Spec PyProof.Rows L2

/-! ### slices -/
def cutD {α : Type} (xs : List α) (lo hi : Option Int) : List α := (xs.drop (HT.sIx xs.length 0 lo)).take (HT.sIx xs.length xs.length hi - HT.sIx xs.length 0 lo)
theorem cutD_len {α : Type} (xs : List α) (lo hi : Option Int) : (cutD xs lo hi).length ≤ xs.length := by
  unfold cutD
  rw [List.length_take, List.length_drop]
  omega
theorem cutD_map {α β : Type} (f : α → β) (xs : List α) (lo hi : Option Int) : cutD (xs.map f) lo hi = (cutD xs lo hi).map f := by
  unfold cutD
  rw [List.length_map, ← List.map_drop, ← List.map_take]
theorem cutD_nn {α : Type} (xs : List α) (i j : Nat) : cutD xs (some (i : Int)) (some (j : Int)) = (xs.drop i).take (j - i) := by
  unfold cutD
  rw [HT.sIx_nat, HT.sIx_nat]
  by_cases h : i ≤ xs.length
  · rw [Nat.min_eq_left h]
    by_cases h2 : j ≤ xs.length
    · rw [Nat.min_eq_left h2]
    · rw [Nat.min_eq_right (by omega), List.take_of_length_le (by rw [List.length_drop]; omega), List.take_of_length_le (by rw [List.length_drop]; omega)]
  · have e : min i xs.length = xs.length := by omega
    rw [e, List.drop_of_length_le (Nat.le_refl _), List.drop_of_length_le (show xs.length ≤ i by omega), List.take_nil, List.take_nil]
theorem cutD_0n {α : Type} (xs : List α) (j : Nat) : cutD xs none (some (j : Int)) = xs.take j := by
  unfold cutD
  rw [HT.sIx_nat, HT.sIx_none, List.drop_zero, Nat.sub_zero]
  by_cases h2 : j ≤ xs.length
  · rw [Nat.min_eq_left h2]
  · rw [Nat.min_eq_right (by omega), List.take_of_length_le (Nat.le_refl _), List.take_of_length_le (by omega)]
theorem cutD_n0 {α : Type} (xs : List α) (i : Nat) : cutD xs (some (i : Int)) none = xs.drop i := by
  unfold cutD
  rw [HT.sIx_nat, HT.sIx_none]
  by_cases h : i ≤ xs.length
  · rw [Nat.min_eq_left h, List.take_of_length_le (by rw [List.length_drop]; omega)]
  · rw [Nat.min_eq_right (by omega), List.drop_of_length_le (Nat.le_refl _), List.drop_of_length_le (by omega), List.take_nil]
theorem RpL.cut {F : Hp} {ds : List Dt} {xs : List V} (h : RpL F ds xs) (lo hi : Option Int) : RpL F (cutD ds lo hi) (cutV xs lo hi) := by
  unfold cutD cutV
  rw [h.length]
  exact (h.drop _).take _
section
variable {env : Env_} {mus : Mu} {ta tb te : TE} {tl th : TO} {d d1 d2 d3 : Dt} {r : R2} {t u : TT} {K : PySem.W.Frag} {lo hi : Option Int} {ds es : List Dt}
theorem eo_none : EvO tNoPart env mus none := fun F σ H M E Q q => q F H (Gr.refl M.fh)
theorem eo_some {i : Int} (h : EvD te env mus (.int i)) : EvO (tPart te) env mus (some i) := fun F σ H M E Q q =>
  h F σ H M E _ fun v F1 H1 g1 r1 => ⟨i, rp_int.mp r1, q F1 H1 g1⟩
theorem ev_slT (h : EvD te env mus (.tup ds)) (hl : EvO tl env mus lo) (hh : EvO th env mus hi) : EvD (tSl (rSlA K) te tl th) env mus (.tup (cutD ds lo hi)) := fun F σ H M E Q q =>
  h F σ H M E _ fun v F1 H1 g1 r1 => hl F1 σ H1 (M.grow g1) (E.mono g1.ff) _ fun F2 H2 g2 => hh F2 σ H2 ((M.grow g1).grow g2) ((E.mono g1.ff).mono g2.ff) _ fun F3 H3 g3 => by
    have g := (g1.trans g2).trans g3
    obtain ⟨a, xs, rfl, ha, hx⟩ := rp_tup.mp (r1.mono (g2.ff.trans g3.ff))
    refine ⟨a, xs, rfl, SqT.of (g.fh _ _ ha), fun hw => ?_, fun _ p hp => ?_⟩
    · refine q _ F3 H3 g (rp_tup.mpr ⟨a, xs, rfl, ha, ?_⟩)
      have e : cutD ds lo hi = ds := by
        unfold cutD
        rw [hx.length, hw.1, hw.2, List.drop_zero, Nat.sub_zero]
        exact List.take_of_length_le (by rw [hx.length]; exact Nat.le_refl _)
      rw [e]
      exact hx
    · exact q _ (upd F3 p (.tup (cutV xs lo hi))) _ (g.trans (Gr.new g.fh hp)) (rp_tup.mpr ⟨p, _, rfl, upd_same, (hx.cut lo hi).mono (same_new (g.fh.free hp))⟩)
theorem en_slL (h : EvD te env mus (.lst ds)) (hl : EvO tl env mus lo) (hh : EvO th env mus hi) : EvN (tSl (rSlL K) te tl th) env mus (cutD ds lo hi) := fun F σ H M E Q q =>
  h F σ H M E _ fun v F1 H1 g1 r1 => hl F1 σ H1 (M.grow g1) (E.mono g1.ff) _ fun F2 H2 g2 => hh F2 σ H2 ((M.grow g1).grow g2) ((E.mono g1.ff).mono g2.ff) _ fun F3 H3 g3 => by
    have g := (g1.trans g2).trans g3
    obtain ⟨a, xs, rfl, ha, hx⟩ := rp_lst.mp (r1.mono (g2.ff.trans g3.ff))
    exact ⟨a, xs, rfl, SqL.of (g.fh _ _ ha), fun p hp => q p _ F3 _ (g.trans (Gr.newM g.fh hp)) (g.fh.free hp) (g.bh.free hp) upd_same (hx.cut lo hi)⟩
theorem en_slM {p0 : Addr} (hm : (p0, MO.lst ds) ∈ mus) (h : EvD te env mus (.ptr p0)) (hl : EvO tl env mus lo) (hh : EvO th env mus hi) : EvN (tSl (rSlL K) te tl th) env mus (cutD ds lo hi) := fun F σ H M E Q q =>
  h F σ H M E _ fun v F1 H1 g1 r1 => hl F1 σ H1 (M.grow g1) (E.mono g1.ff) _ fun F2 H2 g2 => hh F2 σ H2 ((M.grow g1).grow g2) ((E.mono g1.ff).mono g2.ff) _ fun F3 H3 g3 => by
    have g := (g1.trans g2).trans g3
    obtain ⟨_, o, e1, xs, rfl, hx⟩ := (M.grow g).mu _ hm
    exact ⟨p0, xs, rp_ptr.mp r1, SqL.of e1, fun p hp => q p _ F3 _ (g.trans (Gr.newM g.fh hp)) (g.fh.free hp) (g.bh.free hp) upd_same (hx.cut lo hi)⟩

/-! ### + and * of tuples and lists -/
theorem rd_catT (hz : ds.length + es.length ≤ 100000) : RD (rCatA K) mus (.tup ds) (.tup es) (.tup (ds ++ es)) := fun F H v1 v2 M r1 r2 Q q => by
  obtain ⟨a, xs, rfl, ha, hx⟩ := rp_tup.mp r1
  obtain ⟨b, ys, rfl, hb, hy⟩ := rp_tup.mp r2
  refine ⟨a, b, xs, ys, rfl, rfl, SqT.of (M.fh _ _ ha), SqT.of (M.fh _ _ hb), sz_of (by rw [← hx.length, ← hy.length]; exact hz), fun e => ?_, fun _ e => ?_, fun _ _ p hp => ?_⟩
  · subst e
    have e2 : ds = [] := List.eq_nil_of_length_eq_zero (by rw [hx.length]; rfl)
    subst e2
    exact q _ F H (Gr.refl M.fh) (rp_tup.mpr ⟨b, ys, rfl, hb, hy⟩)
  · subst e
    have e2 : es = [] := List.eq_nil_of_length_eq_zero (by rw [hy.length]; rfl)
    subst e2
    rw [List.append_nil] at q
    exact q _ F H (Gr.refl M.fh) (rp_tup.mpr ⟨a, xs, rfl, ha, hx⟩)
  · exact q _ (upd F p (.tup (xs ++ ys))) _ (Gr.new M.fh hp) (rp_tup.mpr ⟨p, _, rfl, upd_same, (hx.append hy).mono (same_new (M.fh.free hp))⟩)
theorem rd_repT {k : Int} (h0 : ds ≠ []) (h1 : 0 ≤ k) (h2 : k ≤ 1000) (h3 : ds.length ≤ 1000) : RD (rRepA K) mus (.tup ds) (.int k) (.tup (List.replicate k.toNat ds).flatten) := fun F H v1 v2 M r1 r2 Q q => by
  obtain ⟨a, xs, rfl, ha, hx⟩ := rp_tup.mp r1
  refine ⟨a, k, xs, rfl, rp_int.mp r2, SqT.of (M.fh _ _ ha), fun e => h0 (List.eq_nil_of_length_eq_zero (by rw [hx.length, e]; rfl)), h1, h2, by rw [← hx.length]; exact h3, fun e => ?_, fun _ p hp => ?_⟩
  · subst e
    rw [show (1 : Int).toNat = 1 from rfl, List.replicate_one, List.flatten_singleton] at q
    exact q _ F H (Gr.refl M.fh) (rp_tup.mpr ⟨a, xs, rfl, ha, hx⟩)
  · exact q _ (upd F p (.tup _)) _ (Gr.new M.fh hp) (rp_tup.mpr ⟨p, _, rfl, upd_same, (hx.rep k.toNat).mono (same_new (M.fh.free hp))⟩)
def RDN (r : R2) (mus : Mu) (d1 d2 : Dt) (ds : List Dt) : Prop := ∀ F H v1 v2, MS mus F H → Rp F d1 v1 → Rp F d2 v2 → ∀ Q : VK, (∀ p xs F' H', Gr H F F' H' → F' p = none → H p = none → H' p = some (.lst xs) → RpL F' ds xs → Q (.ref p) H') → r v1 v2 H Q
theorem en_op (ha : EvD ta env mus d1) (hb : EvD tb env mus d2) (hr : RDN r mus d1 d2 ds) : EvN (tOp r ta tb) env mus ds := fun F σ H M E Q q =>
  ha F σ H M E _ fun v1 F1 H1 g1 r1 => hb F1 σ H1 (M.grow g1) (E.mono g1.ff) _ fun v2 F2 H2 g2 r2 =>
    hr F2 H2 v1 v2 ((M.grow g1).grow g2) (r1.mono g2.ff) r2 Q fun p xs F3 H3 g3 n1 n2 e r3 => q p xs F3 H3 ((g1.trans g2).trans g3) n1 ((g1.trans g2).bh.free n2) e r3
theorem rn_cat (hz : ds.length + es.length ≤ 100000) : RDN rCat mus (.lst ds) (.lst es) (ds ++ es) := fun F H v1 v2 M r1 r2 Q q => by
  obtain ⟨a, xs, rfl, ha, hx⟩ := rp_lst.mp r1
  obtain ⟨b, ys, rfl, hb, hy⟩ := rp_lst.mp r2
  exact ⟨a, b, xs, ys, rfl, rfl, M.fh _ _ ha, M.fh _ _ hb, sz_of (by rw [← hx.length, ← hy.length]; exact hz), fun p hp => q p _ F _ (Gr.newM M.fh hp) (M.fh.free hp) hp upd_same (hx.append hy)⟩
theorem rn_rep {k : Int} (h1 : 0 ≤ k) (h2 : k ≤ 1000) (h3 : ds.length ≤ 100) : RDN rRep mus (.lst ds) (.int k) (List.replicate k.toNat ds).flatten := fun F H v1 v2 M r1 r2 Q q => by
  obtain ⟨a, xs, rfl, ha, hx⟩ := rp_lst.mp r1
  refine ⟨a, k, xs, rfl, rp_int.mp r2, M.fh _ _ ha, by omega, by omega, sz_of ?_, fun p hp => q p _ F _ (Gr.newM M.fh hp) (M.fh.free hp) hp upd_same (hx.rep k.toNat)⟩
  rw [← hx.length]
  exact Nat.le_trans (Nat.mul_le_mul h3 (show k.toNat ≤ 1000 by omega)) (by decide)

/-! ### built-ins -/
theorem ev_cb {tr : TA} {r : List V → Hp → VK → Prop} (ha : EvA tr env mus ds) (hr : RC r mus ds d) : EvD (tCB r tr) env mus d := fun F σ H M E Q q =>
  ha F σ H M E _ fun vs F1 H1 g1 r1 => hr F1 H1 vs (M.grow g1) r1 Q fun v F2 H2 g2 r2 => q v F2 H2 (g1.trans g2) r2
theorem one_of {F : Hp} {xs : List V} (h : RpL F [d] xs) : ∃ x, xs = [x] ∧ Rp F d x := by
  obtain ⟨x, r, rfl, hx, t⟩ := h.inv
  rw [t.inv0]
  exact ⟨x, rfl, hx⟩
theorem two_of {F : Hp} {xs : List V} (h : RpL F [d1, d2] xs) : ∃ x y, xs = [x, y] ∧ Rp F d1 x ∧ Rp F d2 y := by
  obtain ⟨x, r, rfl, hx, t⟩ := h.inv
  obtain ⟨y, rfl, hy⟩ := one_of t
  exact ⟨x, y, rfl, hx, hy⟩
abbrev rLenS (K : PySem.W.Frag) : List V → Hp → VK → Prop := fun xs H Q => ∃ p ys, xs = [.ref p] ∧ (SqL K H p ys ∨ SqT K H p ys) ∧ Q (.int ys.length) H
theorem rc_lenT : RC (rLenS K) mus [.tup ds] (.int ds.length) := fun F H vs M r Q q => by
  obtain ⟨x, rfl, hx⟩ := one_of r
  obtain ⟨a, xs, rfl, ha, hl⟩ := rp_tup.mp hx
  rw [hl.length] at q
  exact ⟨a, xs, rfl, .inr (SqT.of (M.fh _ _ ha)), q _ F H (Gr.refl M.fh) (rp_int.mpr rfl)⟩
theorem rc_lenL : RC (rLenS K) mus [.lst ds] (.int ds.length) := fun F H vs M r Q q => by
  obtain ⟨x, rfl, hx⟩ := one_of r
  obtain ⟨a, xs, rfl, ha, hl⟩ := rp_lst.mp hx
  rw [hl.length] at q
  exact ⟨a, xs, rfl, .inl (SqL.of (M.fh _ _ ha)), q _ F H (Gr.refl M.fh) (rp_int.mpr rfl)⟩
theorem rc_lenM {p : Addr} (hm : (p, MO.lst ds) ∈ mus) : RC (rLenS K) mus [.ptr p] (.int ds.length) := fun F H vs M r Q q => by
  obtain ⟨x, rfl, hx⟩ := one_of r
  obtain ⟨_, o, e1, xs, rfl, hl⟩ := M.mu _ hm
  rw [hl.length] at q
  rw [rp_ptr.mp hx]
  exact ⟨p, xs, rfl, .inl (SqL.of e1), q _ F H (Gr.refl M.fh) (rp_int.mpr rfl)⟩
theorem rc_sumL {ns : List Int} : RC (rSum K) mus [.lst (ns.map Dt.int)] (.int ns.sum) := fun F H vs M r Q q => by
  obtain ⟨x, rfl, hx⟩ := one_of r
  obtain ⟨a, xs, rfl, ha, hl⟩ := rp_lst.mp hx
  rw [hl.ints] at ha
  exact ⟨a, ns, rfl, SqL.of (M.fh _ _ ha), q _ F H (Gr.refl M.fh) (rp_int.mpr rfl)⟩
theorem rc_sumM {p : Addr} {ns : List Int} (hm : (p, MO.lst (ns.map Dt.int)) ∈ mus) : RC (rSum K) mus [.ptr p] (.int ns.sum) := fun F H vs M r Q q => by
  obtain ⟨x, rfl, hx⟩ := one_of r
  obtain ⟨_, o, e1, xs, rfl, hl⟩ := M.mu _ hm
  have e1' : H p = some (.lst xs) := e1
  rw [hl.ints] at e1'
  rw [rp_ptr.mp hx]
  exact ⟨p, ns, rfl, SqL.of e1', q _ F H (Gr.refl M.fh) (rp_int.mpr rfl)⟩
theorem rc_sumT {ns : List Int} : RC (rSumT K) mus [.tup (ns.map Dt.int)] (.int ns.sum) := fun F H vs M r Q q => by
  obtain ⟨x, rfl, hx⟩ := one_of r
  obtain ⟨a, xs, rfl, ha, hl⟩ := rp_tup.mp hx
  rw [hl.ints] at ha
  exact ⟨a, ns, rfl, SqT.of (M.fh _ _ ha), q _ F H (Gr.refl M.fh) (rp_int.mpr rfl)⟩
abbrev rTupOf (K : PySem.W.Frag) : List V → Hp → VK → Prop := fun xs H Q => ∃ p ys, xs = [.ref p] ∧ ((SqL K H p ys ∧ ∀ l, H l = none → Q (.ref l) (upd H l (.tup ys))) ∨ (SqT K H p ys ∧ Q (.ref p) H))
theorem rc_tupL : RC (rTupOf K) mus [.lst ds] (.tup ds) := fun F H vs M r Q q => by
  obtain ⟨x, rfl, hx⟩ := one_of r
  obtain ⟨a, xs, rfl, ha, hl⟩ := rp_lst.mp hx
  exact ⟨a, xs, rfl, .inl ⟨SqL.of (M.fh _ _ ha), fun p hp => q _ (upd F p (.tup xs)) _ (Gr.new M.fh hp) (rp_tup.mpr ⟨p, xs, rfl, upd_same, hl.mono (same_new (M.fh.free hp))⟩)⟩⟩
theorem rc_tupM {p0 : Addr} (hm : (p0, MO.lst ds) ∈ mus) : RC (rTupOf K) mus [.ptr p0] (.tup ds) := fun F H vs M r Q q => by
  obtain ⟨x, rfl, hx⟩ := one_of r
  obtain ⟨_, o, e1, xs, rfl, hl⟩ := M.mu _ hm
  rw [rp_ptr.mp hx]
  exact ⟨p0, xs, rfl, .inl ⟨SqL.of e1, fun p hp => q _ (upd F p (.tup xs)) _ (Gr.new M.fh hp) (rp_tup.mpr ⟨p, xs, rfl, upd_same, hl.mono (same_new (M.fh.free hp))⟩)⟩⟩
theorem rc_int {i : Int} : RC (fun xs H Q => (∃ i, xs = [V.int i] ∧ Q (.int i) H) ∨ ∃ k, xs = [V.bl k] ∧ Q (.int (if k then 1 else 0)) H) mus [.int i] (.int i) := fun F H vs M r Q q => by
  obtain ⟨x, rfl, hx⟩ := one_of r
  rw [rp_int.mp hx]
  exact .inl ⟨i, rfl, q _ F H (Gr.refl M.fh) (rp_int.mpr rfl)⟩
theorem rc_min2 {i j : Int} : RC (fun xs H Q => ∃ i j, xs = [V.int i, V.int j] ∧ Q (.int (if j < i then j else i)) H) mus [.int i, .int j] (.int (min i j)) := fun F H vs M r Q q => by
  obtain ⟨x, y, rfl, hx, hy⟩ := two_of r
  rw [rp_int.mp hx, rp_int.mp hy]
  have e : (if j < i then j else i) = min i j := by
    split <;> omega
  refine ⟨i, j, rfl, ?_⟩
  rw [e]
  exact q _ F H (Gr.refl M.fh) (rp_int.mpr rfl)
/-- the type's name of a datum -/
def tyOf : Dt → String
  | .non => "NoneType"
  | .bl _ => "bool"
  | .int _ => "int"
  | .str _ => "str"
  | .tup _ => "tuple"
  | .lst _ => "list"
  | .ty _ => "?"
  | .ptr _ => "?"
theorem tyX_of {F H : Hp} (hf : Same F H) {v : V} (h : Rp F d v) (n : tyOf d ≠ "?") : TyX K H v (.type (tyOf d)) := by
  cases d with
  | non => rw [rp_non.mp h]; exact .base .non
  | bl b => rw [rp_bl.mp h]; exact .base (.bl b)
  | int i => rw [rp_int.mp h]; exact .base (.int i)
  | str x => rw [show v = .str x by simpa only [Rp] using h]; exact .base (.str x)
  | tup l =>
    obtain ⟨a, xs, rfl, ha, _⟩ := rp_tup.mp h
    exact .base (.tup (hf _ _ ha))
  | lst l =>
    obtain ⟨a, xs, rfl, ha, _⟩ := rp_lst.mp h
    exact .base (.lst (hf _ _ ha))
  | ty n' => exact absurd rfl n
  | ptr a => exact absurd rfl n
theorem rc_isi {T : String} {b : Bool} (n : tyOf d ≠ "?") (hb : kitB (tyOf d) T = some b) : RC (rIsi K) mus [d, .ty T] (.bl b) := fun F H vs M r Q q => by
  obtain ⟨x, y, rfl, hx, hy⟩ := two_of r
  rw [show y = .ty T by simpa only [Rp] using hy]
  exact ⟨x, .ty T, .type (tyOf d), .type T, b, rfl, .ty T, tyX_of M.fh hx n, kit_ty hb, q _ F H (Gr.refl M.fh) (rp_bl.mpr rfl)⟩
theorem rc_isiT {T U : String} {b1 b2 : Bool} (n : tyOf d ≠ "?") (hb : kitB (tyOf d) T = some b1) (hb2 : kitB (tyOf d) U = some b2) : RC (rIsiT K) mus [d, .tup [.ty T, .ty U]] (.bl (b1 || b2)) := fun F H vs M r Q q => by
  obtain ⟨x, y, rfl, hx, hy⟩ := two_of r
  obtain ⟨a, xs, rfl, ha, hl⟩ := rp_tup.mp hy
  obtain ⟨y1, y2, rfl, h1, h2⟩ := two_of hl
  rw [show y1 = .ty T by simpa only [Rp] using h1, show y2 = .ty U by simpa only [Rp] using h2] at ha
  refine ⟨x, a, _, .type (tyOf d), [.type T, .type U], b1 || b2, rfl, M.fh _ _ ha, .cons (.ty T) (.cons (.ty U) .nil), tyX_of M.fh hx n, ?_, q _ F H (Gr.refl M.fh) (rp_bl.mpr rfl)⟩
  refine kitAny_cons (kit_ty hb) (fun e => kitAny_cons (kit_ty hb2) (fun e2 => ?_) fun e2 => ?_) fun e => ?_
  · rw [e, e2]; exact kitAny_nil
  · rw [e, e2]; rfl
  · rw [e]; rfl

/-! ### in, not in, deep != -/
theorem inV_bls {b : Bool} : ∀ {bs : List Bool}, inV (V.bl b) (bs.map V.bl) = decide (b ∈ bs)
  | [] => by simp [inV]
  | c :: r => by
    have ih := inV_bls (b := b) (bs := r)
    unfold inV at ih ⊢
    rw [List.map_cons, List.any_cons, ih]
    by_cases e : c = b
    · subst e; simp [eqV]
    · have e2 : ¬ b = c := fun z => e z.symm
      simp [eqV, e, e2]
theorem inV_ints {b : Int} : ∀ {bs : List Int}, inV (V.int b) (bs.map V.int) = decide (b ∈ bs)
  | [] => by simp [inV]
  | c :: r => by
    have ih := inV_ints (b := b) (bs := r)
    unfold inV at ih ⊢
    rw [List.map_cons, List.any_cons, ih]
    by_cases e : c = b
    · subst e; simp [eqV]
    · have e2 : ¬ b = c := fun z => e z.symm
      simp [eqV, e, e2]
theorem flat_bls : ∀ (bs : List Bool), (bs.map V.bl).all flatV = true
  | [] => rfl
  | c :: r => by rw [List.map_cons, List.all_cons, flat_bls r]; rfl
theorem flat_ints : ∀ (bs : List Int), (bs.map V.int).all flatV = true
  | [] => rfl
  | c :: r => by rw [List.map_cons, List.all_cons, flat_ints r]; rfl
theorem rd_inB {neg b : Bool} {bs : List Bool} : RD (rIn K neg) mus (.bl b) (.lst (bs.map Dt.bl)) (.bl (if neg then !decide (b ∈ bs) else decide (b ∈ bs))) := fun F H v1 v2 M r1 r2 Q q => by
  obtain ⟨a, xs, rfl, ha, hl⟩ := rp_lst.mp r2
  rw [hl.bls] at ha
  rw [rp_bl.mp r1]
  refine ⟨a, _, rfl, .inl (SqL.of (M.fh _ _ ha)), rfl, flat_bls bs, ?_⟩
  rw [inV_bls]
  exact q _ F H (Gr.refl M.fh) (rp_bl.mpr rfl)
theorem rd_inT {neg : Bool} {b : Int} {bs : List Int} : RD (rIn K neg) mus (.int b) (.tup (bs.map Dt.int)) (.bl (if neg then !decide (b ∈ bs) else decide (b ∈ bs))) := fun F H v1 v2 M r1 r2 Q q => by
  obtain ⟨a, xs, rfl, ha, hl⟩ := rp_tup.mp r2
  rw [hl.ints] at ha
  rw [rp_int.mp r1]
  refine ⟨a, _, rfl, .inr (SqT.of (M.fh _ _ ha)), rfl, flat_ints bs, ?_⟩
  rw [inV_ints]
  exact q _ F H (Gr.refl M.fh) (rp_bl.mpr rfl)
/-- ints, and tuples of ints -/
inductive Flat2 : Dt → PyData → Prop
  | int (i : Int) : Flat2 (.int i) (.int i)
  | tup (ns : List Int) : Flat2 (.tup (ns.map Dt.int)) (.tuple (ns.map PyData.int))
theorem dp_ints {H : Hp} : ∀ (ns : List Int), DpAll K H (ns.map V.int) (ns.map PyData.int)
  | [] => .nil
  | n :: ns => .cons (.int n) (dp_ints ns)
theorem lay_ints : ∀ (ns : List Int), PyData.canLayAll0 (ns.map PyData.int) = true
  | [] => by simp only [List.map_nil, PyData.canLayAll0]
  | n :: ns => by simp only [List.map_cons, PyData.canLayAll0, PyData.canLay0, lay_ints ns, Bool.and_self]
theorem dep_ints : ∀ (ns : List Int), PyData.depthAll (ns.map PyData.int) = 0
  | [] => by simp only [List.map_nil, PyData.depthAll]
  | n :: ns => by simp only [List.map_cons, PyData.depthAll, PyData.depth, dep_ints ns, Nat.max_self]
theorem Flat2.dp {F H : Hp} (hf : Same F H) {p : PyData} (f : Flat2 d p) {v : V} (h : Rp F d v) : Dp K H v p := by
  cases f with
  | int i => rw [rp_int.mp h]; exact .int i
  | tup ns =>
    obtain ⟨a, xs, rfl, ha, hl⟩ := rp_tup.mp h
    rw [hl.ints] at ha
    exact .tup (SqT.of (hf _ _ ha)) (dp_ints ns)
theorem Flat2.lay {p : PyData} (f : Flat2 d p) : p.canLay0 = true ∧ p.depth ≤ 1 := by
  cases f with
  | int i => simp only [PyData.canLay0, PyData.depth]; exact ⟨trivial, by omega⟩
  | tup ns => simp only [PyData.canLay0, PyData.depth, lay_ints, dep_ints]; exact ⟨trivial, by omega⟩
theorem flat_dpAll {F H : Hp} (hf : Same F H) : ∀ {ds : List Dt} {xs : List V}, (∀ d ∈ ds, ∃ p, Flat2 d p) → RpL F ds xs → ∃ ps, DpAll K H xs ps ∧ ps.length = ds.length ∧ PyData.canLayAll0 ps = true ∧ PyData.depthAll ps ≤ 1
  | [], _, _, h => by
    rw [h.inv0]
    exact ⟨[], .nil, rfl, by simp only [PyData.canLayAll0], by simp only [PyData.depthAll]; omega⟩
  | d :: ds, _, hd, h => by
    obtain ⟨x, r, rfl, hx, ht⟩ := h.inv
    obtain ⟨p, f⟩ := hd d (List.mem_cons_self ..)
    obtain ⟨ps, h1, h2, h3, h4⟩ := flat_dpAll hf (fun e he => hd e (List.mem_cons_of_mem _ he)) ht
    refine ⟨p :: ps, .cons (f.dp hf hx) h1, by rw [List.length_cons, List.length_cons, h2], ?_, ?_⟩
    · simp only [PyData.canLayAll0, f.lay.1, h3, Bool.and_self]
    · have := f.lay.2
      simp only [PyData.depthAll]
      omega
theorem rd_neNil (hd : ∀ d ∈ ds, ∃ p, Flat2 d p) : RD (rNeD K) mus (.lst ds) (.lst []) (.bl (!ds.isEmpty)) := fun F H v1 v2 M r1 r2 Q q => by
  obtain ⟨a, xs, rfl, ha, hl⟩ := rp_lst.mp r1
  obtain ⟨b, ys, rfl, hb, hl2⟩ := rp_lst.mp r2
  rw [hl2.inv0] at hb
  obtain ⟨ps, h1, h2, h3, h4⟩ := flat_dpAll (K := K) M.fh hd hl
  refine ⟨.list ps, .list [], .lst (SqL.of (M.fh _ _ ha)) h1, .lst (SqL.of (M.fh _ _ hb)) .nil, ?_, by decide, ?_⟩
  · unfold SeqAt.shaped
    rw [show (PyData.list ps).canLay0 = true by simp only [PyData.canLay0, h3], show decide ((PyData.list ps).depth ≤ 64) = true from decide_eq_true (by simp only [PyData.depth]; omega)]
    rfl
  · have e : PyData.eqv (.list ps) (.list []) = ds.isEmpty := by
      cases ps with
      | nil =>
        have e2 : ds = [] := List.eq_nil_of_length_eq_zero h2.symm
        subst e2
        simp only [PyData.eqv, PyData.eqvAll, List.isEmpty_nil]
      | cons p ps =>
        cases ds with
        | nil => cases h2
        | cons d ds => simp only [PyData.eqv, PyData.eqvAll, List.isEmpty_cons]
    rw [e]
    exact q _ F H (Gr.refl M.fh) (rp_bl.mpr rfl)
/-- a < b < c <= e over ints -/
theorem et_chain3 {tc td : TE} {a b c e : Int} (ha : EvD ta env mus (.int a)) (hb : EvD tb env mus (.int b)) (hc : EvD tc env mus (.int c)) (he : EvD td env mus (.int e)) :
    EvT (tTest (tChain3 (rI0 fun i j => .bl (decide (i < j))) (rI0 fun i j => .bl (decide (i < j))) (rI0 fun i j => .bl (decide (i ≤ j))) ta tb tc td)) env mus (decide (a < b ∧ b < c ∧ c ≤ e)) := fun F σ H M E Q q =>
  ha F σ H M E _ fun v1 F1 H1 g1 r1 => hb F1 σ H1 (M.grow g1) (E.mono g1.ff) _ fun v2 F2 H2 g2 r2 => by
    refine ⟨a, b, rp_int.mp r1, rp_int.mp r2, decide (a < b), rfl, ?_⟩
    have g12 := g1.trans g2
    by_cases h1 : a < b
    · rw [decide_eq_true h1, if_pos rfl]
      refine hc F2 σ H2 (M.grow g12) (E.mono g12.ff) _ fun v3 F3 H3 g3 r3 => ⟨b, c, rp_int.mp r2, rp_int.mp r3, decide (b < c), rfl, ?_⟩
      have g13 := g12.trans g3
      by_cases h2 : b < c
      · rw [decide_eq_true h2, if_pos rfl]
        refine he F3 σ H3 (M.grow g13) (E.mono g13.ff) _ fun v4 F4 H4 g4 r4 => ⟨c, e, rp_int.mp r3, rp_int.mp r4, decide (c ≤ e), rfl, ?_⟩
        have q4 := q F4 H4 (g13.trans g4)
        have ee : decide (a < b ∧ b < c ∧ c ≤ e) = decide (c ≤ e) := by simp [h1, h2]
        rw [ee] at q4
        exact q4
      · rw [decide_eq_false h2, if_neg Bool.false_ne_true]
        have q4 := q F3 H3 g13
        rw [decide_eq_false (fun z => h2 z.2.1)] at q4
        exact ⟨false, rfl, q4⟩
    · rw [decide_eq_false h1, if_neg Bool.false_ne_true]
      have q4 := q F2 H2 g12
      rw [decide_eq_false (fun z => h1 z.1)] at q4
      exact ⟨false, rfl, q4⟩

/-! ### a pure def's promise -/
/-- the arguments bear data ds; the answer bears some d with R ds d; nothing that stood changes -/
def SpD (R : List Dt → Dt → Prop) : Sp := fun vs H Q _ => ∃ F ds d, Same F H ∧ RpL F ds vs ∧ R ds d ∧ ∀ v F' H', Gr H F F' H' → Rp F' d v → Q v H'
theorem ev_call {R : List Dt → Dt → Prop} {tr : TA} {E : XK} (ha : EvA tr env mus ds) (h : R ds d) : EvD (tCall (SpD R) [] E tr) env mus d := fun F σ H M E Q q =>
  ha F σ H M E _ fun vs F1 H1 g1 r1 => ⟨F1, ds, d, g1.fh, by rw [List.append_nil]; exact r1, h, fun v F2 H2 g2 r2 => q v F2 H2 (g1.trans g2) r2⟩
end
end KB
namespace KB
open PySem PySem.Spec PyProof.Rows L2

/-! ### what is walked -/
structure ItOk (J : It) (mus0 : Mu) (ds : List Dt) (F1 : Hp) : Prop where
  goes : ∀ i F2 H2, i < ds.length → Same F1 F2 → MS mus0 F2 H2 → J.go i H2
  stops : ∀ F2 H2, Same F1 F2 → MS mus0 F2 H2 → J.stop ds.length H2
  yields : ∀ i d F2 H2 x H3, ds[i]? = some d → Same F1 F2 → MS mus0 F2 H2 → J.yld i H2 x H3 → ∃ F3, Gr H2 F2 F3 H3 ∧ Rp F3 d x
def ItL (wi : TI) (env : Env_) (mus mus0 : Mu) (ds : List Dt) : Prop := ∀ F σ H, MS mus F H → ES env F σ → ∀ R : It → Hp → Prop, (∀ J F1 H1, Gr H F F1 H1 → ItOk J mus0 ds F1 → R J H1) → wi σ H R
theorem getlt {α : Type} {l : List α} {i : Nat} {x : α} (h : l[i]? = some x) : i < l.length := (List.getElem?_eq_some_iff.mp h).1
section
variable {env : Env_} {mus : Mu} {tl : TE} {ta : TA} {K : PySem.W.Frag} {ds es : List Dt}
theorem it_list (h : EvD tl env mus (.lst ds)) : ItL (iList K tl) env mus [] ds := fun F σ H M E R q =>
  h F σ H M E _ fun v F1 H1 g1 r1 => by
    obtain ⟨a, xs, rfl, ha, hx⟩ := rp_lst.mp r1
    refine ⟨a, rfl, ⟨xs, SqL.of (g1.fh _ _ ha)⟩, q _ F1 H1 g1 ⟨fun i F2 H2 hi s m => ?_, fun F2 H2 s m => ?_, fun i d F2 H2 x H3 hd s m y => ?_⟩⟩
    · have hi' : i < xs.length := by rw [← hx.length]; exact hi
      exact ⟨xs, xs[i], SqL.of (m.fh _ _ (s _ _ ha)), List.getElem?_eq_getElem hi'⟩
    · exact ⟨xs, SqL.of (m.fh _ _ (s _ _ ha)), by rw [hx.length]; exact Nat.le_refl _⟩
    · obtain ⟨rfl, y2⟩ := y
      obtain ⟨x', e1, e2⟩ := (hx.mono s).get hd
      have e3 := y2 xs (SqL.of (m.fh _ _ (s _ _ ha)))
      rw [e1] at e3
      cases e3
      exact ⟨F2, Gr.refl m.fh, e2⟩
theorem it_listM {p : Addr} (hm : (p, MO.lst ds) ∈ mus) (h : EvD tl env mus (.ptr p)) : ItL (iList K tl) env mus [(p, .lst ds)] ds := fun F σ H M E R q =>
  h F σ H M E _ fun v F1 H1 g1 r1 => by
    obtain ⟨_, o, e1, xs0, rfl, hx0⟩ := (M.grow g1).mu _ hm
    refine ⟨p, rp_ptr.mp r1, ⟨xs0, SqL.of e1⟩, q _ F1 H1 g1 ⟨fun i F2 H2 hi s m => ?_, fun F2 H2 s m => ?_, fun i d F2 H2 x H3 hd s m y => ?_⟩⟩
    · obtain ⟨_, o, e1, xs, rfl, hx⟩ := m.mu _ (List.mem_singleton.mpr rfl)
      have hi' : i < xs.length := by rw [← hx.length]; exact hi
      exact ⟨xs, xs[i], SqL.of e1, List.getElem?_eq_getElem hi'⟩
    · obtain ⟨_, o, e1, xs, rfl, hx⟩ := m.mu _ (List.mem_singleton.mpr rfl)
      exact ⟨xs, SqL.of e1, by rw [hx.length]; exact Nat.le_refl _⟩
    · obtain ⟨_, o, e1, xs, rfl, hx⟩ := m.mu _ (List.mem_singleton.mpr rfl)
      obtain ⟨rfl, y2⟩ := y
      obtain ⟨x', e2, e3⟩ := hx.get hd
      have e4 := y2 xs (SqL.of e1)
      rw [e2] at e4
      cases e4
      exact ⟨F2, Gr.refl m.fh, e3⟩
theorem it_tup (h : EvD tl env mus (.tup ds)) : ItL (iTup K tl) env mus [] ds := fun F σ H M E R q =>
  h F σ H M E _ fun v F1 H1 g1 r1 => by
    obtain ⟨a, xs, rfl, ha, hx⟩ := rp_tup.mp r1
    refine ⟨a, rfl, ⟨xs, SqT.of (g1.fh _ _ ha)⟩, q _ F1 H1 g1 ⟨fun i F2 H2 hi s m => ?_, fun F2 H2 s m => ?_, fun i d F2 H2 x H3 hd s m y => ?_⟩⟩
    · have hi' : i < xs.length := by rw [← hx.length]; exact hi
      exact ⟨xs, xs[i], SqT.of (m.fh _ _ (s _ _ ha)), List.getElem?_eq_getElem hi'⟩
    · exact ⟨xs, SqT.of (m.fh _ _ (s _ _ ha)), by rw [hx.length]; exact Nat.le_refl _⟩
    · obtain ⟨rfl, y2⟩ := y
      obtain ⟨x', e1, e2⟩ := (hx.mono s).get hd
      have e3 := y2 xs (SqT.of (m.fh _ _ (s _ _ ha)))
      rw [e1] at e3
      cases e3
      exact ⟨F2, Gr.refl m.fh, e2⟩
/-- the ints lo, lo + 1, .. (n of them) -/
def rgD (lo : Int) (n : Nat) : List Dt := (List.range n).map fun i => .int (lo + (i : Nat))
theorem rgD_len {lo : Int} {n : Nat} : (rgD lo n).length = n := by unfold rgD; rw [List.length_map, List.length_range]
theorem rgD_get {lo : Int} {n i : Nat} {d : Dt} (h : (rgD lo n)[i]? = some d) : d = .int (lo + (i : Nat)) ∧ i < n := by
  have hi := getlt h
  rw [rgD_len] at hi
  unfold rgD at h
  rw [List.getElem?_map, List.getElem?_range hi] at h
  exact ⟨(Option.some.inj h).symm, hi⟩
theorem itr_ok {lo : Int} {n : Nat} {F : Hp} : ItOk (Itr lo n) [] (rgD lo n) F :=
  ⟨fun i F2 H2 hi _ _ => by rw [rgD_len] at hi; exact hi, fun F2 H2 _ _ => by rw [rgD_len]; exact Nat.le_refl _, fun i d F2 H2 x H3 hd s m y => by
    obtain ⟨rfl, rfl⟩ := y
    rw [(rgD_get hd).1]
    exact ⟨F2, Gr.refl m.fh, rp_int.mpr rfl⟩⟩
theorem it_range1 {n : Int} (h : EvA ta env mus [.int n]) (h1 : -(2 ^ 62) ≤ n) (h2 : n < 2 ^ 62) : ItL (iRng1 ta) env mus [] (rgD 0 n.toNat) := fun F σ H M E R q =>
  h F σ H M E _ fun vs F1 H1 g1 r1 => by
    obtain ⟨x, rfl, hx⟩ := one_of r1
    rw [rp_int.mp hx]
    exact ⟨n, rfl, h1, h2, q _ F1 H1 g1 itr_ok⟩
theorem it_range2 {a b : Int} (h : EvA ta env mus [.int a, .int b]) (h1 : -(2 ^ 62) ≤ a) (h2 : a < 2 ^ 62) (h3 : -(2 ^ 62) ≤ b) (h4 : b < 2 ^ 62) : ItL (iRng2 ta) env mus [] (rgD a (b - a).toNat) := fun F σ H M E R q =>
  h F σ H M E _ fun vs F1 H1 g1 r1 => by
    obtain ⟨x, y, rfl, hx, hy⟩ := two_of r1
    rw [rp_int.mp hx, rp_int.mp hy]
    exact ⟨a, b, rfl, ⟨h1, h2, h3, h4⟩, q _ F1 H1 g1 itr_ok⟩
/-- a new pair -/
theorem yld_pair {F2 H2 H3 : Hp} {T : Addr} {x y : V} {d e : Dt} (s : Same F2 H2) (hT : H2 T = none) (he : H3 = upd H2 T (.tup [x, y])) (hx : Rp F2 d x) (hy : Rp F2 e y) : ∃ F3, Gr H2 F2 F3 H3 ∧ Rp F3 (.tup [d, e]) (.ref T) := by
  subst he
  exact ⟨upd F2 T (.tup [x, y]), Gr.new s hT, rp_tup.mpr ⟨T, _, rfl, upd_same, .cons (hx.mono (same_new (s.free hT))) (.cons (hy.mono (same_new (s.free hT))) .nil)⟩⟩
/-- i with the i-th -/
def enD (ds : List Dt) : List Dt := ds.mapIdx fun i d => .tup [.int (i : Nat), d]
theorem enD_len : (enD ds).length = ds.length := by unfold enD; rw [List.length_mapIdx]
theorem enD_get {i : Nat} {d : Dt} (h : (enD ds)[i]? = some d) : ∃ d0, ds[i]? = some d0 ∧ d = .tup [.int (i : Nat), d0] := by
  unfold enD at h
  rw [List.getElem?_mapIdx] at h
  obtain ⟨d0, h1, h2⟩ := Option.map_eq_some_iff.mp h
  exact ⟨d0, h1, h2.symm⟩
theorem it_enumL (h : EvA ta env mus [.lst ds]) : ItL (iEnum K ta) env mus [] (enD ds) := fun F σ H M E R q =>
  h F σ H M E _ fun vs F1 H1 g1 r1 => by
    obtain ⟨x, rfl, hx0⟩ := one_of r1
    obtain ⟨a, xs, rfl, ha, hx⟩ := rp_lst.mp hx0
    refine ⟨a, xs, rfl, SqL.of (g1.fh _ _ ha), q _ F1 H1 g1 ⟨fun i F2 H2 hi s m => ?_, fun F2 H2 s m => ?_, fun i d F2 H2 x H3 hd s m y => ?_⟩⟩
    · have hi' : i < xs.length := by rw [← hx.length, ← enD_len]; exact hi
      exact ⟨xs, xs[i], SqL.of (m.fh _ _ (s _ _ ha)), List.getElem?_eq_getElem hi'⟩
    · exact ⟨xs, SqL.of (m.fh _ _ (s _ _ ha)), by rw [enD_len, hx.length]; exact Nat.le_refl _⟩
    · obtain ⟨T, x', rfl, hT, he, y2⟩ := y
      obtain ⟨d0, e0, rfl⟩ := enD_get hd
      obtain ⟨x2, e1, e2⟩ := (hx.mono s).get e0
      have e3 := y2 xs (SqL.of (m.fh _ _ (s _ _ ha)))
      rw [e1] at e3
      cases e3
      exact yld_pair m.fh hT he (rp_int.mpr rfl) e2
theorem it_enumM {p : Addr} (hm : (p, MO.lst ds) ∈ mus) (h : EvA ta env mus [.ptr p]) : ItL (iEnum K ta) env mus [(p, .lst ds)] (enD ds) := fun F σ H M E R q =>
  h F σ H M E _ fun vs F1 H1 g1 r1 => by
    obtain ⟨x, rfl, hx0⟩ := one_of r1
    rw [rp_ptr.mp hx0]
    obtain ⟨_, o, e1, xs0, rfl, hx0⟩ := (M.grow g1).mu _ hm
    refine ⟨p, xs0, rfl, SqL.of e1, q _ F1 H1 g1 ⟨fun i F2 H2 hi s m => ?_, fun F2 H2 s m => ?_, fun i d F2 H2 x H3 hd s m y => ?_⟩⟩
    · obtain ⟨_, o, e1, xs, rfl, hx⟩ := m.mu _ (List.mem_singleton.mpr rfl)
      have hi' : i < xs.length := by rw [← hx.length, ← enD_len]; exact hi
      exact ⟨xs, xs[i], SqL.of e1, List.getElem?_eq_getElem hi'⟩
    · obtain ⟨_, o, e1, xs, rfl, hx⟩ := m.mu _ (List.mem_singleton.mpr rfl)
      exact ⟨xs, SqL.of e1, by rw [enD_len, hx.length]; exact Nat.le_refl _⟩
    · obtain ⟨_, o, e1, xs, rfl, hx⟩ := m.mu _ (List.mem_singleton.mpr rfl)
      obtain ⟨T, x', rfl, hT, he, y2⟩ := y
      obtain ⟨d0, e0, rfl⟩ := enD_get hd
      obtain ⟨x2, e2, e3⟩ := hx.get e0
      have e4 := y2 xs (SqL.of e1)
      rw [e2] at e4
      cases e4
      exact yld_pair m.fh hT he (rp_int.mpr rfl) e3
theorem it_enumT (h : EvA ta env mus [.tup ds]) : ItL (iEnumT K ta) env mus [] (enD ds) := fun F σ H M E R q =>
  h F σ H M E _ fun vs F1 H1 g1 r1 => by
    obtain ⟨x, rfl, hx0⟩ := one_of r1
    obtain ⟨a, xs, rfl, ha, hx⟩ := rp_tup.mp hx0
    refine ⟨a, xs, rfl, SqT.of (g1.fh _ _ ha), q _ F1 H1 g1 ⟨fun i F2 H2 hi s m => ?_, fun F2 H2 s m => ?_, fun i d F2 H2 x H3 hd s m y => ?_⟩⟩
    · have hi' : i < xs.length := by rw [← hx.length, ← enD_len]; exact hi
      exact ⟨xs, xs[i], SqT.of (m.fh _ _ (s _ _ ha)), List.getElem?_eq_getElem hi'⟩
    · exact ⟨xs, SqT.of (m.fh _ _ (s _ _ ha)), by rw [enD_len, hx.length]; exact Nat.le_refl _⟩
    · obtain ⟨T, x', rfl, hT, he, y2⟩ := y
      obtain ⟨d0, e0, rfl⟩ := enD_get hd
      obtain ⟨x2, e1, e2⟩ := (hx.mono s).get e0
      have e3 := y2 xs (SqT.of (m.fh _ _ (s _ _ ha)))
      rw [e1] at e3
      cases e3
      exact yld_pair m.fh hT he (rp_int.mpr rfl) e2
def zpD (ds es : List Dt) : List Dt := List.zipWith (fun a b => .tup [a, b]) ds es
theorem zpD_len : (zpD ds es).length = min ds.length es.length := by unfold zpD; rw [List.length_zipWith]
theorem zpD_get {i : Nat} {d : Dt} (h : (zpD ds es)[i]? = some d) : ∃ a b, ds[i]? = some a ∧ es[i]? = some b ∧ d = .tup [a, b] := by
  unfold zpD at h
  rw [List.getElem?_zipWith] at h
  cases h1 : ds[i]? with
  | none => rw [h1] at h; cases h
  | some a =>
    cases h2 : es[i]? with
    | none => rw [h1, h2] at h; cases h
    | some b =>
      rw [h1, h2] at h
      exact ⟨a, b, rfl, rfl, (Option.some.inj h).symm⟩
theorem it_zipL (h : EvA ta env mus [.lst ds, .lst es]) : ItL (iZip K ta) env mus [] (zpD ds es) := fun F σ H M E R q =>
  h F σ H M E _ fun vs F1 H1 g1 r1 => by
    obtain ⟨x, y, rfl, hx0, hy0⟩ := two_of r1
    obtain ⟨a, xs, rfl, ha, hx⟩ := rp_lst.mp hx0
    obtain ⟨b, ys, rfl, hb, hy⟩ := rp_lst.mp hy0
    refine ⟨a, b, xs, ys, rfl, SqL.of (g1.fh _ _ ha), SqL.of (g1.fh _ _ hb), q _ F1 H1 g1 ⟨fun i F2 H2 hi s m => ?_, fun F2 H2 s m => ?_, fun i d F2 H2 x H3 hd s m y => ?_⟩⟩
    · rw [zpD_len] at hi
      have hi' : i < xs.length := by rw [← hx.length]; omega
      have hi2 : i < ys.length := by rw [← hy.length]; omega
      exact ⟨xs, ys, xs[i], ys[i], SqL.of (m.fh _ _ (s _ _ ha)), SqL.of (m.fh _ _ (s _ _ hb)), List.getElem?_eq_getElem hi', List.getElem?_eq_getElem hi2⟩
    · refine ⟨xs, ys, SqL.of (m.fh _ _ (s _ _ ha)), SqL.of (m.fh _ _ (s _ _ hb)), ?_⟩
      rw [zpD_len, hx.length, hy.length]
      omega
    · obtain ⟨T, x1, y1, rfl, hT, he, fx, fy⟩ := y
      obtain ⟨d1, d2, e1, e2, rfl⟩ := zpD_get hd
      obtain ⟨x2, e3, e4⟩ := (hx.mono s).get e1
      obtain ⟨y2, e5, e6⟩ := (hy.mono s).get e2
      have e7 := fx xs (SqL.of (m.fh _ _ (s _ _ ha)))
      have e8 := fy ys (SqL.of (m.fh _ _ (s _ _ hb)))
      rw [e3] at e7
      rw [e5] at e8
      cases e7
      cases e8
      exact yld_pair m.fh hT he e4 e6
theorem it_zipAL (h : EvA ta env mus [.lst ds, .lst es]) : ItL (RZ.iZipA K ta) env mus [] (zpD ds es) := fun F σ H M E R q =>
  h F σ H M E _ fun vs F1 H1 g1 r1 => by
    obtain ⟨x, y, rfl, hx0, hy0⟩ := two_of r1
    obtain ⟨a, xs, rfl, ha, hx⟩ := rp_lst.mp hx0
    obtain ⟨b, ys, rfl, hb, hy⟩ := rp_lst.mp hy0
    refine ⟨a, b, xs, ys, rfl, .inl ⟨SqL.of (g1.fh _ _ ha), SqL.of (g1.fh _ _ hb), q _ F1 H1 g1 ⟨fun i F2 H2 hi s m => ?_, fun F2 H2 s m => ?_, fun i d F2 H2 x H3 hd s m y => ?_⟩⟩⟩
    · rw [zpD_len] at hi
      have hi' : i < xs.length := by rw [← hx.length]; omega
      have hi2 : i < ys.length := by rw [← hy.length]; omega
      exact ⟨xs, ys, xs[i], ys[i], SqL.of (m.fh _ _ (s _ _ ha)), SqL.of (m.fh _ _ (s _ _ hb)), List.getElem?_eq_getElem hi', List.getElem?_eq_getElem hi2⟩
    · refine ⟨xs, ys, SqL.of (m.fh _ _ (s _ _ ha)), SqL.of (m.fh _ _ (s _ _ hb)), ?_⟩
      rw [zpD_len, hx.length, hy.length]
      omega
    · obtain ⟨T, x1, y1, rfl, hT, he, fx, fy⟩ := y
      obtain ⟨d1, d2, e1, e2, rfl⟩ := zpD_get hd
      obtain ⟨x2, e3, e4⟩ := (hx.mono s).get e1
      obtain ⟨y2, e5, e6⟩ := (hy.mono s).get e2
      have e7 := fx xs (SqL.of (m.fh _ _ (s _ _ ha)))
      have e8 := fy ys (SqL.of (m.fh _ _ (s _ _ hb)))
      rw [e3] at e7
      rw [e5] at e8
      cases e7
      cases e8
      exact yld_pair m.fh hT he e4 e6
theorem it_zipAT (h : EvA ta env mus [.tup ds, .tup es]) : ItL (RZ.iZipA K ta) env mus [] (zpD ds es) := fun F σ H M E R q =>
  h F σ H M E _ fun vs F1 H1 g1 r1 => by
    obtain ⟨x, y, rfl, hx0, hy0⟩ := two_of r1
    obtain ⟨a, xs, rfl, ha, hx⟩ := rp_tup.mp hx0
    obtain ⟨b, ys, rfl, hb, hy⟩ := rp_tup.mp hy0
    refine ⟨a, b, xs, ys, rfl, .inr ⟨SqT.of (g1.fh _ _ ha), SqT.of (g1.fh _ _ hb), q _ F1 H1 g1 ⟨fun i F2 H2 hi s m => ?_, fun F2 H2 s m => ?_, fun i d F2 H2 x H3 hd s m y => ?_⟩⟩⟩
    · rw [zpD_len] at hi
      have hi' : i < xs.length := by rw [← hx.length]; omega
      have hi2 : i < ys.length := by rw [← hy.length]; omega
      exact ⟨xs, ys, xs[i], ys[i], SqT.of (m.fh _ _ (s _ _ ha)), SqT.of (m.fh _ _ (s _ _ hb)), List.getElem?_eq_getElem hi', List.getElem?_eq_getElem hi2⟩
    · refine ⟨xs, ys, SqT.of (m.fh _ _ (s _ _ ha)), SqT.of (m.fh _ _ (s _ _ hb)), ?_⟩
      rw [zpD_len, hx.length, hy.length]
      omega
    · obtain ⟨T, x1, y1, rfl, hT, he, fx, fy⟩ := y
      obtain ⟨d1, d2, e1, e2, rfl⟩ := zpD_get hd
      obtain ⟨x2, e3, e4⟩ := (hx.mono s).get e1
      obtain ⟨y2, e5, e6⟩ := (hy.mono s).get e2
      have e7 := fx xs (SqT.of (m.fh _ _ (s _ _ ha)))
      have e8 := fy ys (SqT.of (m.fh _ _ (s _ _ hb)))
      rw [e3] at e7
      rw [e5] at e8
      cases e7
      cases e8
      exact yld_pair m.fh hT he e4 e6
end

/-! ### targets -/
def GD (g : TG) (env : Env_) (is : List Nat) (d : Dt) (env' : Env_) : Prop := ∀ F σ H v, Same F H → ES env F σ → Rp F d v → ∀ Q : L2.St → Hp → Prop, (∀ σ', ES env' F σ' → σ'.length = σ.length → (∀ k : Nat, k ∉ is → σ'[k]? = σ[k]?) → Q σ' H) → g v σ H Q
section
variable {env : Env_} {K : PySem.W.Frag} {d d1 d2 d3 : Dt} {i j k : Nat}
theorem gd_name : GD (gName i) env [i] d (env.set i (some d)) := fun F σ H v s E r Q q =>
  q _ (E.set r) (List.length_set ..) fun k hk => List.getElem?_set_ne (fun e => hk (by rw [e]; exact List.mem_singleton.mpr rfl))
theorem gd_tup2 : GD (gTup K 2 (gCons (gName i) (gCons (gName j) gNil))) env [i, j] (.tup [d1, d2]) ((env.set i (some d1)).set j (some d2)) := fun F σ H v s E r Q q => by
  obtain ⟨a, xs, rfl, ha, hx⟩ := rp_tup.mp r
  obtain ⟨x, y, rfl, hx1, hy1⟩ := two_of hx
  refine ⟨a, _, rfl, SqT.of (s _ _ ha), rfl, x, [y], rfl, y, [], rfl, rfl, q _ ((E.set hx1).set hy1) (by rw [List.length_set, List.length_set]) fun k hk => ?_⟩
  rw [List.getElem?_set_ne (fun e => hk (by rw [e]; simp)), List.getElem?_set_ne (fun e => hk (by rw [e]; simp))]
theorem gd_tup3 : GD (gTup K 3 (gCons (gName i) (gCons (gName j) (gCons (gName k) gNil)))) env [i, j, k] (.tup [d1, d2, d3]) (((env.set i (some d1)).set j (some d2)).set k (some d3)) := fun F σ H v s E r Q q => by
  obtain ⟨a, xs, rfl, ha, hx⟩ := rp_tup.mp r
  obtain ⟨x, r1, rfl, hx1, t1⟩ := hx.inv
  obtain ⟨y, z, rfl, hy1, hz1⟩ := two_of t1
  refine ⟨a, _, rfl, SqT.of (s _ _ ha), rfl, x, [y, z], rfl, y, [z], rfl, z, [], rfl, rfl, q _ (((E.set hx1).set hy1).set hz1) (by rw [List.length_set, List.length_set, List.length_set]) fun k' hk => ?_⟩
  rw [List.getElem?_set_ne (fun e => hk (by rw [e]; simp)), List.getElem?_set_ne (fun e => hk (by rw [e]; simp)), List.getElem?_set_ne (fun e => hk (by rw [e]; simp))]
end

/-! ### comprehensions -/
def wipeE (env : Env_) : List Nat → Env_
  | [] => env
  | v :: vs => (wipeE env vs).set v none
theorem ES.wipe {env : Env_} {F : Hp} {σ : L2.St} (h : ES env F σ) : ∀ vs : List Nat, ES (wipeE env vs) F (L2.wipe σ vs)
  | [] => h
  | v :: vs => (ES.wipe h vs).setN
theorem wipe_in {σ : L2.St} {k : Nat} : ∀ {vs : List Nat}, k ∈ vs → (L2.wipe σ vs)[k]? = if k < σ.length then some none else none
  | [], h => by cases h
  | v :: vs, h => by
    show ((L2.wipe σ vs).set v none)[k]? = _
    by_cases e : v = k
    · subst e
      by_cases hl : v < σ.length
      · rw [List.getElem?_set_self (by rw [wipe_length]; exact hl), if_pos hl]
      · rw [List.getElem?_eq_none (by rw [List.length_set, wipe_length]; omega), if_neg hl]
    · rw [List.getElem?_set_ne e]
      rcases List.mem_cons.mp h with z | z
      · exact absurd z.symm e
      · exact wipe_in z
theorem wipe_eq {σ σ' : L2.St} {vs : List Nat} (hl : σ.length = σ'.length) (h : ∀ k : Nat, k ∉ vs → σ[k]? = σ'[k]?) : L2.wipe σ vs = L2.wipe σ' vs := by
  apply List.ext_getElem?
  intro k
  by_cases hk : k ∈ vs
  · rw [wipe_in hk, wipe_in hk, hl]
  · rw [wipe_out hk, wipe_out hk, h k hk]
theorem MS.sub {mus mus0 : Mu} {F H : Hp} (h : MS mus F H) (hs : ∀ m ∈ mus0, m ∈ mus) (hn : (mus0.map (·.1)).Nodup) : MS mus0 F H := ⟨h.fh, fun m hm => h.mu m (hs m hm), hn⟩
section
variable {env : Env_} {mus mus0 : Mu} {K : PySem.W.Frag} {wi : TI} {g : TG} {tt : TT} {te : TE} {vs is : List Nat} {ds : List Dt}
theorem en_lc (hw : ItL wi env mus mus0 ds) (hm0 : ∀ m ∈ mus0, m ∈ mus) (hn0 : (mus0.map (·.1)).Nodup) (his : ∀ k ∈ is, k ∈ vs) (rs : Nat → List Dt)
    (ht : ∀ i d, ds[i]? = some d → ∃ e', GD g (wipeE env vs) is d e' ∧ ∃ b, EvT tt e' mus b ∧ (b = true → ∃ r, EvD te e' mus r ∧ rs i = [r]) ∧ (b = false → rs i = [])) (hn : ds.length ≤ 100000) :
    EvN (tLc wi g tt te vs) env mus ((List.range ds.length).flatMap rs) := fun F σ H M E Q q =>
  hw F σ H M E _ fun J F1 H1 g1 ok D hD => by
    refine ⟨fun i m H' => m = ds.length - i ∧ i ≤ ds.length ∧ ∃ F' acc, Gr H1 F1 F' H' ∧ F' D = none ∧ H' D = some (.lst acc) ∧ acc.length ≤ i ∧ RpL F' ((List.range i).flatMap rs) acc,
      ⟨ds.length, rfl, Nat.zero_le _, F1, [], Gr.newM g1.fh hD, g1.fh.free hD, upd_same, Nat.le_refl _, by rw [List.range_zero, List.flatMap_nil]; exact .nil⟩, ?_⟩
    rintro i m H' ⟨rfl, hi, F', acc, g2, nD, eD, hlen, hr⟩
    have MS1 : MS mus F' H' := (M.grow g1).grow g2
    have MS0 := MS1.sub hm0 hn0
    by_cases hlt : i < ds.length
    · have hd : ds[i]? = some ds[i] := List.getElem?_eq_getElem hlt
      refine .inr ⟨ok.goes i F' H' hlt g2.ff MS0, fun H' => ∃ F' acc, Gr H1 F1 F' H' ∧ F' D = none ∧ H' D = some (.lst acc) ∧ acc.length ≤ i + 1 ∧ RpL F' ((List.range (i + 1)).flatMap rs) acc, fun H2 h2 => ⟨ds.length - (i + 1), by omega, rfl, hlt, h2⟩, fun x H2 y => ?_⟩
      obtain ⟨F3, g3, r3⟩ := ok.yields i _ F' H' x H2 hd g2.ff MS0 y
      obtain ⟨e', gd, b, et, hb1, hb2⟩ := ht i _ hd
      have E3 : ES env F3 σ := (E.mono g1.ff).mono (g2.ff.trans g3.ff)
      refine gd F3 _ H2 x g3.fh (E3.wipe vs) r3 _ fun σ2 E2 hl2 hk => ⟨wipe_eq (by rw [hl2, wipe_length]) fun k hkv => ?_, ?_⟩
      · rw [hk k (fun z => hkv (his k z)), wipe_out hkv]
      · have MS3 : MS mus F3 H2 := MS1.grow g3
        refine et F3 σ2 H2 MS3 E2 _ fun F4 H4 g4 => ?_
        have g24 : Gr H1 F1 F4 H4 := (g2.trans g3).trans g4
        have nD3 : F3 D = none := (g3.fr D _ eD (fun _ z => nomatch z)).trans nD
        have eD3 := g3.bh _ _ eD
        have nD4 : F4 D = none := (g4.fr D _ eD3 (fun _ z => nomatch z)).trans nD3
        have eD4 := g4.bh _ _ eD3
        cases b with
        | false =>
          show ∃ F' acc, _
          refine ⟨F4, acc, g24, nD4, eD4, by omega, ?_⟩
          rw [List.range_succ, List.flatMap_append, List.flatMap_singleton, hb2 rfl, List.append_nil]
          exact hr.mono (g3.ff.trans g4.ff)
        | true =>
          obtain ⟨r, er, ers⟩ := hb1 rfl
          show te σ2 H4 _
          refine er F4 σ2 H4 (MS3.grow g4) (E2.mono g4.ff) _ fun v F5 H5 g5 r5 => ?_
          have nD5 : F5 D = none := (g5.fr D _ eD4 (fun _ z => nomatch z)).trans nD4
          have eD5 := g5.bh _ _ eD4
          have g25 : Gr H1 F1 F5 H5 := g24.trans g5
          refine ⟨acc, eD5, sz_lt (by omega), F5, acc ++ [v], ⟨g25.ff, fun a o e => ?_, fun a o e => ?_, g25.fr⟩, nD5, upd_same, by rw [List.length_append, List.length_singleton]; omega, ?_⟩
          · rw [upd_ne (ne_of_none e nD5)]
            exact g25.fh a o e
          · rw [upd_ne (ne_of_none e hD)]
            exact g25.bh a o e
          · rw [List.range_succ, List.flatMap_append, List.flatMap_singleton, ers]
            exact (hr.mono ((g3.ff.trans g4.ff).trans g5.ff)).append (.cons r5 .nil)
    · have e : i = ds.length := by omega
      subst e
      exact .inl ⟨ok.stops F' H' g2.ff MS0, q D acc F' H' (g1.trans g2) nD (g1.bh.free hD) eD hr⟩
theorem et_yes : EvT tYes env mus true := fun F σ H M E Q q => q F H (Gr.refl M.fh)
theorem flatMap_single {α β : Type} (f : α → β) : ∀ l : List α, l.flatMap (fun a => [f a]) = l.map f
  | [] => rfl
  | a :: r => by rw [List.flatMap_cons, flatMap_single f r]; rfl
/-- no test, by the place -/
theorem en_lcI (hw : ItL wi env mus mus0 ds) (hm0 : ∀ m ∈ mus0, m ∈ mus) (hn0 : (mus0.map (·.1)).Nodup) (his : ∀ k ∈ is, k ∈ vs) (f : Nat → Dt)
    (ht : ∀ i d, ds[i]? = some d → ∃ e', GD g (wipeE env vs) is d e' ∧ EvD te e' mus (f i)) (hn : ds.length ≤ 100000) :
    EvN (tLc wi g tYes te vs) env mus ((List.range ds.length).map f) := by
  have h := en_lc (tt := tYes) hw hm0 hn0 his (fun i => [f i]) (fun i d hd => by
    obtain ⟨e', h1, h2⟩ := ht i d hd
    exact ⟨e', h1, true, et_yes, fun _ => ⟨_, h2, rfl⟩, fun z => nomatch z⟩) hn
  rw [flatMap_single] at h
  exact h
theorem range_map_get {α β : Type} (l : List α) (F : α → β) (f : Nat → β) (h : ∀ i a, l[i]? = some a → f i = F a) : (List.range l.length).map f = l.map F := by
  apply List.ext_getElem?
  intro i
  rw [List.getElem?_map, List.getElem?_map]
  by_cases hi : i < l.length
  · rw [List.getElem?_range hi, List.getElem?_eq_getElem hi]
    show some (f i) = some (F l[i])
    rw [h i _ (List.getElem?_eq_getElem hi)]
  · rw [List.getElem?_eq_none (by rw [List.length_range]; omega), List.getElem?_eq_none (by omega)]
    rfl
/-- no test, over a list of things: each datum G a gives F a -/
theorem en_lcM {α : Type} {l : List α} {G F : α → Dt} (hw : ItL wi env mus mus0 (l.map G)) (hm0 : ∀ m ∈ mus0, m ∈ mus) (hn0 : (mus0.map (·.1)).Nodup) (his : ∀ k ∈ is, k ∈ vs)
    (ht : ∀ (i : Nat) a, l[i]? = some a → ∃ e', GD g (wipeE env vs) is (G a) e' ∧ EvD te e' mus (F a)) (hn : l.length ≤ 100000) :
    EvN (tLc wi g tYes te vs) env mus (l.map F) := by
  have h := en_lcI (te := te) hw hm0 hn0 his (fun i => (l.map F).getD i .non) (fun i d hd => by
    rw [List.getElem?_map] at hd
    obtain ⟨a, h1, rfl⟩ := Option.map_eq_some_iff.mp hd
    obtain ⟨e', h2, h3⟩ := ht i a h1
    refine ⟨e', h2, ?_⟩
    rw [List.getD_eq_getElem?_getD, List.getElem?_map, h1]
    exact h3) (by rw [List.length_map]; exact hn)
  rw [List.length_map, range_map_get l F _ (fun i a e => by rw [List.getD_eq_getElem?_getD, List.getElem?_map, e]; rfl)] at h
  exact h
theorem filt_flat {α β : Type} (p : α → Bool) (F : α → β) (l : List α) (rs : Nat → List β) (h : ∀ i a, l[i]? = some a → rs i = if p a then [F a] else []) : (List.range l.length).flatMap rs = (l.filter p).map F := by
  have e : (List.range l.length).flatMap rs = l.flatMap fun a => if p a then [F a] else [] := by
    rw [List.flatMap_def, List.flatMap_def, range_map_get l (fun a => if p a then [F a] else []) rs h]
  rw [e]
  clear e h
  induction l with
  | nil => rfl
  | cons a r ih =>
    rw [List.flatMap_cons, ih]
    cases hp : p a with
    | true => rw [List.filter_cons_of_pos hp]; rfl
    | false => rw [List.filter_cons_of_neg (by rw [hp]; exact Bool.false_ne_true)]; rfl
/-- with a test -/
theorem en_lcF {α : Type} {l : List α} {G F : α → Dt} (p : α → Bool) (hw : ItL wi env mus mus0 (l.map G)) (hm0 : ∀ m ∈ mus0, m ∈ mus) (hn0 : (mus0.map (·.1)).Nodup) (his : ∀ k ∈ is, k ∈ vs)
    (ht : ∀ (i : Nat) a, l[i]? = some a → ∃ e', GD g (wipeE env vs) is (G a) e' ∧ EvT tt e' mus (p a) ∧ (p a = true → EvD te e' mus (F a))) (hn : l.length ≤ 100000) :
    EvN (tLc wi g tt te vs) env mus ((l.filter p).map F) := by
  have h := en_lc (tt := tt) (te := te) hw hm0 hn0 his (fun i => match l[i]? with | some a => if p a then [F a] else [] | none => []) (fun i d hd => by
    rw [List.getElem?_map] at hd
    obtain ⟨a, h1, rfl⟩ := Option.map_eq_some_iff.mp hd
    obtain ⟨e', h2, h3, h4⟩ := ht i a h1
    refine ⟨e', h2, p a, h3, fun e => ⟨_, h4 e, ?_⟩, fun e => ?_⟩
    · simp only [h1, e, if_true]
    · simp only [h1, e, Bool.false_eq_true, if_false]) (by rw [List.length_map]; exact hn)
  rw [List.length_map, filt_flat p F l _ (fun i a e => by simp only [e])] at h
  exact h
end
end KB
namespace KB
open PySem PySem.Spec PyProof.Rows L2

/-! ### statements: the state by data -/
structure Gx (B F0 X F H : Hp) : Prop extends Gr B F0 F H where
  xf : Same X F
theorem Gx.trans {B F0 X F H F1 H1 : Hp} (a : Gx B F0 X F H) (b : Gr H F F1 H1) : Gx B F0 X F1 H1 := ⟨a.toGr.trans b, a.xf.trans b.ff⟩
/-- B is kept, F0 is where the footprint began, X is in it -/
def AS (B F0 X : Hp) (env : Env_) (mus : Mu) (σ : L2.St) (H : Hp) : Prop := ∃ F, Gx B F0 X F H ∧ MS mus F H ∧ ES env F σ ∧ ∀ m ∈ mus, B m.1 = none
def Tr (B F0 X : Hp) (env : Env_) (mus : Mu) (T : L2.St → Hp → Prop) : Prop := ∀ σ H, AS B F0 X env mus σ H → T σ H
def asr (B F0 X : Hp) (P : Env_ → Mu → Prop) (σ : L2.St) (H : Hp) : Prop := ∃ e m, P e m ∧ AS B F0 X e m σ H
theorem tr_asr {B F0 X : Hp} {env : Env_} {mus : Mu} {P : Env_ → Mu → Prop} (h : P env mus) : Tr B F0 X env mus (asr B F0 X P) := fun σ H a => ⟨env, mus, h, a⟩
theorem MS.set {mus : Mu} {F H : Hp} {j : Nat} {p : Addr} {m m' : MO} {o : HO} (h : MS mus F H) (hj : mus[j]? = some (p, m)) (r : RpM F m' o) : MS (mus.set j (p, m')) F (upd H p o) := by
  have hjl : j < mus.length := getlt hj
  obtain ⟨n1, o1, e1, r1⟩ := h.mu (p, m) (List.mem_of_getElem? hj)
  have hkeys : (mus.set j (p, m')).map (·.1) = mus.map (·.1) := by
    rw [List.map_set]
    apply List.ext_getElem?
    intro k
    by_cases hk : j = k
    · subst hk
      rw [List.getElem?_set_self (by rw [List.length_map]; exact hjl), List.getElem?_map, hj]
      rfl
    · rw [List.getElem?_set_ne hk]
  refine ⟨fun a u e => ?_, fun x hx => ?_, by rw [hkeys]; exact h.nd⟩
  · rw [upd_ne (ne_of_none e n1)]
    exact h.fh a u e
  · obtain ⟨k, hk⟩ := List.mem_iff_getElem?.mp hx
    by_cases hkj : j = k
    · subst hkj
      rw [List.getElem?_set_self hjl] at hk
      cases hk
      exact ⟨n1, o, upd_same, r⟩
    · rw [List.getElem?_set_ne hkj] at hk
      obtain ⟨n2, o2, e2, r2⟩ := h.mu x (List.mem_of_getElem? hk)
      have hne : x.1 ≠ p := fun z => by
        have a1 : (mus.map (·.1))[k]? = some x.1 := by rw [List.getElem?_map, hk]; rfl
        have a2 : (mus.map (·.1))[j]? = some p := by rw [List.getElem?_map, hj]; rfl
        rw [z] at a1
        exact hkj (nd_ix h.nd a2 a1)
      exact ⟨n2, o2, by rw [upd_ne hne]; exact e2, r2⟩
theorem mem_set_key {mus : Mu} {j : Nat} {p : Addr} {m m' : MO} (hj : mus[j]? = some (p, m)) {x : Addr × MO} (hx : x ∈ mus.set j (p, m')) : ∃ y ∈ mus, y.1 = x.1 := by
  obtain ⟨k, hk⟩ := List.mem_iff_getElem?.mp hx
  by_cases hkj : j = k
  · subst hkj
    rw [List.getElem?_set_self (getlt hj)] at hk
    cases hk
    exact ⟨(p, m), List.mem_of_getElem? hj, rfl⟩
  · rw [List.getElem?_set_ne hkj] at hk
    exact ⟨x, List.mem_of_getElem? hk, rfl⟩
theorem MS.cons {mus : Mu} {F H : Hp} {p : Addr} {m : MO} {o : HO} (h : MS mus F H) (hf : F p = none) (hh : H p = some o) (r : RpM F m o) (hn : ∀ x ∈ mus, x.1 ≠ p) : MS ((p, m) :: mus) F H :=
  ⟨h.fh, fun x hx => by
    rcases List.mem_cons.mp hx with z | z
    · subst z
      exact ⟨hf, o, hh, r⟩
    · exact h.mu x z, by
    rw [List.map_cons, List.nodup_cons]
    refine ⟨fun hm => ?_, h.nd⟩
    obtain ⟨x, hx, e⟩ := List.mem_map.mp hm
    exact hn x hx e⟩
section
variable {B F0 X : Hp} {env : Env_} {mus mus0 : Mu} {ta tb te : TE} {tc : TT} {tr : TA} {D : Ends} {ts t1 t2 : TS} {d d1 d2 d3 : Dt} {ds es : List Dt} {i j k : Nat} {K : PySem.W.Frag}
theorem t_seq (h : Tr B F0 X env mus (t1 { D with nx := t2 D })) : Tr B F0 X env mus (tSeq t1 t2 D) := h
theorem t_next (h : Tr B F0 X env mus D.nx) : Tr B F0 X env mus (tNext D) := h
theorem t_break (h : Tr B F0 X env mus D.bk) : Tr B F0 X env mus (tBreak D) := h
theorem t_cont (h : Tr B F0 X env mus D.ct) : Tr B F0 X env mus (tCont D) := h
theorem AS.grow {σ : L2.St} {F H F' H' : Hp} (g0 : Gx B F0 X F H) (M : MS mus F H) (E : ES env F σ) (hB : ∀ m ∈ mus, B m.1 = none) (g : Gr H F F' H') : AS B F0 X env mus σ H' := ⟨F', g0.trans g, M.grow g, E.mono g.ff, hB⟩
theorem t_asg (h : EvD te env mus d) (k : Tr B F0 X (env.set i (some d)) mus D.nx) : Tr B F0 X env mus (tAsg te (gName i) D) := fun σ H a => by
  obtain ⟨F, g0, M, E, hB⟩ := a
  exact h F σ H M E _ fun v F1 H1 g1 r1 => k _ _ ⟨F1, g0.trans g1, M.grow g1, (E.mono g1.ff).set r1, hB⟩
/-- a target of several names -/
theorem t_asgG {g : TG} {is : List Nat} {e' : Env_} (h : EvD te env mus d) (hg : GD g env is d e') (k : Tr B F0 X e' mus D.nx) : Tr B F0 X env mus (tAsg te g D) := fun σ H a => by
  obtain ⟨F, g0, M, E, hB⟩ := a
  exact h F σ H M E _ fun v F1 H1 g1 r1 => hg F1 σ H1 v g1.fh (E.mono g1.ff) r1 _ fun σ' E' _ _ => k _ _ ⟨F1, g0.trans g1, M.grow g1, E', hB⟩
theorem newkey {F H : Hp} {p : Addr} (g0 : Gx B F0 X F H) (M : MS mus F H) (hp : H p = none) : B p = none ∧ ∀ x ∈ mus, x.1 ≠ p :=
  ⟨g0.bh.free hp, fun x hx z => by
    obtain ⟨_, o, e, _⟩ := M.mu x hx
    rw [z, hp] at e
    cases e⟩
/-- a new list that the def will change -/
theorem t_asgN (h : EvN te env mus ds) (k : ∀ p, Tr B F0 X (env.set i (some (.ptr p))) ((p, .lst ds) :: mus) D.nx) : Tr B F0 X env mus (tAsg te (gName i) D) := fun σ H a => by
  obtain ⟨F, g0, M, E, hB⟩ := a
  refine h F σ H M E _ fun p xs F1 H1 g1 n1 n0 e1 r1 => ?_
  obtain ⟨b0, hne⟩ := newkey g0 M n0
  refine k p _ _ ⟨F1, g0.trans g1, (M.grow g1).cons (m := .lst ds) n1 e1 ⟨xs, rfl, r1⟩ hne, (E.mono g1.ff).set (rp_ptr.mpr rfl), fun m hm => ?_⟩
  rcases List.mem_cons.mp hm with z | z
  · rw [z]; exact b0
  · exact hB m z
theorem t_parDD (h1 : EvD ta env mus d1) (h2 : EvD tb env mus d2) (k : Tr B F0 X ((env.set i (some d1)).set j (some d2)) mus D.nx) : Tr B F0 X env mus (tPar i j (tCons ta (tCons tb tNil)) D) := fun σ H a => by
  obtain ⟨F, g0, M, E, hB⟩ := a
  exact h1 F σ H M E _ fun v F1 H1 g1 r1 => h2 F1 σ H1 (M.grow g1) (E.mono g1.ff) _ fun w F2 H2 g2 r2 =>
    ⟨v, w, rfl, k _ _ ⟨F2, (g0.trans g1).trans g2, (M.grow g1).grow g2, (((E.mono g1.ff).mono g2.ff).set (r1.mono g2.ff)).set r2, hB⟩⟩
theorem t_parND (h1 : EvN ta env mus ds) (h2 : EvD tb env mus d2) (k : ∀ p, Tr B F0 X ((env.set i (some (.ptr p))).set j (some d2)) ((p, .lst ds) :: mus) D.nx) : Tr B F0 X env mus (tPar i j (tCons ta (tCons tb tNil)) D) := fun σ H a => by
  obtain ⟨F, g0, M, E, hB⟩ := a
  refine h1 F σ H M E _ fun p xs F1 H1 g1 n1 n0 e1 r1 => ?_
  obtain ⟨b0, hne⟩ := newkey g0 M n0
  have M1 := (M.grow g1).cons (m := .lst ds) n1 e1 ⟨xs, rfl, r1⟩ hne
  refine h2 F1 σ H1 (M.grow g1) (E.mono g1.ff) _ fun w F2 H2 g2 r2 => ⟨.ref p, w, rfl, k p _ _ ⟨F2, (g0.trans g1).trans g2, M1.grow g2, (((E.mono g1.ff).mono g2.ff).set (rp_ptr.mpr rfl)).set r2, fun m hm => ?_⟩⟩
  rcases List.mem_cons.mp hm with z | z
  · rw [z]; exact b0
  · exact hB m z
theorem t_parDN (h1 : EvD ta env mus d1) (h2 : EvN tb env mus ds) (k : ∀ p, Tr B F0 X ((env.set i (some d1)).set j (some (.ptr p))) ((p, .lst ds) :: mus) D.nx) : Tr B F0 X env mus (tPar i j (tCons ta (tCons tb tNil)) D) := fun σ H a => by
  obtain ⟨F, g0, M, E, hB⟩ := a
  refine h1 F σ H M E _ fun v F1 H1 g1 r1 => ?_
  refine h2 F1 σ H1 (M.grow g1) (E.mono g1.ff) _ fun p xs F2 H2 g2 n1 n0 e1 r2 => ?_
  obtain ⟨b0, hne⟩ := newkey (g0.trans g1) (M.grow g1) n0
  have M1 := ((M.grow g1).grow g2).cons (m := .lst ds) n1 e1 ⟨xs, rfl, r2⟩ hne
  refine ⟨v, .ref p, rfl, k p _ _ ⟨F2, (g0.trans g1).trans g2, M1, (((E.mono g1.ff).mono g2.ff).set (r1.mono g2.ff)).set (rp_ptr.mpr rfl), fun m hm => ?_⟩⟩
  rcases List.mem_cons.mp hm with z | z
  · rw [z]; exact b0
  · exact hB m z
theorem t_parNN (h1 : EvN ta env mus ds) (h2 : EvN tb env mus es) (k : ∀ p q, p ≠ q → Tr B F0 X ((env.set i (some (.ptr p))).set j (some (.ptr q))) ((p, .lst ds) :: (q, .lst es) :: mus) D.nx) : Tr B F0 X env mus (tPar i j (tCons ta (tCons tb tNil)) D) := fun σ H a => by
  obtain ⟨F, g0, M, E, hB⟩ := a
  refine h1 F σ H M E _ fun p xs F1 H1 g1 n1 n0 e1 r1 => ?_
  obtain ⟨b0, hne⟩ := newkey g0 M n0
  refine h2 F1 σ H1 (M.grow g1) (E.mono g1.ff) _ fun q ys F2 H2 g2 m1 m0 e2 r2 => ?_
  obtain ⟨b1, hne1⟩ := newkey (g0.trans g1) (M.grow g1) m0
  have hpq : p ≠ q := ne_of_none e1 m0
  have M1 := ((M.grow g1).grow g2).cons (m := .lst es) m1 e2 ⟨ys, rfl, r2⟩ hne1
  have n2 : F2 p = none := (g2.fr p _ e1 (fun _ z => nomatch z)).trans n1
  have M2 := M1.cons (m := .lst ds) n2 (g2.bh _ _ e1) ⟨xs, rfl, r1.mono g2.ff⟩ (fun x hx => by
    rcases List.mem_cons.mp hx with z | z
    · rw [z]; exact Ne.symm hpq
    · exact hne x z)
  refine ⟨.ref p, .ref q, rfl, k p q hpq _ _ ⟨F2, (g0.trans g1).trans g2, M2, (((E.mono g1.ff).mono g2.ff).set (rp_ptr.mpr rfl)).set (rp_ptr.mpr rfl), fun m hm => ?_⟩⟩
  rcases List.mem_cons.mp hm with z | z
  · rw [z]; exact b0
  · rcases List.mem_cons.mp z with z | z
    · rw [z]; exact b1
    · exact hB m z
theorem t_par3DDD {tc' : TE} {l : Nat} (h1 : EvD ta env mus d1) (h2 : EvD tb env mus d2) (h3 : EvD tc' env mus d3) (k : Tr B F0 X (((env.set i (some d1)).set j (some d2)).set l (some d3)) mus D.nx) : Tr B F0 X env mus (tPar3 i j l (tCons ta (tCons tb (tCons tc' tNil))) D) := fun σ H a => by
  obtain ⟨F, g0, M, E, hB⟩ := a
  exact h1 F σ H M E _ fun v F1 H1 g1 r1 => h2 F1 σ H1 (M.grow g1) (E.mono g1.ff) _ fun w F2 H2 g2 r2 => h3 F2 σ H2 ((M.grow g1).grow g2) ((E.mono g1.ff).mono g2.ff) _ fun x F3 H3 g3 r3 =>
    ⟨v, w, x, rfl, k _ _ ⟨F3, ((g0.trans g1).trans g2).trans g3, ((M.grow g1).grow g2).grow g3, (((((E.mono g1.ff).mono g2.ff).mono g3.ff).set (r1.mono (g2.ff.trans g3.ff))).set (r2.mono g3.ff)).set r3, hB⟩⟩
theorem t_par3NDD {tc' : TE} {l : Nat} (h1 : EvN ta env mus ds) (h2 : EvD tb env mus d2) (h3 : EvD tc' env mus d3) (k : ∀ p, Tr B F0 X (((env.set i (some (.ptr p))).set j (some d2)).set l (some d3)) ((p, .lst ds) :: mus) D.nx) : Tr B F0 X env mus (tPar3 i j l (tCons ta (tCons tb (tCons tc' tNil))) D) := fun σ H a => by
  obtain ⟨F, g0, M, E, hB⟩ := a
  refine h1 F σ H M E _ fun p xs F1 H1 g1 n1 n0 e1 r1 => ?_
  obtain ⟨b0, hne⟩ := newkey g0 M n0
  have M1 := (M.grow g1).cons (m := .lst ds) n1 e1 ⟨xs, rfl, r1⟩ hne
  refine h2 F1 σ H1 (M.grow g1) (E.mono g1.ff) _ fun w F2 H2 g2 r2 => h3 F2 σ H2 ((M.grow g1).grow g2) ((E.mono g1.ff).mono g2.ff) _ fun x F3 H3 g3 r3 =>
    ⟨.ref p, w, x, rfl, k p _ _ ⟨F3, ((g0.trans g1).trans g2).trans g3, (M1.grow g2).grow g3, (((((E.mono g1.ff).mono g2.ff).mono g3.ff).set (rp_ptr.mpr rfl)).set (r2.mono g3.ff)).set r3, fun m hm => ?_⟩⟩
  rcases List.mem_cons.mp hm with z | z
  · rw [z]; exact b0
  · exact hB m z
/-- the def's own list at p is changed -/
theorem AS.put {σ : L2.St} {F H : Hp} {p : Addr} {m m' : MO} {o : HO} (g0 : Gx B F0 X F H) (M : MS mus F H) (E : ES env F σ) (hB : ∀ m ∈ mus, B m.1 = none) (hj : mus[j]? = some (p, m)) (r : RpM F m' o) : AS B F0 X env (mus.set j (p, m')) σ (upd H p o) := by
  have hb : B p = none := hB (p, m) (List.mem_of_getElem? hj)
  have M1 := M.set hj r
  refine ⟨F, ⟨⟨g0.ff, M1.fh, fun a u e => ?_, g0.fr⟩, g0.xf⟩, M1, E, fun x hx => ?_⟩
  · rw [upd_ne (ne_of_none e hb)]
    exact g0.bh a u e
  · obtain ⟨y, hy, e⟩ := mem_set_key hj hx
    rw [← e]
    exact hB y hy
/-- found.append(e) -/
theorem t_append {p : Addr} (hj : mus[j]? = some (p, .lst ds)) (ho : EvD ta env mus (.ptr p)) (h : EvD te env mus d) (hl : ds.length < 100000) (k : Tr B F0 X env (mus.set j (p, .lst (ds ++ [d]))) D.nx) : Tr B F0 X env mus (tDrop (tBM K "list" rAppend ta (tCons te tNil)) D) := fun σ H a => by
  obtain ⟨F, g0, M, E, hB⟩ := a
  refine ho F σ H M E _ fun v F1 H1 g1 r1 => ?_
  have M1 := M.grow g1
  obtain ⟨_, o1, e1, xs1, rfl, rx1⟩ := M1.mu _ (List.mem_of_getElem? hj)
  rw [rp_ptr.mp r1]
  refine ⟨.inl ⟨rfl, xs1, SqL.of e1⟩, h F1 σ H1 M1 (E.mono g1.ff) _ fun w F2 H2 g2 r2 => ?_⟩
  have M2 := M1.grow g2
  obtain ⟨_, o2, e2, xs2, rfl, rx2⟩ := M2.mu _ (List.mem_of_getElem? hj)
  refine ⟨p, xs2, w, rfl, rfl, e2, sz_lt (by rw [← rx2.length]; exact hl), k _ _ ?_⟩
  exact AS.put ((g0.trans g1).trans g2) M2 ((E.mono g1.ff).mono g2.ff) hB hj ⟨_, rfl, rx2.append (.cons r2 .nil)⟩
/-- found.extend(e), e a new list or one that stands -/
theorem t_extend {p : Addr} (hj : mus[j]? = some (p, .lst ds)) (ho : EvD ta env mus (.ptr p)) (h : EvD te env mus (.lst es)) (hl : ds.length + es.length ≤ 100000) (k : Tr B F0 X env (mus.set j (p, .lst (ds ++ es))) D.nx) : Tr B F0 X env mus (tDrop (tBM K "list" rExtend ta (tCons te tNil)) D) := fun σ H a => by
  obtain ⟨F, g0, M, E, hB⟩ := a
  refine ho F σ H M E _ fun v F1 H1 g1 r1 => ?_
  have M1 := M.grow g1
  obtain ⟨_, o1, e1, xs1, rfl, rx1⟩ := M1.mu _ (List.mem_of_getElem? hj)
  rw [rp_ptr.mp r1]
  refine ⟨.inl ⟨rfl, xs1, SqL.of e1⟩, h F1 σ H1 M1 (E.mono g1.ff) _ fun w F2 H2 g2 r2 => ?_⟩
  have M2 := M1.grow g2
  obtain ⟨_, o2, e2, xs2, rfl, rx2⟩ := M2.mu _ (List.mem_of_getElem? hj)
  obtain ⟨b, ys, rfl, hb, hy⟩ := rp_lst.mp r2
  refine ⟨p, b, xs2, ys, rfl, rfl, e2, M2.fh _ _ hb, sz_of (by rw [← rx2.length, ← hy.length]; exact hl), k _ _ ?_⟩
  exact AS.put ((g0.trans g1).trans g2) M2 ((E.mono g1.ff).mono g2.ff) hB hj ⟨_, rfl, rx2.append hy⟩
/-- found[i] = e -/
theorem t_setitem {p : Addr} {z : Int} {n : Nat} (hj : mus[j]? = some (p, .lst ds)) (h : EvD te env mus d) (ho : EvD ta env mus (.ptr p)) (hi : EvD tb env mus (.int z)) (hz : ixN ds.length z = some n) (k : Tr B F0 X env (mus.set j (p, .lst (ds.set n d))) D.nx) : Tr B F0 X env mus (tAsg te (gSub ta tb rSetL) D) := fun σ H a => by
  obtain ⟨F, g0, M, E, hB⟩ := a
  refine h F σ H M E _ fun w F1 H1 g1 r1 => ho F1 σ H1 (M.grow g1) (E.mono g1.ff) _ fun v F2 H2 g2 r2 => hi F2 σ H2 ((M.grow g1).grow g2) ((E.mono g1.ff).mono g2.ff) _ fun x F3 H3 g3 r3 => ?_
  have M3 := ((M.grow g1).grow g2).grow g3
  obtain ⟨_, o2, e2, xs2, rfl, rx2⟩ := M3.mu _ (List.mem_of_getElem? hj)
  refine ⟨p, xs2, z, n, rp_ptr.mp r2, rp_int.mp r3, e2, by rw [← rx2.length]; exact hz, k _ _ ?_⟩
  exact AS.put (((g0.trans g1).trans g2).trans g3) M3 (((E.mono g1.ff).mono g2.ff).mono g3.ff) hB hj ⟨_, rfl, RpL.set (r1.mono (g2.ff.trans g3.ff)) n rx2⟩
/-- found[i] += e, ints -/
theorem t_augsub {p : Addr} {z x y : Int} {n : Nat} (hj : mus[j]? = some (p, .lst ds)) (ho : EvD ta env mus (.ptr p)) (hi : EvD tb env mus (.int z)) (h : EvD te env mus (.int y)) (hz : ixN ds.length z = some n) (hx : ds[n]? = some (.int x)) (k : Tr B F0 X env (mus.set j (p, .lst (ds.set n (.int (x + y))))) D.nx) : Tr B F0 X env mus (tAugS ta tb te (rIxL K) (ipI fun i j => i + j) rSetL D) := fun σ H a => by
  obtain ⟨F, g0, M, E, hB⟩ := a
  refine ho F σ H M E _ fun v F1 H1 g1 r1 => hi F1 σ H1 (M.grow g1) (E.mono g1.ff) _ fun u F2 H2 g2 r2 => ?_
  have M2 := (M.grow g1).grow g2
  obtain ⟨_, o2, e2, xs2, rfl, rx2⟩ := M2.mu _ (List.mem_of_getElem? hj)
  obtain ⟨x', ex, rx⟩ := rx2.get hx
  have hv := rp_ptr.mp r1
  have hu := rp_int.mp r2
  subst hv hu
  refine ⟨p, xs2, z, x', rfl, rfl, SqL.of e2, ?_, h F2 σ H2 M2 ((E.mono g1.ff).mono g2.ff) _ fun w F3 H3 g3 r3 => ⟨x, y, rp_int.mp rx, rp_int.mp r3, ?_⟩⟩
  · show L2.atI xs2 z = some x'
    unfold L2.atI
    rw [← rx2.length, hz]
    exact ex
  · have M3 := M2.grow g3
    obtain ⟨_, o3, e3, xs3, rfl, rx3⟩ := M3.mu _ (List.mem_of_getElem? hj)
    refine ⟨p, xs3, z, n, rfl, rfl, e3, by rw [← rx3.length]; exact hz, k _ _ ?_⟩
    exact AS.put (((g0.trans g1).trans g2).trans g3) M3 (((E.mono g1.ff).mono g2.ff).mono g3.ff) hB hj ⟨_, rfl, RpL.set (rp_int.mpr rfl) n rx3⟩
/-- x += e -/
theorem t_aug {f : Int → Int → Int} {x y : Int} (hx : env[i]? = some (some (.int x))) (h : EvD te env mus (.int y)) (k : Tr B F0 X (env.set i (some (.int (f x y)))) mus D.nx) : Tr B F0 X env mus (tAug i te (ipI f) D) := fun σ H a => by
  obtain ⟨F, g0, M, E, hB⟩ := a
  obtain ⟨v, e, r⟩ := E.get i _ hx
  exact ⟨v, e, h F σ H M E _ fun w F1 H1 g1 r1 => ⟨x, y, rp_int.mp r, rp_int.mp r1, k _ _ ⟨F1, g0.trans g1, M.grow g1, (E.mono g1.ff).set (rp_int.mpr rfl), hB⟩⟩⟩
theorem t_if {b : Bool} (h : EvT tc env mus b) (h1 : b = true → Tr B F0 X env mus (t1 D)) (h2 : b = false → Tr B F0 X env mus (t2 D)) : Tr B F0 X env mus (tIfS tc t1 t2 D) := fun σ H a => by
  obtain ⟨F, g0, M, E, hB⟩ := a
  refine h F σ H M E _ fun F1 H1 g1 => ?_
  cases b with
  | true =>
    show t1 D σ H1
    exact h1 rfl _ _ (AS.grow g0 M E hB g1)
  | false =>
    show t2 D σ H1
    exact h2 rfl _ _ (AS.grow g0 M E hB g1)
theorem t_ret (h : EvD te env mus d) (k : ∀ v F' H', Gr B F0 F' H' → MS mus F' H' → Rp F' d v → D.rt v H') : Tr B F0 X env mus (tRet te D) := fun σ H a => by
  obtain ⟨F, g0, M, E, hB⟩ := a
  exact h F σ H M E _ fun v F1 H1 g1 r1 => k v F1 H1 (g0.trans g1).toGr (M.grow g1) r1
/-- the def's own list at slot i is taken as a datum from now on -/
theorem t_freeze {p : Addr} {T : L2.St → Hp → Prop} (hi : env[i]? = some (some (.ptr p))) (hj : mus[j]? = some (p, .lst ds)) (k : Tr B F0 X (env.set i (some (.lst ds))) (mus.eraseIdx j) T) : Tr B F0 X env mus T := fun σ H a => by
  obtain ⟨F, g0, M, E, hB⟩ := a
  obtain ⟨n1, o, e1, xs, rfl, rx⟩ := M.mu _ (List.mem_of_getElem? hj)
  have hb : B p = none := hB (p, .lst ds) (List.mem_of_getElem? hj)
  have hsF : Same F (upd F p (.lst xs)) := same_new n1
  have hsH : Same (upd F p (.lst xs)) H := fun a u e => by
    by_cases hap : a = p
    · subst hap
      rw [upd_same] at e
      rw [e1]
      exact e
    · rw [upd_ne hap] at e
      exact M.fh a u e
  have hsub : ∀ m ∈ mus.eraseIdx j, m ∈ mus := fun m hm => List.mem_of_mem_eraseIdx hm
  refine k σ H ⟨upd F p (.lst xs), ⟨⟨g0.ff.trans hsF, hsH, g0.bh, fun a u e n => ?_⟩, g0.xf.trans hsF⟩, ⟨hsH, fun m hm => ?_, ?_⟩, (E.mono hsF).turn (fun v hv => ?_) ⟨_, hi⟩, fun m hm => hB m (hsub m hm)⟩
  · rw [upd_ne (ne_of_none e hb)]
    exact g0.fr a u e n
  · obtain ⟨n2, o2, e2, r2⟩ := M.mu m (hsub m hm)
    have hne : m.1 ≠ p := fun z => by
      obtain ⟨k', hk'⟩ := List.mem_iff_getElem?.mp hm
      have hnd := M.nd
      have a2 : (mus.map (·.1))[j]? = some p := by rw [List.getElem?_map, hj]; rfl
      by_cases hlt : k' < j
      · rw [List.getElem?_eraseIdx_of_lt hlt] at hk'
        have a1 : (mus.map (·.1))[k']? = some p := by rw [List.getElem?_map, hk', ← z]; rfl
        exact absurd (nd_ix hnd a1 a2) (Nat.ne_of_lt hlt)
      · rw [List.getElem?_eraseIdx_of_ge (by omega)] at hk'
        have a1 : (mus.map (·.1))[k' + 1]? = some p := by rw [List.getElem?_map, hk', ← z]; rfl
        have := nd_ix hnd a1 a2
        omega
    exact ⟨by rw [upd_ne hne]; exact n2, o2, e2, r2.mono hsF⟩
  · exact List.Nodup.sublist (List.Sublist.map _ (List.eraseIdx_sublist ..)) M.nd
  · obtain ⟨v', e', r'⟩ := E.get i _ hi
    rw [e'] at hv
    cases hv
    rw [rp_ptr.mp r']
    exact rp_lst.mpr ⟨p, xs, rfl, upd_same, rx.mono hsF⟩
/-- a list that is no longer needed -/
theorem t_drop {mus' : Mu} {T : L2.St → Hp → Prop} (hs : mus'.Sublist mus) (k : Tr B F0 X env mus' T) : Tr B F0 X env mus T := fun σ H a => by
  obtain ⟨F, g0, M, E, hB⟩ := a
  exact k σ H ⟨F, g0, M.sub (fun m hm => hs.subset hm) (List.Nodup.sublist (List.Sublist.map _ hs) M.nd), E, fun m hm => hB m (hs.subset hm)⟩
/-- from more that is held to less -/
theorem Tr.less {X' : Hp} {T : L2.St → Hp → Prop} (h : Tr B F0 X env mus T) (s : Same X X') : Tr B F0 X' env mus T := fun σ H a => by
  obtain ⟨F, g0, M, E, hB⟩ := a
  exact h σ H ⟨F, ⟨g0.toGr, s.trans g0.xf⟩, M, E, hB⟩
theorem t_for {wi : TI} {g : TG} (hw : ItL wi env mus mus0 ds) (hnd : (mus0.map (·.1)).Nodup) (Inv : Nat → Env_ → Mu → Prop) (h0 : Inv 0 env mus) (hsub : ∀ i e m, i ≤ ds.length → Inv i e m → ∀ x ∈ mus0, x ∈ m)
    (hs : ∀ X', Same X X' → ∀ (i : Nat) d e m, ds[i]? = some d → Inv i e m → ∃ is e', GD g e is d e' ∧ Tr B F0 X' e' m (ts { D with nx := asr B F0 X' (Inv (i + 1)), ct := asr B F0 X' (Inv (i + 1)), bk := D.nx }))
    (hd : ∀ e m, Inv ds.length e m → Tr B F0 X e m D.nx) : Tr B F0 X env mus (tFor wi g ts D) := fun σ H a => by
  obtain ⟨F, g0, M, E, hB⟩ := a
  refine hw F σ H M E _ fun J F1 H1 g1 ok => ?_
  have hX : Same X F1 := g0.xf.trans g1.ff
  refine ⟨fun i m σ' H' => m = ds.length - i ∧ i ≤ ds.length ∧ asr B F0 F1 (Inv i) σ' H', ⟨ds.length, rfl, Nat.zero_le _, env, mus, h0, F1, ⟨(g0.trans g1).toGr, Same.refl _⟩, M.grow g1, E.mono g1.ff, hB⟩, ?_⟩
  rintro i m σ' H' ⟨rfl, hi, e, mu, iv, F', g2, M2, E2, hB2⟩
  have MS0 := M2.sub (hsub i e mu hi iv) hnd
  by_cases hlt : i < ds.length
  · have hdi : ds[i]? = some ds[i] := List.getElem?_eq_getElem hlt
    obtain ⟨is, e', gd, tr⟩ := hs F1 hX i _ e mu hdi iv
    refine .inr ⟨ok.goes i F' H' hlt g2.xf MS0, asr B F0 F1 (Inv (i + 1)), fun σ2 H2 h2 => ⟨ds.length - (i + 1), by omega, rfl, hlt, h2⟩, fun x H2 y => ?_⟩
    obtain ⟨F3, g3, r3⟩ := ok.yields i _ F' H' x H2 hdi g2.xf MS0 y
    exact gd F3 σ' H2 x g3.fh (E2.mono g3.ff) r3 _ fun σ2 E3 _ _ => tr σ2 H2 ⟨F3, g2.trans g3, M2.grow g3, E3, hB2⟩
  · have ei : i = ds.length := by omega
    subst ei
    exact .inl ⟨ok.stops F' H' g2.xf MS0, hd e mu iv σ' H' ⟨F', ⟨g2.toGr, hX.trans g2.xf⟩, M2, E2, hB2⟩⟩
/-- a while: the invariant with its measure -/
theorem t_while (Inv : Nat → Env_ → Mu → Prop) (n0 : Nat) (h0 : Inv n0 env mus)
    (hs : ∀ n e m, Inv n e m → ∃ b, EvT tc e m b ∧ (b = true → Tr B F0 X e m (ts { D with nx := asr B F0 X (fun e' m' => ∃ n', n' < n ∧ Inv n' e' m'), ct := asr B F0 X (fun e' m' => ∃ n', n' < n ∧ Inv n' e' m'), bk := D.nx })) ∧ (b = false → Tr B F0 X e m D.nx)) :
    Tr B F0 X env mus (tWhile tc ts D) := fun σ H a => by
  refine ⟨fun n => asr B F0 X (Inv n), ⟨n0, env, mus, h0, a⟩, ?_⟩
  rintro n σ' H' ⟨e, m, iv, F, g0, M, E, hB⟩
  obtain ⟨b, et, h1, h2⟩ := hs n e m iv
  refine et F σ' H' M E _ fun F1 H1 g1 => ?_
  have a1 : AS B F0 X e m σ' H1 := AS.grow g0 M E hB g1
  cases b with
  | false =>
    show D.nx σ' H1
    exact h2 rfl σ' H1 a1
  | true =>
    refine ⟨asr B F0 X (fun e' m' => ∃ n', n' < n ∧ Inv n' e' m'), fun σ2 H2 h => ?_, h1 rfl σ' H1 a1⟩
    obtain ⟨e', m', ⟨n', hn, iv'⟩, a'⟩ := h
    exact ⟨n', hn, e', m', iv', a'⟩
end
end KB
namespace KB
open PySem PySem.Spec PyProof.Rows L2

/-! ### rules that leave the kind open -/
def rAddX (K : PySem.W.Frag) : R2 := fun x y H Q => (rI0 fun i j => .int (i + j)) x y H Q ∨ (fun x y H Q => rCatA K x y H Q ∨ rCat x y H Q) x y H Q
theorem op_addX {X : Cx} : OpR X (binaryOp .Add) (rAddX X.K) := op_add.or (op_catA.or op_cat)
def rMulX (K : PySem.W.Frag) : R2 := fun x y H Q => (rI CMul fun i j => .int (i * j)) x y H Q ∨ (fun x y H Q => rRepA K x y H Q ∨ rRep x y H Q) x y H Q
theorem op_mulX {X : Cx} : OpR X (binaryOp .Mult) (rMulX X.K) := op_mul.or (op_repA.or op_rep)
def rSlX (K : PySem.W.Frag) : V → Option Int → Option Int → Hp → VK → Prop := fun x lo hi H Q => rSlA K x lo hi H Q ∨ rSlL K x lo hi H Q
theorem sl_X {X : Cx} : SlR X (rSlX X.K) := sl_tupA.or sl_list
def rSumX (K : PySem.W.Frag) : List V → Hp → VK → Prop := fun xs H Q => rSum K xs H Q ∨ rSumT K xs H Q
theorem cr_sumX {X : Cx} (hc : X.calm = true) : CallR X (.builtin "sum") (rSumX X.K) := (cr_sum hc).or (cr_sumT hc)
def iOr (w1 w2 : TI) : TI := fun σ H R => w1 σ H R ∨ w2 σ H R
theorem pi_or {X : Cx} {tg iter : Expr} {w1 w2 : TI} (h1 : PI X tg iter w1) (h2 : PI X tg iter w2) : PI X tg iter (iOr w1 w2) :=
  ⟨fun pins s σ H R I h => h.elim (h1.run pins s σ H R I) (h2.run pins s σ H R I)⟩
theorem pi_seq {X : Cx} {tg l : Expr} {tl : TE} (hl : PE X l tl) : PI X tg l (iOr (iList X.K tl) (iTup X.K tl)) := pi_or (pi_list hl) (pi_tup hl)
section
variable {env : Env_} {mus mus0 : Mu} {ta tb te tl : TE} {sl sh : TO} {d d1 d2 d3 : Dt} {ds es : List Dt} {K : PySem.W.Frag} {lo hi : Option Int} {w1 w2 : TI}
theorem rd_addI {i j : Int} : RD (rAddX K) mus (.int i) (.int j) (.int (i + j)) := rd_left rd_i0
theorem rd_addT (hz : ds.length + es.length ≤ 100000) : RD (rAddX K) mus (.tup ds) (.tup es) (.tup (ds ++ es)) := rd_right (rd_left (rd_catT hz))
theorem rn_addL (hz : ds.length + es.length ≤ 100000) : RDN (rAddX K) mus (.lst ds) (.lst es) (ds ++ es) := fun F H v1 v2 M r1 r2 Q q => .inr (.inr (rn_cat hz F H v1 v2 M r1 r2 Q q))
theorem rd_mulI {i j : Int} (h : CMul i j) : RD (rMulX K) mus (.int i) (.int j) (.int (i * j)) := rd_left (rd_i h)
theorem rd_mulT {k : Int} (h0 : ds ≠ []) (h1 : 0 ≤ k) (h2 : k ≤ 1000) (h3 : ds.length ≤ 1000) : RD (rMulX K) mus (.tup ds) (.int k) (.tup (List.replicate k.toNat ds).flatten) := rd_right (rd_left (rd_repT h0 h1 h2 h3))
theorem rn_mulL {k : Int} (h1 : 0 ≤ k) (h2 : k ≤ 1000) (h3 : ds.length ≤ 100) : RDN (rMulX K) mus (.lst ds) (.int k) (List.replicate k.toNat ds).flatten := fun F H v1 v2 M r1 r2 Q q => .inr (.inr (rn_rep h1 h2 h3 F H v1 v2 M r1 r2 Q q))
theorem ev_sliceT (h : EvD te env mus (.tup ds)) (hl : EvO sl env mus lo) (hh : EvO sh env mus hi) : EvD (tSl (rSlX K) te sl sh) env mus (.tup (cutD ds lo hi)) := fun F σ H M E Q q => by
  have h0 := ev_slT (K := K) h hl hh F σ H M E Q q
  -- the same reading, its left branch
  unfold tSl at h0 ⊢
  exact h F σ H M E _ fun v F1 H1 g1 r1 => hl F1 σ H1 (M.grow g1) (E.mono g1.ff) _ fun F2 H2 g2 => hh F2 σ H2 ((M.grow g1).grow g2) ((E.mono g1.ff).mono g2.ff) _ fun F3 H3 g3 => .inl (by
    have g := (g1.trans g2).trans g3
    obtain ⟨a, xs, rfl, ha, hx⟩ := rp_tup.mp (r1.mono (g2.ff.trans g3.ff))
    refine ⟨a, xs, rfl, SqT.of (g.fh _ _ ha), fun hw => ?_, fun _ p hp => ?_⟩
    · refine q _ F3 H3 g (rp_tup.mpr ⟨a, xs, rfl, ha, ?_⟩)
      have e : cutD ds lo hi = ds := by
        unfold cutD
        rw [hx.length, hw.1, hw.2, List.drop_zero, Nat.sub_zero]
        exact List.take_of_length_le (by rw [hx.length]; exact Nat.le_refl _)
      rw [e]
      exact hx
    · exact q _ (upd F3 p (.tup (cutV xs lo hi))) _ (g.trans (Gr.new g.fh hp)) (rp_tup.mpr ⟨p, _, rfl, upd_same, (hx.cut lo hi).mono (same_new (g.fh.free hp))⟩))
theorem en_sliceL (h : EvD te env mus (.lst ds)) (hl : EvO sl env mus lo) (hh : EvO sh env mus hi) : EvN (tSl (rSlX K) te sl sh) env mus (cutD ds lo hi) := fun F σ H M E Q q =>
  h F σ H M E _ fun v F1 H1 g1 r1 => hl F1 σ H1 (M.grow g1) (E.mono g1.ff) _ fun F2 H2 g2 => hh F2 σ H2 ((M.grow g1).grow g2) ((E.mono g1.ff).mono g2.ff) _ fun F3 H3 g3 => .inr (by
    have g := (g1.trans g2).trans g3
    obtain ⟨a, xs, rfl, ha, hx⟩ := rp_lst.mp (r1.mono (g2.ff.trans g3.ff))
    exact ⟨a, xs, rfl, SqL.of (g.fh _ _ ha), fun p hp => q p _ F3 _ (g.trans (Gr.newM g.fh hp)) (g.fh.free hp) (g.bh.free hp) upd_same (hx.cut lo hi)⟩)
theorem en_sliceM {p0 : Addr} (hm : (p0, MO.lst ds) ∈ mus) (h : EvD te env mus (.ptr p0)) (hl : EvO sl env mus lo) (hh : EvO sh env mus hi) : EvN (tSl (rSlX K) te sl sh) env mus (cutD ds lo hi) := fun F σ H M E Q q =>
  h F σ H M E _ fun v F1 H1 g1 r1 => hl F1 σ H1 (M.grow g1) (E.mono g1.ff) _ fun F2 H2 g2 => hh F2 σ H2 ((M.grow g1).grow g2) ((E.mono g1.ff).mono g2.ff) _ fun F3 H3 g3 => .inr (by
    have g := (g1.trans g2).trans g3
    obtain ⟨_, o, e1, xs, rfl, hx⟩ := (M.grow g).mu _ hm
    exact ⟨p0, xs, rp_ptr.mp r1, SqL.of e1, fun p hp => q p _ F3 _ (g.trans (Gr.newM g.fh hp)) (g.fh.free hp) (g.bh.free hp) upd_same (hx.cut lo hi)⟩)
theorem rc_left {r r' : List V → Hp → VK → Prop} (h : RC r mus ds d) : RC (fun xs H Q => r xs H Q ∨ r' xs H Q) mus ds d := fun F H vs M r1 Q q => .inl (h F H vs M r1 Q q)
theorem rc_right {r r' : List V → Hp → VK → Prop} (h : RC r' mus ds d) : RC (fun xs H Q => r xs H Q ∨ r' xs H Q) mus ds d := fun F H vs M r1 Q q => .inr (h F H vs M r1 Q q)
theorem rc_sumXL {ns : List Int} : RC (rSumX K) mus [.lst (ns.map Dt.int)] (.int ns.sum) := rc_left rc_sumL
theorem rc_sumXM {p : Addr} {ns : List Int} (hm : (p, MO.lst (ns.map Dt.int)) ∈ mus) : RC (rSumX K) mus [.ptr p] (.int ns.sum) := rc_left (rc_sumM hm)
theorem rc_sumXT {ns : List Int} : RC (rSumX K) mus [.tup (ns.map Dt.int)] (.int ns.sum) := rc_right rc_sumT
theorem it_left (h : ItL w1 env mus mus0 ds) : ItL (iOr w1 w2) env mus mus0 ds := fun F σ H M E R q => .inl (h F σ H M E R q)
theorem it_right (h : ItL w2 env mus mus0 ds) : ItL (iOr w1 w2) env mus mus0 ds := fun F σ H M E R q => .inr (h F σ H M E R q)
end

/-! ### the rules with the written part by its name -/
section
variable {X : Cx} {K : PySem.W.Frag}
theorem ix_seqK (h : X.K = K) : IxR X (rIx K) := h ▸ ix_seq
theorem op_addXK (h : X.K = K) : OpR X (binaryOp .Add) (rAddX K) := h ▸ op_addX
theorem op_mulXK (h : X.K = K) : OpR X (binaryOp .Mult) (rMulX K) := h ▸ op_mulX
theorem sl_XK (h : X.K = K) : SlR X (rSlX K) := h ▸ sl_X
theorem call_lenK (h : X.K = K) : CallR X (.builtin "len") (rLenS K) := h ▸ call_len_seq
theorem call_tupK (h : X.K = K) : CallR X (.type "tuple") (rTupOf K) := h ▸ call_tuple_of
theorem cr_sumXK (h : X.K = K) (hc : X.calm = true) : CallR X (.builtin "sum") (rSumX K) := h ▸ cr_sumX hc
theorem call_isiK' (h : X.K = K) : CallR X (.builtin "isinstance") (rIsi K) := h ▸ call_isi
theorem call_isiTK (h : X.K = K) : CallR X (.builtin "isinstance") (rIsiT K) := h ▸ call_isiT
theorem op_inK (h : X.K = K) : OpR X (compareOp .In) (rIn K false) := h ▸ op_in_seq
theorem op_notInK (h : X.K = K) : OpR X (compareOp .NotIn) (rIn K true) := h ▸ op_notIn_seq
theorem op_neDK (h : X.K = K) (hu : X.A.units + 64 < cLine) : OpR X (compareOp .NotEq) (rNeD K) := h ▸ op_neD hu
theorem get_listK (h : X.K = K) : PGet X (rIxL K) := h ▸ get_list
end

/-! ### a def that may be called by its name -/
structure Cal (P : Program) (w : World) (K : PySem.W.Frag) (mg : Str → Option Value) (base : Heap) (k : Nat) (x : Str) (ps : List Str) (sp : Sp) : Prop where
  ex : ∃ f fd, FnOk P w K mg base CX0 k f fd ps sp ∧ mg x = some (.ref f) ∧ PySem.W.keepIn K (.ref f) = true ∧ Binds K fd ps []
theorem Cal.mono {P : Program} {w : World} {K : PySem.W.Frag} {mg : Str → Option Value} {base : Heap} {j k : Nat} {x : Str} {ps : List Str} {sp : Sp} (h : Cal P w K mg base j x ps sp) (hj : j ≤ k) : Cal P w K mg base k x ps sp := by
  obtain ⟨f, fd, h1, h2⟩ := h.ex
  exact ⟨f, fd, h1.mono hj, h2⟩
theorem pe_cal {X : Cx} {x : Str} {p pos : Pos} {e : Expr} {es : List Expr} {t : TA} {j k : Nat} {ps : List Str} {sp : Sp} (C : Cal X.prog X.w X.K X.mg X.base j x ps sp) (hr : Room k X.A) (hj : j ≤ k) (hg : Gl X x) (ha : PA X (e :: es) t) (hdb : (x == ("__debug__" : Str)) = false := by decide) (he : starEach (e :: es) X.env = (false, eval e X.env) :: starEach es X.env := by rfl) (hpl : (backTo pos (starEach es X.env)).any (·.1) = false := by rfl) :
    PE X (.Call (.Name x p) (e :: es) [] pos) (tCall sp [] E0 t) := by
  obtain ⟨f, fd, h1, h2, h3, h4⟩ := C.ex
  exact pe_call h1 (hr.mono hj) hg h2 h3 h4 .nil pass0 ha hdb he hpl
/-- the built-ins' names are not the module's -/
structure Bz (mg : Str → Option Value) : Prop where
  len : mg "len" = none
  sum : mg "sum" = none
  tuple : mg "tuple" = none
  range : mg "range" = none
  enumerate : mg "enumerate" = none
  zip : mg "zip" = none
  min : mg "min" = none
  isinstance : mg "isinstance" = none
  int : mg "int" = none
  bool : mg "bool" = none
  list : mg "list" = none
  str : mg "str" = none

/-- a pure def keeps its promise -/
theorem ok_pure {P : Program} {w : World} {K : PySem.W.Frag} {mg : Str → Option Value} {base : Heap} {x qual : Str} {st : Stmt} {f : Addr} {fd : FuncData} {N ps : List Str} {k : Nat} {R : List Dt → Dt → Prop} (F : Fun K x qual st f fd) (S : FnScope N ps (defScope st))
    (len : ∀ ds d, R ds d → ds.length = ps.length)
    (hbody : ∀ (cdv : Value) (A : Around) (outer : List PySem.Env) (s : Shared) (H : Hp) (E : XK), Room k (A.deeper (envOfC qual (defScope st) s.heap.objs.size f cdv)) →
      ∃ t, PSs (cxOf CX0 P w K mg base N qual (defScope st) f cdv A outer s H E).nox (defBody st) t ∧
        ∀ ds d, R ds d → ∀ (B F0 : Hp) (D : Ends), (∀ v F' H', Gr B F0 F' H' → Rp F' d v → D.rt v H') → Tr B F0 F0 (ds.map some ++ List.replicate (N.length - ds.length) none) [] (t D)) :
    FnOk P w K mg base CX0 (k + 1) f fd ps (SpD R) := by
  refine F.ok S (fun vs H Q E h => ?_) (fun cdv A outer s H vs Q E hr h => ?_)
  · obtain ⟨F0, ds, d, _, hl, hR, _⟩ := h
    rw [← hl.length]
    exact len ds d hR
  · obtain ⟨F0, ds, d, hs, hl, hR, q⟩ := h
    obtain ⟨t, ht, hq⟩ := hbody cdv A outer s H E hr
    refine ⟨t, ht, hq ds d hR H F0 _ q _ _ ⟨F0, ⟨Gr.refl hs, Same.refl _⟩, ⟨hs, fun m hm => (nomatch hm), .nil⟩, ⟨?_, fun i d' hi => ?_⟩, fun m hm => (nomatch hm)⟩⟩
    · unfold L2.start
      rw [List.length_append, List.length_append, List.length_map, List.length_map, List.length_replicate, List.length_replicate, hl.length]
    · unfold L2.start
      by_cases hlt : i < ds.length
      · rw [List.getElem?_append_left (by rw [List.length_map]; exact hlt), List.getElem?_map] at hi
        obtain ⟨d0, e1, e2⟩ := Option.map_eq_some_iff.mp hi
        cases e2
        obtain ⟨v, e3, r⟩ := hl.get e1
        exact ⟨v, by rw [List.getElem?_append_left (by rw [List.length_map, ← hl.length]; exact hlt), List.getElem?_map, e3]; rfl, r⟩
      · rw [List.getElem?_append_right (by rw [List.length_map]; omega), List.getElem?_replicate] at hi
        split at hi <;> cases hi
theorem Cal.of {P : Program} {w : World} {K : PySem.W.Frag} {mg : Str → Option Value} {base : Heap} {k : Nat} {x : Str} {ps : List Str} {sp : Sp} {f : Addr} {fd : FuncData} (h : FnOk P w K mg base CX0 k f fd ps sp) (m : mg x = some (.ref f)) (kp : PySem.W.keepIn K (.ref f) = true) (b : Binds K fd ps []) : Cal P w K mg base k x ps sp := ⟨f, fd, h, m, kp, b⟩
end KB
namespace KB
/-! ### weaves, in plain Lean -/
section
variable {α : Type}
/-- w weaves the strings ss: the items come in the order js -/
inductive Wv : List (List α) → List Nat → List α → Prop
  | nil {ss : List (List α)} : (∀ s ∈ ss, s = []) → Wv ss [] []
  | cons {ss : List (List α)} {k : Nat} {j : α} {r : List α} {w : List Nat} {js : List α} : ss[k]? = some (j :: r) → Wv (ss.set k r) w js → Wv ss (k :: w) (j :: js)
theorem Wv.len {ss : List (List α)} {w : List Nat} {js : List α} (h : Wv ss w js) : w.length = js.length := by
  induction h with
  | nil _ => rfl
  | cons _ _ ih => rw [List.length_cons, List.length_cons, ih]
/-- what is left of each string -/
def dropE (ss : List (List α)) (pl : List Nat) : List (List α) := List.zipWith (fun s n => s.drop n) ss pl
theorem dropE_len (ss : List (List α)) (pl : List Nat) (h : pl.length = ss.length) : (dropE ss pl).length = ss.length := by
  unfold dropE
  rw [List.length_zipWith, h, Nat.min_self]
theorem dropE_zero (ss : List (List α)) : dropE ss (List.replicate ss.length 0) = ss := by
  unfold dropE
  induction ss with
  | nil => rfl
  | cons s r ih =>
    rw [List.length_cons, List.replicate_succ, List.zipWith_cons_cons, ih]
    rfl
theorem dropE_at {ss : List (List α)} {pl : List Nat} {k : Nat} {j : α} {r : List α} (h : (dropE ss pl)[k]? = some (j :: r)) :
    ∃ s n, ss[k]? = some s ∧ pl[k]? = some n ∧ s[n]? = some j ∧ dropE ss (pl.set k (n + 1)) = (dropE ss pl).set k r := by
  unfold dropE at h ⊢
  rw [List.getElem?_zipWith] at h
  cases h1 : ss[k]? with
  | none => rw [h1] at h; cases h
  | some s =>
    cases h2 : pl[k]? with
    | none => rw [h1, h2] at h; cases h
    | some n =>
      rw [h1, h2] at h
      have e : s.drop n = j :: r := Option.some.inj h
      have hj : s[n]? = some j := by
        have h3 : (s.drop n)[0]? = some j := by rw [e]; rfl
        rw [List.getElem?_drop] at h3
        simpa using h3
      refine ⟨s, n, rfl, rfl, hj, ?_⟩
      have er : s.drop (n + 1) = r := by
        have h3 : (s.drop n).drop 1 = r := by rw [e]; rfl
        rw [List.drop_drop] at h3
        exact h3
      have hk : k < pl.length := (List.getElem?_eq_some_iff.mp h2).1
      have hk1 : k < ss.length := (List.getElem?_eq_some_iff.mp h1).1
      apply List.ext_getElem?
      intro i
      rw [List.getElem?_zipWith]
      by_cases hi : k = i
      · subst hi
        rw [List.getElem?_set_self hk, h1, List.getElem?_set_self (by rw [List.length_zipWith]; omega)]
        show some (s.drop (n + 1)) = some r
        rw [er]
      · rw [List.getElem?_set_ne hi, List.getElem?_set_ne hi, List.getElem?_zipWith]
/-- the value of jobs (weight, time), one after another from an hour on -/
def val : Int → List (Int × Int) → Int
  | _, [] => 0
  | h, p :: r => p.1 * (h + p.2) + val (h + p.2) r
theorem take_succ_get {β : Type} {l : List β} {i : Nat} {x : β} (h : l[i]? = some x) : l.take (i + 1) = l.take i ++ [x] := by
  rw [List.take_add_one, h]
  rfl
theorem drop_get {β : Type} {l : List β} {i : Nat} {x : β} (h : l[i]? = some x) : l.drop i = x :: l.drop (i + 1) := by
  obtain ⟨hi, e⟩ := List.getElem?_eq_some_iff.mp h
  rw [List.drop_eq_getElem_cons hi, e]
theorem Wv.step {ss : List (List α)} {w : List Nat} {js : List α} {i k : Nat} (h : Wv ss (w.drop i) (js.drop i)) (hw : w[i]? = some k) :
    ∃ j r, ss[k]? = some (j :: r) ∧ js[i]? = some j ∧ Wv (ss.set k r) (w.drop (i + 1)) (js.drop (i + 1)) := by
  rw [drop_get hw] at h
  generalize e : js.drop i = l at h
  cases h with
  | @cons _ _ j r _ js' h1 h2 =>
    have hj : js[i]? = some j := by
      have h3 : (js.drop i)[0]? = some j := by rw [e]; rfl
      rw [List.getElem?_drop] at h3
      simpa using h3
    refine ⟨j, r, h1, hj, ?_⟩
    rw [drop_get hj] at e
    rw [(List.cons.inj e).2]
    exact h2
theorem rep_flat {β : Type} (x : β) : ∀ n : Nat, (List.replicate n [x]).flatten = List.replicate n x
  | 0 => rfl
  | n + 1 => by rw [List.replicate_succ, List.flatten_cons, rep_flat x n]; rfl
end
end KB
namespace KB
/-! ### what the program finds, in plain Lean -/
def shr (l : List (Int × Int)) : Int × Int := ((l.map (·.1)).sum, (l.map (·.2)).sum)
def lss (a b : Int × Int) : Bool := decide (a.1 * b.2 < b.1 * a.2)
/-- the share of the places a to b - 1 -/
def shAt (ps : List (Int × Int)) (x : Nat × Nat) : Int × Int := shr ((ps.drop x.1).take (x.2 - x.1))
def stepR (w : List Nat) (found : List (Nat × Nat)) (i : Nat) : List (Nat × Nat) :=
  if 0 < i ∧ w[i - 1]? = w[i]? then (match found.getLast? with | some r => found.dropLast ++ [(r.1, i + 1)] | none => []) else found ++ [(i, i + 1)]
def runsN (w : List Nat) : Nat → List (Nat × Nat)
  | 0 => []
  | n + 1 => stepR w (runsN w n) n
def runs (w : List Nat) : List (Nat × Nat) := runsN w w.length
theorem runsN_ne (w : List Nat) : ∀ n, 0 < n → runsN w n ≠ []
  | 0, h => absurd h (Nat.lt_irrefl 0)
  | n + 1, _ => by
    show stepR w (runsN w n) n ≠ []
    unfold stepR
    split
    · rename_i h
      have ne := runsN_ne w n h.1
      rw [List.getLast?_eq_getLast ne]
      simp
    · simp
theorem snoc_of {α : Type} {l : List α} (h : l ≠ []) : ∃ i x, l = i ++ [x] := ⟨l.dropLast, l.getLast h, (List.dropLast_concat_getLast h).symm⟩
theorem runsN_len (w : List Nat) : ∀ n, (runsN w n).length ≤ n
  | 0 => Nat.le_refl 0
  | n + 1 => by
    have ih := runsN_len w n
    show (stepR w (runsN w n) n).length ≤ n + 1
    unfold stepR
    split
    · rename_i h
      obtain ⟨i, x, e⟩ := snoc_of (runsN_ne w n h.1)
      rw [e] at ih ⊢
      simp at ih ⊢
      omega
    · rw [List.length_append, List.length_singleton]
      omega
/-- the stack, its top ahead: joined as long as the top has a greater share -/
def colps (ps : List (Int × Int)) : Nat → List (Nat × Nat) → List (Nat × Nat)
  | 0, st => st
  | n + 1, st => match st with
    | y :: x :: r => if lss (shAt ps x) (shAt ps y) = true then colps ps n ((x.1, y.2) :: r) else y :: x :: r
    | st => st
def stepB (ps : List (Int × Int)) (st : List (Nat × Nat)) (i : Nat) : List (Nat × Nat) := colps ps (st.length + 1) ((i, i + 1) :: st)
/-- the stack behind n places from a on -/
def stackN (ps : List (Int × Int)) (a : Nat) : Nat → List (Nat × Nat)
  | 0 => []
  | n + 1 => stepB ps (stackN ps a n) (a + n)
theorem colps_len (ps : List (Int × Int)) : ∀ n st, (colps ps n st).length ≤ st.length
  | 0, st => Nat.le_refl _
  | n + 1, [] => Nat.le_refl _
  | n + 1, [x] => Nat.le_refl _
  | n + 1, y :: x :: r => by
    show (if lss (shAt ps x) (shAt ps y) = true then colps ps n ((x.1, y.2) :: r) else y :: x :: r).length ≤ _
    split
    · have := colps_len ps n ((x.1, y.2) :: r)
      simp at this ⊢
      omega
    · exact Nat.le_refl _
theorem stackN_len (ps : List (Int × Int)) (a : Nat) : ∀ n, (stackN ps a n).length ≤ n
  | 0 => Nat.le_refl 0
  | n + 1 => by
    have ih := stackN_len ps a n
    have := colps_len ps ((stackN ps a n).length + 1) ((a + n, a + n + 1) :: stackN ps a n)
    show (colps _ _ _).length ≤ _
    simp at this
    omega
/-- the falling blocks of a run -/
def blocksIn (ps : List (Int × Int)) (x : Nat × Nat) : List (Nat × Nat) := (stackN ps x.1 (x.2 - x.1)).reverse
def blocks (ps : List (Int × Int)) (w : List Nat) : List (Nat × Nat) := (runs w).flatMap (blocksIn ps)
def swp (ps : List (Int × Int)) : List (Nat × Nat) → Option (Nat × Nat × Nat)
  | x :: y :: r => if lss (shAt ps x) (shAt ps y) = true then some (x.1, y.1, y.2) else swp ps (y :: r)
  | _ => none
def fswap (ps : List (Int × Int)) (w : List Nat) : Option (Nat × Nat × Nat) := swp ps (blocks ps w)
def fpart (ps : List (Int × Int)) (w : List Nat) : List Nat := (blocks ps w).map fun x => x.2 - x.1
/-! ### the blocks lie one behind the other -/
/-- from a to b without a gap -/
inductive Cont : Nat → Nat → List (Nat × Nat) → Prop
  | nil {a : Nat} : Cont a a []
  | cons {a b c : Nat} {r : List (Nat × Nat)} : a < c → Cont c b r → Cont a b ((a, c) :: r)
theorem Cont.append {a b c : Nat} {l r : List (Nat × Nat)} (h : Cont a b l) (t : Cont b c r) : Cont a c (l ++ r) := by
  induction h with
  | nil => exact t
  | cons h1 _ ih => exact .cons h1 (ih t)
theorem Cont.snoc {a b c : Nat} {l : List (Nat × Nat)} (h : Cont a b l) (t : b < c) : Cont a c (l ++ [(b, c)]) := h.append (.cons t .nil)
theorem Cont.le {a b : Nat} {l : List (Nat × Nat)} (h : Cont a b l) : a ≤ b := by
  induction h with
  | nil => exact Nat.le_refl _
  | cons h1 _ ih => omega
theorem Cont.split {a c : Nat} : ∀ {l r : List (Nat × Nat)}, Cont a c (l ++ r) → ∃ b, Cont a b l ∧ Cont b c r := by
  intro l
  induction l generalizing a with
  | nil => exact fun h => ⟨a, .nil, h⟩
  | cons x l ih =>
    intro r h
    cases h with
    | cons h1 h2 =>
      obtain ⟨b, h3, h4⟩ := ih h2
      exact ⟨b, .cons h1 h3, h4⟩
theorem Cont.last {a c : Nat} {l : List (Nat × Nat)} {x : Nat × Nat} (h : Cont a c (l ++ [x])) : Cont a x.1 l ∧ x.1 < x.2 ∧ x.2 = c := by
  obtain ⟨b, h1, h2⟩ := h.split
  cases h2 with
  | cons h3 h4 =>
    cases h4
    exact ⟨h1, h3, rfl⟩
theorem Cont.mem {a b : Nat} {l : List (Nat × Nat)} (h : Cont a b l) : ∀ x ∈ l, a ≤ x.1 ∧ x.1 < x.2 ∧ x.2 ≤ b := by
  induction h with
  | nil => intro x hx; cases hx
  | @cons a b c r h1 h2 ih =>
    intro x hx
    have := h2.le
    rcases List.mem_cons.mp hx with z | z
    · subst z
      exact ⟨Nat.le_refl _, h1, this⟩
    · have := ih x z
      omega
theorem runsN_cont (w : List Nat) : ∀ n, Cont 0 n (runsN w n)
  | 0 => .nil
  | n + 1 => by
    have ih := runsN_cont w n
    show Cont 0 (n + 1) (stepR w (runsN w n) n)
    unfold stepR
    split
    · rename_i h
      obtain ⟨ini, r, er⟩ := snoc_of (runsN_ne w n h.1)
      rw [er, List.getLast?_concat, List.dropLast_concat]
      rw [er] at ih
      obtain ⟨h1, h2, h3⟩ := ih.last
      exact h1.snoc (by omega)
    · exact ih.snoc (Nat.lt_succ_self _)
theorem colps_cont (ps : List (Int × Int)) (a b : Nat) : ∀ n st, Cont a b st.reverse → Cont a b (colps ps n st).reverse
  | 0, st, h => h
  | n + 1, [], h => h
  | n + 1, [x], h => h
  | n + 1, y :: x :: r, h => by
    show Cont a b (if lss (shAt ps x) (shAt ps y) = true then colps ps n ((x.1, y.2) :: r) else y :: x :: r).reverse
    split
    · refine colps_cont ps a b n _ ?_
      rw [List.reverse_cons, List.reverse_cons] at h
      obtain ⟨h1, h2, h3⟩ := h.last
      obtain ⟨h4, h5, h6⟩ := h1.last
      rw [List.reverse_cons, ← h3]
      exact h4.snoc (by show x.1 < y.2; omega)
    · exact h
theorem stackN_cont (ps : List (Int × Int)) (a : Nat) : ∀ n, Cont a (a + n) (stackN ps a n).reverse
  | 0 => .nil
  | n + 1 => by
    have ih := stackN_cont ps a n
    refine colps_cont ps a (a + (n + 1)) _ _ ?_
    rw [List.reverse_cons]
    exact ih.snoc (Nat.lt_succ_self _)
theorem blocksIn_cont (ps : List (Int × Int)) (x : Nat × Nat) (h : x.1 ≤ x.2) : Cont x.1 x.2 (blocksIn ps x) := by
  have := stackN_cont ps x.1 (x.2 - x.1)
  rw [show x.1 + (x.2 - x.1) = x.2 by omega] at this
  exact this
theorem flat_cont (ps : List (Int × Int)) {a b : Nat} {l : List (Nat × Nat)} (h : Cont a b l) : Cont a b (l.flatMap (blocksIn ps)) := by
  induction h with
  | nil => exact .nil
  | @cons a b c r h1 _ ih =>
    rw [List.flatMap_cons]
    exact (blocksIn_cont ps (a, c) (Nat.le_of_lt h1)).append ih
theorem blocks_cont (ps : List (Int × Int)) (w : List Nat) : Cont 0 w.length (blocks ps w) := flat_cont ps (runsN_cont w w.length)
end KB
namespace KB
/-! ### cuts, in plain Lean -/
def blocksOf {α : Type} : List α → List Nat → List (List α)
  | _, [] => []
  | s, l :: r => s.take l :: blocksOf (s.drop l) r
/-- no beginning has a greater share than the whole -/
def IsBlk (ps : List (Int × Int)) : Prop := ∀ k, 1 ≤ k → k < ps.length → lss (shr ps) (shr (ps.take k)) = false
theorem blocksOf_len {α : Type} : ∀ (s : List α) (ls : List Nat), (blocksOf s ls).length = ls.length
  | _, [] => rfl
  | s, l :: r => by
    show (blocksOf (s.drop l) r).length + 1 = r.length + 1
    rw [blocksOf_len]
theorem blocksOf_map {α β : Type} (f : α → β) : ∀ (s : List α) (ls : List Nat), blocksOf (s.map f) ls = (blocksOf s ls).map (List.map f)
  | _, [] => rfl
  | s, l :: r => by
    show (s.map f).take l :: blocksOf ((s.map f).drop l) r = _
    rw [← List.map_take, ← List.map_drop, blocksOf_map f]
    rfl
theorem blocksOf_at {α : Type} : ∀ (s : List α) (ls : List Nat) (i l : Nat), ls[i]? = some l → (blocksOf s ls)[i]? = some ((s.drop (ls.take i).sum).take l)
  | s, [], i, l, h => by simp at h
  | s, a :: r, 0, l, h => by
    have e : a = l := Option.some.inj h
    subst e
    rfl
  | s, a :: r, i + 1, l, h => by
    have ih := blocksOf_at (s.drop a) r i l h
    rw [List.drop_drop] at ih
    exact ih
theorem blocksOf_mem {α : Type} : ∀ (s : List α) (ls : List Nat) (b : List α), b ∈ blocksOf s ls → ∀ x ∈ b, x ∈ s
  | s, [], b, h => by cases h
  | s, a :: r, b, h => by
    intro x hx
    rcases List.mem_cons.mp h with z | z
    · rw [z] at hx
      exact List.mem_of_mem_take hx
    · exact List.mem_of_mem_drop (blocksOf_mem (s.drop a) r b z x hx)
end KB
namespace KB
open PySem PySem.Spec PyProof.Rows L2
/-! ### the text -/
def topS (i : Nat) : Stmt := PySem.Challenge.pw_keybench_k75_whole_swap_or_parting.main.body.getD i (.Pass ⟨0, 0, 0, 0⟩)

/-! ### the data -/
/-- a job: kind, time, due -/
abbrev Jb := Int × Int × Int
def jbD (j : Jb) : Dt := .tup [.int j.1, .int j.2.1, .int j.2.2]
def sD (s : List Jb) : Dt := .tup (s.map jbD)
def ssD (ss : List (List Jb)) : Dt := .tup (ss.map sD)
def nD (k : Nat) : Dt := .int (k : Int)
def wvD (w : List Nat) : Dt := .tup (w.map nD)
def mD (W : List Int) : Dt := .tup [.str "sum", .tup (W.map fun w => .tup [.tup [.int w, .int 0]])]
def shD (s : Int × Int) : Dt := .tup [.int s.1, .int s.2]
/-- a tuple or a list -/
def sqD (b : Bool) (l : List Dt) : Dt := if b then .tup l else .lst l
def wt (W : List Int) (j : Jb) : Int := W.getD j.1.toNat 0
def tm (j : Jb) : Int := j.2.1
def pr (W : List Int) (j : Jb) : Int × Int := (wt W j, tm j)
structure JOk (W : List Int) (j : Jb) : Prop where
  k0 : 0 ≤ j.1
  k1 : j.1 < W.length
  t1 : 1 ≤ j.2.1
def WOk (W : List Int) : Prop := ∀ w ∈ W, 0 ≤ w ∧ w ≤ 9
theorem atI_map {α β : Type} (f : α → β) {l : List α} {i : Nat} {a : α} (h : l[i]? = some a) : L2.atI (l.map f) (i : Int) = some (f a) := atI_nat (by rw [List.getElem?_map, h]; rfl)
theorem atI_of {α : Type} {l : List α} {i : Nat} {z : Int} {a : α} (h : l[i]? = some a) (e : z = (i : Int)) : L2.atI l z = some a := by
  rw [e]
  exact atI_nat h
theorem JOk.at_ {W : List Int} {j : Jb} (h : JOk W j) : L2.atI (W.map fun w => Dt.tup [.tup [.int w, .int 0]]) j.1 = some (.tup [.tup [.int (wt W j), .int 0]]) := by
  have h0 := h.k0
  have h1 := h.k1
  have hl : j.1.toNat < W.length := by omega
  have e : W[j.1.toNat]? = some (wt W j) := by
    unfold wt
    rw [List.getD_eq_getElem?_getD, List.getElem?_eq_getElem hl]
    rfl
  refine atI_of (i := j.1.toNat) ?_ (by omega)
  rw [List.getElem?_map, e]
  rfl
theorem JOk.wb {W : List Int} {j : Jb} (h : JOk W j) (hw : WOk W) : 0 ≤ wt W j ∧ wt W j ≤ 9 := by
  have h0 := h.k0
  have h1 := h.k1
  have hl : j.1.toNat < W.length := by omega
  unfold wt
  rw [List.getD_eq_getElem?_getD, List.getElem?_eq_getElem hl]
  exact hw _ (List.getElem_mem hl)
theorem sum_bound {l : List Int} (h : ∀ x ∈ l, 0 ≤ x ∧ x ≤ 9) : 0 ≤ l.sum ∧ l.sum ≤ 9 * l.length := by
  induction l with
  | nil => simp
  | cons a r ih =>
    have h1 := h a (List.mem_cons_self ..)
    have h2 := ih fun x hx => h x (List.mem_cons_of_mem _ hx)
    rw [List.sum_cons, List.length_cons]
    omega
theorem shr_bound {W : List Int} {js : List Jb} (hw : WOk W) (hj : ∀ j ∈ js, JOk W j) : 0 ≤ (shr (js.map (pr W))).1 ∧ (shr (js.map (pr W))).1 ≤ 9 * js.length := by
  have h := sum_bound (l := (js.map (pr W)).map (·.1)) (fun x hx => by
    obtain ⟨p, hp, rfl⟩ := List.mem_map.mp hx
    obtain ⟨j, hjm, rfl⟩ := List.mem_map.mp hp
    exact (hj j hjm).wb hw)
  rw [List.length_map, List.length_map] at h
  exact h
end KB
namespace KB
open PySem PySem.Spec PyProof.Rows L2
local macro_rules | `(tactic| walk_at "at") => `(tactic| first | assumption | (exact atI_nat (j := 0) rfl) | (exact atI_nat (j := 1) rfl) | (exact atI_nat (j := 2) rfl) | (exact atI_nat (by assumption)) | (exact atI_map _ (by assumption)) | (exact atI_of (by assumption) (by omega)))
local macro_rules | `(tactic| walk_at "side") => `(tactic| first | assumption | decide | omega | (simp; done))
local macro_rules | `(tactic| walk_at "rd") => `(tactic| first
  | exact rd_addI | exact rd_i0 | exact rd_b0 | exact rd_eq | exact rd_ne | exact rd_neB
  | (refine' rd_xT ?ka; (case ka => walk_at "at")) | (refine' rd_xL ?ka; (case ka => walk_at "at")) | (refine' rd_xM ?kb ?ka; (case kb => simp; done); (case ka => walk_at "at"))
  | (refine' rd_mulI ?ka; (case ka => walk_at "side"))
  | (refine' rd_addT ?ka; (case ka => walk_at "side"))
  | (refine' rd_i ?ka; (case ka => walk_at "side"))
  | exact rd_isN | (exact rd_isN0 (by intro z; cases z)) | exact rd_notN | (exact rd_notN1 (by intro z; cases z)) | exact rd_inB | exact rd_inT)
local macro_rules | `(tactic| walk_at "rc") => `(tactic| first | exact rc_lenT | exact rc_lenL | (refine' rc_lenM ?ka; (case ka => simp; done)) | exact rc_sumXL | exact rc_sumXT | (refine' rc_sumXM ?ka; (case ka => simp; done)) | exact rc_tupL | (refine' rc_tupM ?ka; (case ka => simp; done)) | exact rc_int | exact rc_min2 | (exact rc_isi (by decide) (by decide +kernel)) | (exact rc_isiT (by decide) (by decide +kernel) (by decide +kernel)))
local macro_rules | `(tactic| walk_at "eo") => `(tactic| first | exact eo_none | (refine' eo_some ?ka; (case ka => walk_at "ev")))
local macro_rules | `(tactic| walk_at "ea") => `(tactic| first | exact ea_nil | (refine' ea_cons ?ka ?kb; (case ka => walk_at "ev"); (case kb => walk_at "ea")))
local macro_rules | `(tactic| walk_at "en") => `(tactic| first
  | (refine' en_lst ?ka ?kb; (case ka => walk_at "ea"); (case kb => walk_at "side"))
  | (refine' en_sliceL ?ka ?kb ?kc; (case ka => walk_at "ev"); (case kb => walk_at "eo"); (case kc => walk_at "eo"))
  | (refine' en_op ?ka ?kb ?kc; (case ka => walk_at "ev"); (case kb => walk_at "ev"); (case kc => first | (refine' rn_addL ?kd; (case kd => walk_at "side")) | (refine' rn_mulL ?kd ?ke ?kf; (case kd => walk_at "side"); (case ke => walk_at "side"); (case kf => walk_at "side")))))
local macro_rules | `(tactic| walk_at "ev") => `(tactic| first
  | exact ev_var rfl | exact ev_int | exact ev_bl | exact ev_non | exact ev_str | exact ev_ty | assumption
  | (refine' ev_op ?ka ?kb ?kc; (case ka => walk_at "ev"); (case kb => walk_at "ev"); (case kc => walk_at "rd"))
  | (refine' ev_un ?ka; (case ka => walk_at "ev"))
  | (refine' ev_tup ?ka ?kb; (case ka => walk_at "ea"); (case kb => walk_at "side"))
  | (refine' ev_cb ?ka ?kb; (case ka => walk_at "ea"); (case kb => walk_at "rc"))
  | (refine' ev_sliceT ?ka ?kb ?kc; (case ka => walk_at "ev"); (case kb => walk_at "eo"); (case kc => walk_at "eo"))
  | (refine' ev_notV ?ka; (case ka => walk_at "ev"))
  | (refine' EvN.toD ?ka; (case ka => walk_at "en")))
local macro_rules | `(tactic| walk_at "n") => `(tactic| dsimp only [List.set_cons_zero, List.set_cons_succ, List.map_cons, List.map_nil, List.cons_append, List.nil_append, List.length_cons, List.length_nil, Nat.add_sub_cancel, List.replicate])
section
variable {P : Program} {w : World} {K : PySem.W.Frag} {mg : Str → Option Value} {base : Heap}

abbrev s_is_less : Stmt := topS 3
theorem sc_is_less : FnScope ["one", "other"] ["one", "other"] (defScope s_is_less) := ⟨rfl, rfl, rfl, by decide +kernel, rfl, by decide +kernel, by decide +kernel⟩
/-- whether a share is less; the weights are small -/
def R_less : List Dt → Dt → Prop := fun ds d => ∃ (a b c e : Int) (r1 r2 : List Dt), (-(2 ^ 64) < a ∧ a < 2 ^ 64) ∧ (-(2 ^ 64) < c ∧ c < 2 ^ 64) ∧ ds = [.tup (.int a :: .int b :: r1), .tup (.int c :: .int e :: r2)] ∧ d = .bl (decide (a * e < c * b))
theorem ok_is_less {f : Addr} {fd : FuncData} (F : Fun K "is_less" "is_less" s_is_less f fd) : FnOk P w K mg base CX0 1 f fd ["one", "other"] (SpD R_less) := by
  refine ok_pure F sc_is_less (fun ds d h => ?_) fun cdv A outer s H E hr => ?_
  · obtain ⟨a, b, c, e, r1, r2, _, _, rfl, _⟩ := h
    rfl
  · have nd := sc_is_less.nd
    refine ⟨_, (pss_one (ps_ret (pe_cmpR op_lt (pe_op (op_mulXK (K := K) rfl) (pe_ix (ix_seqK (K := K) rfl) (pv 0) pe_int (fun _ _ => rfl)) (pe_ix (ix_seqK (K := K) rfl) (pv 1) pe_int (fun _ _ => rfl))) (pe_op (op_mulXK (K := K) rfl) (pe_ix (ix_seqK (K := K) rfl) (pv 1) pe_int (fun _ _ => rfl)) (pe_ix (ix_seqK (K := K) rfl) (pv 0) pe_int (fun _ _ => rfl))) (nomark _)))), fun ds d h B F0 D q => ?_⟩
    obtain ⟨a, b, c, e, r1, r2, h1, h2, rfl, rfl⟩ := h
    show Tr B F0 F0 [some (.tup (.int a :: .int b :: r1)), some (.tup (.int c :: .int e :: r2))] [] _
    have m1 : CMul a e := .inl h1
    have m2 : CMul c b := .inl h2
    refine t_ret ?_ fun v F' H' g _ r => q v F' H' g r
    walk_at "ev"

abbrev s_L_is_less : Stmt := topS 27
theorem sc_L_is_less : FnScope ["_law_one", "_law_other"] ["_law_one", "_law_other"] (defScope s_L_is_less) := ⟨rfl, rfl, rfl, by decide +kernel, rfl, by decide +kernel, by decide +kernel⟩
theorem ok_L_is_less {f : Addr} {fd : FuncData} (F : Fun K "_law_is_less" "_law_is_less" s_L_is_less f fd) : FnOk P w K mg base CX0 1 f fd ["_law_one", "_law_other"] (SpD R_less) := by
  refine ok_pure F sc_L_is_less (fun ds d h => ?_) fun cdv A outer s H E hr => ?_
  · obtain ⟨a, b, c, e, r1, r2, _, _, rfl, _⟩ := h
    rfl
  · have nd := sc_L_is_less.nd
    refine ⟨_, (pss_one (ps_ret (pe_cmpR op_lt (pe_op (op_mulXK (K := K) rfl) (pe_ix (ix_seqK (K := K) rfl) (pv 0) pe_int (fun _ _ => rfl)) (pe_ix (ix_seqK (K := K) rfl) (pv 1) pe_int (fun _ _ => rfl))) (pe_op (op_mulXK (K := K) rfl) (pe_ix (ix_seqK (K := K) rfl) (pv 1) pe_int (fun _ _ => rfl)) (pe_ix (ix_seqK (K := K) rfl) (pv 0) pe_int (fun _ _ => rfl))) (nomark _)))), fun ds d h B F0 D q => ?_⟩
    obtain ⟨a, b, c, e, r1, r2, h1, h2, rfl, rfl⟩ := h
    show Tr B F0 F0 [some (.tup (.int a :: .int b :: r1)), some (.tup (.int c :: .int e :: r2))] [] _
    have m1 : CMul a e := .inl h1
    have m2 : CMul c b := .inl h2
    refine t_ret ?_ fun v F' H' g _ r => q v F' H' g r
    walk_at "ev"

abbrev s_weight_of : Stmt := topS 1
theorem sc_weight_of : FnScope ["measure", "job"] ["measure", "job"] (defScope s_weight_of) := ⟨rfl, rfl, rfl, by decide +kernel, rfl, by decide +kernel, by decide +kernel⟩
def R_weight : List Dt → Dt → Prop := fun ds d => ∃ (W : List Int) (j : Jb), JOk W j ∧ ds = [mD W, jbD j] ∧ d = .int (wt W j)
theorem ok_weight_of {f : Addr} {fd : FuncData} (F : Fun K "weight_of" "weight_of" s_weight_of f fd) : FnOk P w K mg base CX0 1 f fd ["measure", "job"] (SpD R_weight) := by
  refine ok_pure F sc_weight_of (fun ds d h => ?_) fun cdv A outer s H E hr => ?_
  · obtain ⟨W, j, _, rfl, _⟩ := h
    rfl
  · have nd := sc_weight_of.nd
    refine ⟨_, (pss_one (ps_ret (pe_ix (ix_seqK (K := K) rfl) (pe_ix (ix_seqK (K := K) rfl) (pe_ix (ix_seqK (K := K) rfl) (pe_ix (ix_seqK (K := K) rfl) (pv 0) pe_int (fun _ _ => rfl)) (pe_ix (ix_seqK (K := K) rfl) (pv 1) pe_int (fun _ _ => rfl)) (fun _ _ => rfl)) pe_int (fun _ _ => rfl)) pe_int (fun _ _ => rfl)))), fun ds d h B F0 D q => ?_⟩
    obtain ⟨W, j, hj, rfl, rfl⟩ := h
    show Tr B F0 F0 [some (mD W), some (jbD j)] [] _
    have h1 := hj.at_
    refine t_ret ?_ fun v F' H' g _ r => q v F' H' g r
    unfold mD jbD
    walk_at "ev"

/-- the share of jobs -/
def R_share : List Dt → Dt → Prop := fun ds d => ∃ (W : List Int) (js : List Jb) (b : Bool), WOk W ∧ (∀ j ∈ js, JOk W j) ∧ js.length ≤ 1000 ∧ ds = [mD W, sqD b (js.map jbD)] ∧ d = shD (shr (js.map (pr W)))
theorem it_sq {env : Env_} {mus : Mu} {tl : TE} {ds : List Dt} (b : Bool) (h : EvD tl env mus (sqD b ds)) : ItL (iOr (iList K tl) (iTup K tl)) env mus [] ds := by
  cases b with
  | true => exact it_right (it_tup h)
  | false => exact it_left (it_list h)
abbrev s_L_share : Stmt := topS 26
theorem sc_L_share : FnScope ["_law_measure", "_law_jobs", "_law_job"] ["_law_measure", "_law_jobs"] (defScope s_L_share) := ⟨rfl, rfl, rfl, by decide +kernel, rfl, by decide +kernel, by decide +kernel⟩
theorem ok_L_share {f : Addr} {fd : FuncData} (F : Fun K "_law_share" "_law_share" s_L_share f fd) (Z : Bz mg) : FnOk P w K mg base CX0 1 f fd ["_law_measure", "_law_jobs"] (SpD R_share) := by
  refine ok_pure F sc_L_share (fun ds d h => ?_) fun cdv A outer s H E hr => ?_
  · obtain ⟨W, js, b, _, _, _, rfl, _⟩ := h
    rfl
  · have nd := sc_L_share.nd
    refine ⟨_, (pss_one (ps_ret (pe_tup (pa_cons (pe_callB (cr_sumXK (K := K) rfl rfl) (by rfl) Z.sum (by decide +kernel) (pa_cons (pe_lc (own := [("_law_job", 2)]) (g := (gName 2)) (tt := tYes) rfl nd (pi_seq (pv 1)) (blkOk_by (N := ["_law_measure", "_law_jobs", "_law_job"]) (sc := defScope s_L_share) (by decide +kernel)) (fun _ _ _ _ _ => (pg_name (i := 2) nd rfl (Or.inl rfl))) (fun _ _ _ _ _ => pts_nil) (fun _ _ _ _ _ => (pe_ix (ix_seqK (K := K) rfl) (pe_ix (ix_seqK (K := K) rfl) (pe_ix (ix_seqK (K := K) rfl) (pe_ix (ix_seqK (K := K) rfl) (pv 0) pe_int (fun _ _ => rfl)) (pe_ix (ix_seqK (K := K) rfl) (pv 2) pe_int (fun _ _ => rfl)) (fun _ _ => rfl)) pe_int (fun _ _ => rfl)) pe_int (fun _ _ => rfl)))) pa_nil)) (pa_cons (pe_callB (cr_sumXK (K := K) rfl rfl) (by rfl) Z.sum (by decide +kernel) (pa_cons (pe_lc (own := [("_law_job", 2)]) (g := (gName 2)) (tt := tYes) rfl nd (pi_seq (pv 1)) (blkOk_by (N := ["_law_measure", "_law_jobs", "_law_job"]) (sc := defScope s_L_share) (by decide +kernel)) (fun _ _ _ _ _ => (pg_name (i := 2) nd rfl (Or.inl rfl))) (fun _ _ _ _ _ => pts_nil) (fun _ _ _ _ _ => (pe_ix (ix_seqK (K := K) rfl) (pv 2) pe_int (fun _ _ => rfl)))) pa_nil)) pa_nil))))), fun ds d h B F0 D q => ?_⟩
    obtain ⟨W, js, b, hw, hj, hl, rfl, rfl⟩ := h
    show Tr B F0 F0 [some (mD W), some (sqD b (js.map jbD)), none] [] _
    refine t_ret ?_ fun v F' H' g _ r => q v F' H' g r
    refine ev_tup (ea_cons (ev_cb (ea_cons (EvN.toD (en_lcM (l := js) (G := jbD) (F := fun j => Dt.int (wt W j)) (is := [2]) (it_sq b (ev_var rfl)) (by simp) .nil (by simp) (fun i j hi => ⟨_, gd_name, ?_⟩) (by omega))) ea_nil) ?_)
      (ea_cons (ev_cb (ea_cons (EvN.toD (en_lcM (l := js) (G := jbD) (F := fun j => Dt.int (tm j)) (is := [2]) (it_sq b (ev_var rfl)) (by simp) .nil (by simp) (fun i j hi => ⟨_, gd_name, ?_⟩) (by omega))) ea_nil) ?_) ea_nil)) (show 2 ≤ 100000 by decide)
    · have h1 := (hj j (List.mem_of_getElem? hi)).at_
      unfold mD jbD
      walk_at "ev"
    · have e : js.map (fun j => Dt.int (wt W j)) = ((js.map (pr W)).map (·.1)).map Dt.int := by
        rw [List.map_map, List.map_map]
        rfl
      rw [e]
      exact rc_sumXL
    · unfold jbD
      walk_at "ev"
    · have e : js.map (fun j => Dt.int (tm j)) = ((js.map (pr W)).map (·.2)).map Dt.int := by
        rw [List.map_map, List.map_map]
        rfl
      rw [e]
      exact rc_sumXL
abbrev s_share_of : Stmt := topS 2
theorem sc_share_of : FnScope ["measure", "some", "job"] ["measure", "some"] (defScope s_share_of) := ⟨rfl, rfl, rfl, by decide +kernel, rfl, by decide +kernel, by decide +kernel⟩
theorem ok_share_of {f : Addr} {fd : FuncData} (F : Fun K "share_of" "share_of" s_share_of f fd) (Z : Bz mg) (C_weight_of : Cal P w K mg base 1 "weight_of" ["measure", "job"] (SpD R_weight)) : FnOk P w K mg base CX0 2 f fd ["measure", "some"] (SpD R_share) := by
  refine ok_pure F sc_share_of (fun ds d h => ?_) fun cdv A outer s H E hr => ?_
  · obtain ⟨W, js, b, _, _, _, rfl, _⟩ := h
    rfl
  · have nd := sc_share_of.nd
    refine ⟨_, (pss_one (ps_ret (pe_tup (pa_cons (pe_callB (cr_sumXK (K := K) rfl rfl) (by rfl) Z.sum (by decide +kernel) (pa_cons (pe_lc (own := [("job", 2)]) (g := (gName 2)) (tt := tYes) rfl nd (pi_seq (pv 1)) (blkOk_by (N := ["measure", "some", "job"]) (sc := defScope s_share_of) (by decide +kernel)) (fun _ _ _ _ _ => (pg_name (i := 2) nd rfl (Or.inl rfl))) (fun _ _ _ _ _ => pts_nil) (fun _ _ _ _ _ => (pe_cal C_weight_of hr (by decide) (by rfl) (pa_cons (pv 0) (pa_cons (pv 2) pa_nil))))) pa_nil)) (pa_cons (pe_callB (cr_sumXK (K := K) rfl rfl) (by rfl) Z.sum (by decide +kernel) (pa_cons (pe_lc (own := [("job", 2)]) (g := (gName 2)) (tt := tYes) rfl nd (pi_seq (pv 1)) (blkOk_by (N := ["measure", "some", "job"]) (sc := defScope s_share_of) (by decide +kernel)) (fun _ _ _ _ _ => (pg_name (i := 2) nd rfl (Or.inl rfl))) (fun _ _ _ _ _ => pts_nil) (fun _ _ _ _ _ => (pe_ix (ix_seqK (K := K) rfl) (pv 2) pe_int (fun _ _ => rfl)))) pa_nil)) pa_nil))))), fun ds d h B F0 D q => ?_⟩
    obtain ⟨W, js, b, hw, hj, hl, rfl, rfl⟩ := h
    show Tr B F0 F0 [some (mD W), some (sqD b (js.map jbD)), none] [] _
    refine t_ret ?_ fun v F' H' g _ r => q v F' H' g r
    refine ev_tup (ea_cons (ev_cb (ea_cons (EvN.toD (en_lcM (l := js) (G := jbD) (F := fun j => Dt.int (wt W j)) (is := [2]) (it_sq b (ev_var rfl)) (by simp) .nil (by simp) (fun i j hi => ⟨_, gd_name, ?_⟩) (by omega))) ea_nil) ?_)
      (ea_cons (ev_cb (ea_cons (EvN.toD (en_lcM (l := js) (G := jbD) (F := fun j => Dt.int (tm j)) (is := [2]) (it_sq b (ev_var rfl)) (by simp) .nil (by simp) (fun i j hi => ⟨_, gd_name, ?_⟩) (by omega))) ea_nil) ?_) ea_nil)) (show 2 ≤ 100000 by decide)
    · exact ev_call (ea_cons (ev_var rfl) (ea_cons (ev_var rfl) ea_nil)) ⟨W, j, hj j (List.mem_of_getElem? hi), rfl, rfl⟩
    · have e : js.map (fun j => Dt.int (wt W j)) = ((js.map (pr W)).map (·.1)).map Dt.int := by
        rw [List.map_map, List.map_map]
        rfl
      rw [e]
      exact rc_sumXL
    · unfold jbD
      walk_at "ev"
    · have e : js.map (fun j => Dt.int (tm j)) = ((js.map (pr W)).map (·.2)).map Dt.int := by
        rw [List.map_map, List.map_map]
        rfl
      rw [e]
      exact rc_sumXL
abbrev s_share_at : Stmt := topS 8
theorem sc_share_at : FnScope ["measure", "jobs", "block"] ["measure", "jobs", "block"] (defScope s_share_at) := ⟨rfl, rfl, rfl, by decide +kernel, rfl, by decide +kernel, by decide +kernel⟩
/-- the share of the jobs at the places i to j - 1 -/
def R_shareAt : List Dt → Dt → Prop := fun ds d => ∃ (W : List Int) (js : List Jb) (b : Bool) (i j : Nat), WOk W ∧ (∀ j ∈ js, JOk W j) ∧ js.length ≤ 1000 ∧ ds = [mD W, sqD b (js.map jbD), .tup [nD i, nD j]] ∧ d = shD (shr (((js.drop i).take (j - i)).map (pr W)))
theorem ev_sqSlice {env : Env_} {mus : Mu} {te : TE} {sl sh : TO} {ds : List Dt} {lo hi : Option Int} (b : Bool) (h : EvD te env mus (sqD b ds)) (h1 : EvO sl env mus lo) (h2 : EvO sh env mus hi) : EvD (tSl (rSlX K) te sl sh) env mus (sqD b (cutD ds lo hi)) := by
  cases b with
  | true => exact ev_sliceT h h1 h2
  | false => exact (en_sliceL h h1 h2).toD
theorem ok_share_at {f : Addr} {fd : FuncData} (F : Fun K "share_at" "share_at" s_share_at f fd) (Z : Bz mg) (C_share_of : Cal P w K mg base 2 "share_of" ["measure", "some"] (SpD R_share)) : FnOk P w K mg base CX0 3 f fd ["measure", "jobs", "block"] (SpD R_shareAt) := by
  refine ok_pure F sc_share_at (fun ds d h => ?_) fun cdv A outer s H E hr => ?_
  · obtain ⟨W, js, b, i, j, _, _, _, rfl, _⟩ := h
    rfl
  · have nd := sc_share_at.nd
    refine ⟨_, (pss_one (ps_ret (pe_cal C_share_of hr (by decide) (by rfl) (pa_cons (pv 0) (pa_cons (pe_slice (sl_XK (K := K) rfl) (pv 1) (po_some (pe_ix (ix_seqK (K := K) rfl) (pv 2) pe_int (fun _ _ => rfl))) (po_some (pe_ix (ix_seqK (K := K) rfl) (pv 2) pe_int (fun _ _ => rfl)))) pa_nil))))), fun ds d h B F0 D q => ?_⟩
    obtain ⟨W, js, b, i, j, hw, hj, hl, rfl, rfl⟩ := h
    show Tr B F0 F0 [some (mD W), some (sqD b (js.map jbD)), some (.tup [.int i, .int j])] [] _
    refine t_ret ?_ fun v F' H' g _ r => q v F' H' g r
    refine ev_call (ea_cons (ev_var rfl) (ea_cons (ev_sqSlice b (ev_var rfl) (lo := some (i : Int)) (hi := some (j : Int)) ?_ ?_) ea_nil)) ⟨W, (js.drop i).take (j - i), b, hw, fun x hx => hj x (List.mem_of_mem_drop (List.mem_of_mem_take hx)), ?_, ?_, rfl⟩
    · walk_at "eo"
    · walk_at "eo"
    · rw [List.length_take, List.length_drop]
      omega
    · rw [cutD_map, cutD_nn]
end
end KB
namespace KB
open PySem PySem.Spec PyProof.Rows L2
local macro_rules | `(tactic| walk_at "at") => `(tactic| first | assumption | (exact atI_nat (j := 0) rfl) | (exact atI_nat (j := 1) rfl) | (exact atI_nat (j := 2) rfl) | (exact atI_nat (by assumption)) | (exact atI_map _ (by assumption)) | (exact atI_of (by assumption) (by omega)))
local macro_rules | `(tactic| walk_at "side") => `(tactic| first | assumption | decide | omega | (simp; done))
local macro_rules | `(tactic| walk_at "rd") => `(tactic| first
  | exact rd_addI | exact rd_i0 | exact rd_b0 | exact rd_eq | exact rd_ne | exact rd_neB
  | (refine' rd_xT ?ka; (case ka => walk_at "at")) | (refine' rd_xL ?ka; (case ka => walk_at "at")) | (refine' rd_xM ?kb ?ka; (case kb => simp; done); (case ka => walk_at "at"))
  | (refine' rd_mulI ?ka; (case ka => walk_at "side"))
  | (refine' rd_addT ?ka; (case ka => walk_at "side"))
  | (refine' rd_i ?ka; (case ka => walk_at "side"))
  | exact rd_isN | (exact rd_isN0 (by intro z; cases z)) | exact rd_notN | (exact rd_notN1 (by intro z; cases z)) | exact rd_inB | exact rd_inT)
local macro_rules | `(tactic| walk_at "rc") => `(tactic| first | exact rc_lenT | exact rc_lenL | (refine' rc_lenM ?ka; (case ka => simp; done)) | exact rc_sumXL | exact rc_sumXT | (refine' rc_sumXM ?ka; (case ka => simp; done)) | exact rc_tupL | (refine' rc_tupM ?ka; (case ka => simp; done)) | exact rc_int | exact rc_min2 | (exact rc_isi (by decide) (by decide +kernel)) | (exact rc_isiT (by decide) (by decide +kernel) (by decide +kernel)))
local macro_rules | `(tactic| walk_at "eo") => `(tactic| first | exact eo_none | (refine' eo_some ?ka; (case ka => walk_at "ev")))
local macro_rules | `(tactic| walk_at "ea") => `(tactic| first | exact ea_nil | (refine' ea_cons ?ka ?kb; (case ka => walk_at "ev"); (case kb => walk_at "ea")))
local macro_rules | `(tactic| walk_at "en") => `(tactic| first
  | (refine' en_lst ?ka ?kb; (case ka => walk_at "ea"); (case kb => walk_at "side"))
  | (refine' en_sliceL ?ka ?kb ?kc; (case ka => walk_at "ev"); (case kb => walk_at "eo"); (case kc => walk_at "eo"))
  | (refine' en_op ?ka ?kb ?kc; (case ka => walk_at "ev"); (case kb => walk_at "ev"); (case kc => first | (refine' rn_addL ?kd; (case kd => walk_at "side")) | (refine' rn_mulL ?kd ?ke ?kf; (case kd => walk_at "side"); (case ke => walk_at "side"); (case kf => walk_at "side")))))
local macro_rules | `(tactic| walk_at "ev") => `(tactic| first
  | exact ev_var rfl | exact ev_int | exact ev_bl | exact ev_non | exact ev_str | exact ev_ty | assumption
  | (refine' ev_op ?ka ?kb ?kc; (case ka => walk_at "ev"); (case kb => walk_at "ev"); (case kc => walk_at "rd"))
  | (refine' ev_un ?ka; (case ka => walk_at "ev"))
  | (refine' ev_tup ?ka ?kb; (case ka => walk_at "ea"); (case kb => walk_at "side"))
  | (refine' ev_cb ?ka ?kb; (case ka => walk_at "ea"); (case kb => walk_at "rc"))
  | (refine' ev_sliceT ?ka ?kb ?kc; (case ka => walk_at "ev"); (case kb => walk_at "eo"); (case kc => walk_at "eo"))
  | (refine' ev_notV ?ka; (case ka => walk_at "ev"))
  | (refine' EvN.toD ?ka; (case ka => walk_at "en")))
local macro_rules | `(tactic| walk_at "n") => `(tactic| dsimp only [List.set_cons_zero, List.set_cons_succ, List.map_cons, List.map_nil, List.cons_append, List.nil_append, List.length_cons, List.length_nil, Nat.add_sub_cancel, List.replicate])
theorem ixN_nat {n k : Nat} (h : k < n) : ixN n (k : Int) = some k := by
  unfold ixN
  rw [if_pos (by omega), if_pos (by omega), Int.toNat_natCast]
theorem len_nD (l : List Nat) : (l.map nD).length = l.length := List.length_map ..
theorem set_nD (l : List Nat) (k n : Nat) : (l.map nD).set k (nD n) = (l.set k n).map nD := by rw [List.map_set]
section
variable {P : Program} {w : World} {K : PySem.W.Frag} {mg : Str → Option Value} {base : Heap}
/-- the jobs of a weave, place by place -/
def R_jobs : List Dt → Dt → Prop := fun ds d => ∃ (ss : List (List Jb)) (wv : List Nat) (js : List Jb), Wv ss wv js ∧ ss.length ≤ 1000 ∧ wv.length ≤ 1000 ∧ ds = [ssD ss, wvD wv] ∧ d = .lst (js.map jbD)
theorem places0 {env : Env_} {mus : Mu} {ta : TE} {ss : List (List Jb)} (hl : ss.length ≤ 1000) (h : EvD ta env mus (ssD ss)) :
    EvN (tOp (rMulX K) (tLst (tCons (tC (.int 0)) tNil)) (tCB (rLenS K) (tCons ta tNil))) env mus ((List.replicate ss.length 0).map nD) := by
  have e : (List.replicate ss.length 0).map nD = (List.replicate ((ss.length : Nat) : Int).toNat [Dt.int 0]).flatten := by
    rw [rep_flat, List.map_replicate, Int.toNat_natCast]
    rfl
  rw [e]
  refine en_op (en_lst (ea_cons ev_int ea_nil) (show 1 ≤ 100000 by decide)).toD (d2 := .int ((ss.map sD).length : Nat)) (ev_cb (ea_cons h ea_nil) rc_lenT) ?_
  rw [List.length_map]
  exact rn_mulL (by omega) (by omega) (show 1 ≤ 100 by decide)

abbrev s_jobs_of_weave : Stmt := topS 5
theorem sc_jobs_of_weave : FnScope ["strings", "weave", "places", "found", "index"] ["strings", "weave"] (defScope s_jobs_of_weave) := ⟨rfl, rfl, rfl, by decide +kernel, rfl, by decide +kernel, by decide +kernel⟩
theorem ok_jobs_of_weave {f : Addr} {fd : FuncData} (F : Fun K "jobs_of_weave" "jobs_of_weave" s_jobs_of_weave f fd) (Z : Bz mg) : FnOk P w K mg base CX0 1 f fd ["strings", "weave"] (SpD R_jobs) := by
  refine ok_pure F sc_jobs_of_weave (fun ds d h => ?_) fun cdv A outer s H E hr => ?_
  · obtain ⟨ss, wv, js, _, _, _, rfl, _⟩ := h
    rfl
  · have nd := sc_jobs_of_weave.nd
    refine ⟨_, (pss_cons (ps_par (i := 2) (j := 3) rfl nd rfl rfl (by decide) rfl rfl (pa_cons (pe_op (op_mulXK (K := K) rfl) (pe_lst (pa_cons pe_int pa_nil)) (pe_callB (call_lenK (K := K) rfl) (by rfl) Z.len (by decide +kernel) (pa_cons (pv 0) pa_nil))) (pa_cons (pe_lst pa_nil) pa_nil)) rfl)
      (pss_cons (ps_for PassesOwn.never rfl (pi_seq (pv 1)) (pg_name (i := 4) nd rfl (Or.inl rfl)) (pss_cons (ps_expr (pe_bm PySem.F.plainAttrs_list PySem.F.slot_list_append PySem.F.type_list_append mt_append (pv 3) (pa_cons (pe_ix (ix_seqK (K := K) rfl) (pe_ix (ix_seqK (K := K) rfl) (pv 0) (pv 4) (fun _ _ => rfl)) (pe_ix (ix_seqK (K := K) rfl) (pv 2) (pv 4) (fun _ _ => rfl)) (fun _ _ => rfl)) pa_nil)))
      (pss_one (ps_augS (pv 2) (pv 4) (get_listK (K := K) rfl) pe_int ip_add set_list))))
      (pss_one (ps_ret (pv 3))))), fun ds d h B F0 D q => ?_⟩
    obtain ⟨ss, wv, js, hw, hl1, hl2, rfl, rfl⟩ := h
    show Tr B F0 F0 [some (ssD ss), some (wvD wv), none, none, none] [] _
    refine t_seq (t_parNN (places0 hl1 (ev_var rfl)) (en_lst ea_nil (Nat.zero_le _)) fun p r hpr => t_seq ?_)
    have hjl := hw.len
    refine t_for (it_right (it_tup (ds := wv.map nD) (ev_var rfl))) .nil (fun i env mus => ∃ (pl : List Nat) (ix : Option Dt), env = [some (ssD ss), some (wvD wv), some (.ptr p), some (.ptr r), ix] ∧
      mus = [(p, .lst (pl.map nD)), (r, .lst ((js.take i).map jbD))] ∧ pl.length = ss.length ∧ Wv (dropE ss pl) (wv.drop i) (js.drop i))
      ⟨_, none, rfl, rfl, List.length_replicate, by rw [dropE_zero]; exact hw⟩ (fun _ _ _ _ _ x hx => nomatch hx) ?_ ?_
    · rintro X' hX i d env mus hd ⟨pl, ix, rfl, rfl, hpl, hwv⟩
      rw [List.getElem?_map] at hd
      obtain ⟨k, hk, rfl⟩ := Option.map_eq_some_iff.mp hd
      obtain ⟨j, rr, h1, hj, h2⟩ := hwv.step hk
      obtain ⟨st, n, g1, g2, g3, g4⟩ := dropE_at h1
      have hkp : k < pl.length := getlt g2
      refine ⟨_, _, gd_name, ?_⟩
      show Tr B F0 X' [some (ssD ss), some (wvD wv), some (.ptr p), some (.ptr r), some (nD k)] _ _
      have a1 : L2.atI (ss.map sD) (k : Int) = some (sD st) := atI_map sD g1
      have a2 : L2.atI (pl.map nD) (k : Int) = some (nD n) := atI_map nD g2
      have a3 : L2.atI (st.map jbD) (n : Int) = some (jbD j) := atI_map jbD g3
      have ek : ∀ {mus}, EvD (tVar 4) [some (ssD ss), some (wvD wv), some (.ptr p), some (.ptr r), some (nD k)] mus (.int (k : Int)) := ev_var rfl
      refine t_seq (t_append (j := 1) rfl (ev_var rfl) (d := jbD j) ?_ ?_ (t_augsub (j := 0) rfl (ev_var rfl) ek ev_int (ixN_nat (by rw [len_nD]; exact hkp)) (by rw [List.getElem?_map, g2]; rfl) (tr_asr ⟨pl.set k (n + 1), some (nD k), rfl, ?_, ?_, ?_⟩)))
      · refine ev_op (ev_op (ev_var rfl) ek (rd_xT a1)) (ev_op (ev_var rfl) ek (rd_xM (by simp) a2)) (rd_xT a3)
      · rw [List.length_map, List.length_take]
        omega
      · show [(p, MO.lst ((pl.map nD).set k (.int ((n : Int) + 1)))), (r, MO.lst ((js.take i).map jbD ++ [jbD j]))] = _
        rw [show Dt.int ((n : Int) + 1) = nD (n + 1) by unfold nD; congr 1, set_nD, take_succ_get hj, List.map_append]
        rfl
      · rw [List.length_set]; exact hpl
      · rw [g4]; exact h2
    · rintro env mus ⟨pl, ix, rfl, rfl, hpl, hwv⟩
      rw [List.length_map, hjl, List.take_length]
      refine t_freeze (i := 3) (j := 1) rfl rfl ?_
      refine t_ret (ev_var rfl) fun v F' H' g _ r => q v F' H' g r
end
end KB
namespace KB
open PySem PySem.Spec PyProof.Rows L2
local macro_rules | `(tactic| walk_at "at") => `(tactic| first | assumption | (exact atI_nat (j := 0) rfl) | (exact atI_nat (j := 1) rfl) | (exact atI_nat (j := 2) rfl) | (exact atI_nat (by assumption)) | (exact atI_map _ (by assumption)) | (exact atI_of (by assumption) (by omega)))
local macro_rules | `(tactic| walk_at "side") => `(tactic| first | assumption | decide | omega | (simp; done))
local macro_rules | `(tactic| walk_at "rd") => `(tactic| first
  | exact rd_addI | exact rd_i0 | exact rd_b0 | exact rd_eq | exact rd_ne | exact rd_neB
  | (refine' rd_xT ?ka; (case ka => walk_at "at")) | (refine' rd_xL ?ka; (case ka => walk_at "at")) | (refine' rd_xM ?kb ?ka; (case kb => simp; done); (case ka => walk_at "at"))
  | (refine' rd_mulI ?ka; (case ka => walk_at "side"))
  | (refine' rd_addT ?ka; (case ka => walk_at "side"))
  | (refine' rd_i ?ka; (case ka => walk_at "side"))
  | exact rd_isN | (exact rd_isN0 (by intro z; cases z)) | exact rd_notN | (exact rd_notN1 (by intro z; cases z)) | exact rd_inB | exact rd_inT)
local macro_rules | `(tactic| walk_at "rc") => `(tactic| first | exact rc_lenT | exact rc_lenL | (refine' rc_lenM ?ka; (case ka => simp; done)) | exact rc_sumXL | exact rc_sumXT | (refine' rc_sumXM ?ka; (case ka => simp; done)) | exact rc_tupL | (refine' rc_tupM ?ka; (case ka => simp; done)) | exact rc_int | exact rc_min2 | (exact rc_isi (by decide) (by decide +kernel)) | (exact rc_isiT (by decide) (by decide +kernel) (by decide +kernel)))
local macro_rules | `(tactic| walk_at "eo") => `(tactic| first | exact eo_none | (refine' eo_some ?ka; (case ka => walk_at "ev")))
local macro_rules | `(tactic| walk_at "ea") => `(tactic| first | exact ea_nil | (refine' ea_cons ?ka ?kb; (case ka => walk_at "ev"); (case kb => walk_at "ea")))
local macro_rules | `(tactic| walk_at "en") => `(tactic| first
  | (refine' en_lst ?ka ?kb; (case ka => walk_at "ea"); (case kb => walk_at "side"))
  | (refine' en_sliceL ?ka ?kb ?kc; (case ka => walk_at "ev"); (case kb => walk_at "eo"); (case kc => walk_at "eo"))
  | (refine' en_op ?ka ?kb ?kc; (case ka => walk_at "ev"); (case kb => walk_at "ev"); (case kc => first | (refine' rn_addL ?kd; (case kd => walk_at "side")) | (refine' rn_mulL ?kd ?ke ?kf; (case kd => walk_at "side"); (case ke => walk_at "side"); (case kf => walk_at "side")))))
local macro_rules | `(tactic| walk_at "ev") => `(tactic| first
  | exact ev_var rfl | exact ev_int | exact ev_bl | exact ev_non | exact ev_str | exact ev_ty | assumption
  | (refine' ev_op ?ka ?kb ?kc; (case ka => walk_at "ev"); (case kb => walk_at "ev"); (case kc => walk_at "rd"))
  | (refine' ev_un ?ka; (case ka => walk_at "ev"))
  | (refine' ev_tup ?ka ?kb; (case ka => walk_at "ea"); (case kb => walk_at "side"))
  | (refine' ev_cb ?ka ?kb; (case ka => walk_at "ea"); (case kb => walk_at "rc"))
  | (refine' ev_sliceT ?ka ?kb ?kc; (case ka => walk_at "ev"); (case kb => walk_at "eo"); (case kc => walk_at "eo"))
  | (refine' ev_notV ?ka; (case ka => walk_at "ev"))
  | (refine' EvN.toD ?ka; (case ka => walk_at "en")))
local macro_rules | `(tactic| walk_at "n") => `(tactic| dsimp only [List.set_cons_zero, List.set_cons_succ, List.map_cons, List.map_nil, List.cons_append, List.nil_append, List.length_cons, List.length_nil, Nat.add_sub_cancel, List.replicate])
section
variable {P : Program} {w : World} {K : PySem.W.Frag} {mg : Str → Option Value} {base : Heap}
abbrev s_L_jobs_of : Stmt := topS 36
theorem sc_L_jobs_of : FnScope ["_law_strings", "_law_weave", "_law_places", "_law_found", "_law_k"] ["_law_strings", "_law_weave"] (defScope s_L_jobs_of) := ⟨rfl, rfl, rfl, by decide +kernel, rfl, by decide +kernel, by decide +kernel⟩
theorem ok_L_jobs_of {f : Addr} {fd : FuncData} (F : Fun K "_law_jobs_of" "_law_jobs_of" s_L_jobs_of f fd) (Z : Bz mg) : FnOk P w K mg base CX0 1 f fd ["_law_strings", "_law_weave"] (SpD R_jobs) := by
  refine ok_pure F sc_L_jobs_of (fun ds d h => ?_) fun cdv A outer s H E hr => ?_
  · obtain ⟨ss, wv, js, _, _, _, rfl, _⟩ := h
    rfl
  · have nd := sc_L_jobs_of.nd
    refine ⟨_, (pss_cons (ps_par (i := 2) (j := 3) rfl nd rfl rfl (by decide) rfl rfl (pa_cons (pe_op (op_mulXK (K := K) rfl) (pe_lst (pa_cons pe_int pa_nil)) (pe_callB (call_lenK (K := K) rfl) (by rfl) Z.len (by decide +kernel) (pa_cons (pv 0) pa_nil))) (pa_cons (pe_lst pa_nil) pa_nil)) rfl)
      (pss_cons (ps_for PassesOwn.never rfl (pi_seq (pv 1)) (pg_name (i := 4) nd rfl (Or.inl rfl)) (pss_cons (ps_expr (pe_bm PySem.F.plainAttrs_list PySem.F.slot_list_append PySem.F.type_list_append mt_append (pv 3) (pa_cons (pe_ix (ix_seqK (K := K) rfl) (pe_ix (ix_seqK (K := K) rfl) (pv 0) (pv 4) (fun _ _ => rfl)) (pe_ix (ix_seqK (K := K) rfl) (pv 2) (pv 4) (fun _ _ => rfl)) (fun _ _ => rfl)) pa_nil)))
      (pss_one (ps_asg (pe_op (op_addXK (K := K) rfl) (pe_ix (ix_seqK (K := K) rfl) (pv 2) (pv 4) (fun _ _ => rfl)) pe_int) (pg_sub (pv 2) (pv 4) set_list)))))
      (pss_one (ps_ret (pv 3))))), fun ds d h B F0 D q => ?_⟩
    obtain ⟨ss, wv, js, hw, hl1, hl2, rfl, rfl⟩ := h
    show Tr B F0 F0 [some (ssD ss), some (wvD wv), none, none, none] [] _
    refine t_seq (t_parNN (places0 hl1 (ev_var rfl)) (en_lst ea_nil (Nat.zero_le _)) fun p r hpr => t_seq ?_)
    have hjl := hw.len
    refine t_for (it_right (it_tup (ds := wv.map nD) (ev_var rfl))) .nil (fun i env mus => ∃ (pl : List Nat) (ix : Option Dt), env = [some (ssD ss), some (wvD wv), some (.ptr p), some (.ptr r), ix] ∧
      mus = [(p, .lst (pl.map nD)), (r, .lst ((js.take i).map jbD))] ∧ pl.length = ss.length ∧ Wv (dropE ss pl) (wv.drop i) (js.drop i))
      ⟨_, none, rfl, rfl, List.length_replicate, by rw [dropE_zero]; exact hw⟩ (fun _ _ _ _ _ x hx => nomatch hx) ?_ ?_
    · rintro X' hX i d env mus hd ⟨pl, ix, rfl, rfl, hpl, hwv⟩
      rw [List.getElem?_map] at hd
      obtain ⟨k, hk, rfl⟩ := Option.map_eq_some_iff.mp hd
      obtain ⟨j, rr, h1, hj, h2⟩ := hwv.step hk
      obtain ⟨st, n, g1, g2, g3, g4⟩ := dropE_at h1
      have hkp : k < pl.length := getlt g2
      refine ⟨_, _, gd_name, ?_⟩
      show Tr B F0 X' [some (ssD ss), some (wvD wv), some (.ptr p), some (.ptr r), some (nD k)] _ _
      have a1 : L2.atI (ss.map sD) (k : Int) = some (sD st) := atI_map sD g1
      have a2 : L2.atI (pl.map nD) (k : Int) = some (nD n) := atI_map nD g2
      have a3 : L2.atI (st.map jbD) (n : Int) = some (jbD j) := atI_map jbD g3
      have ek : ∀ {mus}, EvD (tVar 4) [some (ssD ss), some (wvD wv), some (.ptr p), some (.ptr r), some (nD k)] mus (.int (k : Int)) := ev_var rfl
      refine t_seq (t_append (j := 1) rfl (ev_var rfl) (d := jbD j) ?_ ?_ ?_)
      rotate_left 2
      walk_at "n"
      refine t_setitem (j := 0) (d := nD (n + 1)) (n := k) (z := (k : Int)) rfl ?_ (ev_var rfl) ek (ixN_nat (by rw [len_nD]; exact hkp)) ?_
      rotate_left 1
      refine tr_asr ⟨pl.set k (n + 1), some (nD k), rfl, ?_, ?_, ?_⟩
      rotate_left 3
      · refine ev_op (ev_op (ev_var rfl) ek (rd_xT a1)) (ev_op (ev_var rfl) ek (rd_xM (by simp) a2)) (rd_xT a3)
      · rw [List.length_map, List.length_take]
        omega
      · exact ev_op (d2 := .int 1) (ev_op (d := nD n) (ev_var rfl) ek (rd_xM (by simp) a2)) ev_int rd_addI
      · show [(p, MO.lst ((pl.map nD).set k (nD (n + 1)))), (r, MO.lst ((js.take i).map jbD ++ [jbD j]))] = _
        rw [set_nD, take_succ_get hj, List.map_append]
        rfl
      · rw [List.length_set]; exact hpl
      · rw [g4]; exact h2
    · rintro env mus ⟨pl, ix, rfl, rfl, hpl, hwv⟩
      rw [List.length_map, hjl, List.take_length]
      refine t_freeze (i := 3) (j := 1) rfl rfl ?_
      refine t_ret (ev_var rfl) fun v F' H' g _ r => q v F' H' g r

/-- the value of a weave -/
def R_value : List Dt → Dt → Prop := fun ds d => ∃ (W : List Int) (ss : List (List Jb)) (start : Int) (wv : List Nat) (js : List Jb), WOk W ∧ (∀ j ∈ js, JOk W j) ∧ Wv ss wv js ∧ ss.length ≤ 1000 ∧ wv.length ≤ 1000 ∧ ds = [mD W, ssD ss, .int start, wvD wv] ∧ d = .int (val start (js.map (pr W)))
abbrev s_L_weave_value : Stmt := topS 25
theorem sc_L_weave_value : FnScope ["_law_measure", "_law_strings", "_law_start", "_law_weave", "_law_places", "_law_hour", "_law_total_cost", "_law_k", "_law_job"] ["_law_measure", "_law_strings", "_law_start", "_law_weave"] (defScope s_L_weave_value) := ⟨rfl, rfl, rfl, by decide +kernel, rfl, by decide +kernel, by decide +kernel⟩
theorem ok_L_weave_value {f : Addr} {fd : FuncData} (F : Fun K "_law_weave_value" "_law_weave_value" s_L_weave_value f fd) (Z : Bz mg) : FnOk P w K mg base CX0 1 f fd ["_law_measure", "_law_strings", "_law_start", "_law_weave"] (SpD R_value) := by
  refine ok_pure F sc_L_weave_value (fun ds d h => ?_) fun cdv A outer s H E hr => ?_
  · obtain ⟨W, ss, start, wv, js, _, _, _, _, _, rfl, _⟩ := h
    rfl
  · have nd := sc_L_weave_value.nd
    refine ⟨_, (pss_cons (ps_par3 (i := 4) (j := 5) (l := 6) rfl nd rfl rfl rfl (by decide) (by decide) (by decide) rfl rfl rfl (pa_cons (pe_op (op_mulXK (K := K) rfl) (pe_lst (pa_cons pe_int pa_nil)) (pe_callB (call_lenK (K := K) rfl) (by rfl) Z.len (by decide +kernel) (pa_cons (pv 1) pa_nil))) (pa_cons (pv 2) (pa_cons pe_int pa_nil))) rfl)
      (pss_cons (ps_for PassesOwn.never rfl (pi_seq (pv 3)) (pg_name (i := 7) nd rfl (Or.inl rfl)) (pss_cons (ps_set (i := 8) nd rfl (Or.inl rfl) (pe_ix (ix_seqK (K := K) rfl) (pe_ix (ix_seqK (K := K) rfl) (pv 1) (pv 7) (fun _ _ => rfl)) (pe_ix (ix_seqK (K := K) rfl) (pv 4) (pv 7) (fun _ _ => rfl)) (fun _ _ => rfl)))
      (pss_cons (ps_asg (pe_op (op_addXK (K := K) rfl) (pe_ix (ix_seqK (K := K) rfl) (pv 4) (pv 7) (fun _ _ => rfl)) pe_int) (pg_sub (pv 4) (pv 7) set_list))
      (pss_cons (ps_set (i := 5) nd rfl (Or.inl rfl) (pe_op (op_addXK (K := K) rfl) (pv 5) (pe_ix (ix_seqK (K := K) rfl) (pv 8) pe_int (fun _ _ => rfl))))
      (pss_one (ps_set (i := 6) nd rfl (Or.inl rfl) (pe_op (op_addXK (K := K) rfl) (pv 6) (pe_op (op_mulXK (K := K) rfl) (pe_ix (ix_seqK (K := K) rfl) (pe_ix (ix_seqK (K := K) rfl) (pe_ix (ix_seqK (K := K) rfl) (pe_ix (ix_seqK (K := K) rfl) (pv 0) pe_int (fun _ _ => rfl)) (pe_ix (ix_seqK (K := K) rfl) (pv 8) pe_int (fun _ _ => rfl)) (fun _ _ => rfl)) pe_int (fun _ _ => rfl)) pe_int (fun _ _ => rfl)) (pv 5)))))))))
      (pss_one (ps_ret (pv 6))))), fun ds d h B F0 D q => ?_⟩
    obtain ⟨W, ss, start, wv, js, hW, hJ, hw, hl1, hl2, rfl, rfl⟩ := h
    show Tr B F0 F0 [some (mD W), some (ssD ss), some (.int start), some (wvD wv), none, none, none, none, none] [] _
    refine t_seq (t_par3NDD (places0 hl1 (ev_var rfl)) (ev_var rfl) ev_int fun p => t_seq ?_)
    have hjl := hw.len
    refine t_for (it_right (it_tup (ds := wv.map nD) (ev_var rfl))) .nil (fun i env mus => ∃ (pl : List Nat) (ho to : Int) (ix jx : Option Dt), env = [some (mD W), some (ssD ss), some (.int start), some (wvD wv), some (.ptr p), some (.int ho), some (.int to), ix, jx] ∧
      mus = [(p, .lst (pl.map nD))] ∧ pl.length = ss.length ∧ Wv (dropE ss pl) (wv.drop i) (js.drop i) ∧ to + val ho ((js.drop i).map (pr W)) = val start (js.map (pr W)))
      ⟨_, start, 0, none, none, rfl, rfl, List.length_replicate, by rw [dropE_zero]; exact hw, by rw [List.drop_zero, Int.zero_add]⟩ (fun _ _ _ _ _ x hx => nomatch hx) ?_ ?_
    · rintro X' hX i d env mus hd ⟨pl, ho, to, ix, jx, rfl, rfl, hpl, hwv, hv⟩
      rw [List.getElem?_map] at hd
      obtain ⟨k, hk, rfl⟩ := Option.map_eq_some_iff.mp hd
      obtain ⟨j, rr, h1, hj, h2⟩ := hwv.step hk
      obtain ⟨st, n, g1, g2, g3, g4⟩ := dropE_at h1
      have hkp : k < pl.length := getlt g2
      have jok := hJ j (List.mem_of_getElem? hj)
      have hwb := jok.wb hW
      refine ⟨_, _, gd_name, ?_⟩
      show Tr B F0 X' [some (mD W), some (ssD ss), some (.int start), some (wvD wv), some (.ptr p), some (.int ho), some (.int to), some (nD k), jx] _ _
      have a1 : L2.atI (ss.map sD) (k : Int) = some (sD st) := atI_map sD g1
      have a2 : L2.atI (pl.map nD) (k : Int) = some (nD n) := atI_map nD g2
      have a3 : L2.atI (st.map jbD) (n : Int) = some (jbD j) := atI_map jbD g3
      have a4 := jok.at_
      refine t_seq (t_asg (d := jbD j) (ev_op (ev_op (ev_var rfl) (ev_var (d := .int (k : Int)) rfl) (rd_xT a1)) (ev_op (ev_var rfl) (ev_var (d := .int (k : Int)) rfl) (rd_xM (by simp) a2)) (rd_xT a3)) ?_)
      show Tr B F0 X' [some (mD W), some (ssD ss), some (.int start), some (wvD wv), some (.ptr p), some (.int ho), some (.int to), some (nD k), some (jbD j)] _ _
      refine t_seq ?_
      walk_at "n"
      refine t_setitem (j := 0) (d := nD (n + 1)) (n := k) (z := (k : Int)) rfl ?_ (ev_var rfl) (ev_var rfl) (ixN_nat (by rw [len_nD]; exact hkp)) ?_
      rotate_left 1
      refine t_seq ?_
      walk_at "n"
      refine t_asg (d := .int (ho + tm j)) ?_ ?_
      rotate_left 2
      · exact ev_op (d2 := .int 1) (ev_op (d := nD n) (ev_var rfl) (ev_var (d := .int (k : Int)) rfl) (rd_xM (by simp) a2)) ev_int rd_addI
      · unfold jbD
        exact ev_op (d1 := .int ho) (d2 := .int (tm j)) (ev_var rfl) (ev_op (ev_var rfl) ev_int (rd_xT (atI_nat (j := 1) rfl))) rd_addI
      walk_at "n"
      refine t_asg (d := .int (to + wt W j * (ho + tm j))) ?_ ?_
      rotate_left 1
      refine tr_asr ⟨pl.set k (n + 1), ho + tm j, to + wt W j * (ho + tm j), some (nD k), some (jbD j), rfl, ?_, ?_, ?_, ?_⟩
      rotate_left 4
      · have m1 : CMul (wt W j) (ho + tm j) := .inl ⟨by omega, by omega⟩
        unfold mD jbD
        walk_at "ev"
      · show [(p, MO.lst ((pl.map nD).set k (nD (n + 1))))] = _
        rw [set_nD]
      · rw [List.length_set]; exact hpl
      · rw [g4]; exact h2
      · rw [drop_get hj, List.map_cons] at hv
        rw [← hv]
        show _ = to + (wt W j * (ho + tm j) + val (ho + tm j) _)
        omega
    · rintro env mus ⟨pl, ho, to, ix, jx, rfl, rfl, hpl, hwv, hv⟩
      rw [List.length_map, hjl, List.drop_length] at hv
      have e : to = val start (js.map (pr W)) := by
        rw [← hv]
        show to = to + 0
        omega
      rw [← e] at q
      exact t_ret (ev_var rfl) fun v F' H' g _ r => q v F' H' g r
end
end KB
namespace KB
open PySem PySem.Spec PyProof.Rows L2
local macro_rules | `(tactic| walk_at "at") => `(tactic| first | assumption | (exact atI_nat (j := 0) rfl) | (exact atI_nat (j := 1) rfl) | (exact atI_nat (j := 2) rfl) | (exact atI_nat (by assumption)) | (exact atI_map _ (by assumption)) | (exact atI_of (by assumption) (by omega)))
local macro_rules | `(tactic| walk_at "side") => `(tactic| first | assumption | decide | omega | (simp; done))
local macro_rules | `(tactic| walk_at "rd") => `(tactic| first
  | exact rd_addI | exact rd_i0 | exact rd_b0 | exact rd_eq | exact rd_ne | exact rd_neB
  | (refine' rd_xT ?ka; (case ka => walk_at "at")) | (refine' rd_xL ?ka; (case ka => walk_at "at")) | (refine' rd_xM ?kb ?ka; (case kb => simp; done); (case ka => walk_at "at"))
  | (refine' rd_mulI ?ka; (case ka => walk_at "side"))
  | (refine' rd_addT ?ka; (case ka => walk_at "side"))
  | (refine' rd_i ?ka; (case ka => walk_at "side"))
  | exact rd_isN | (exact rd_isN0 (by intro z; cases z)) | exact rd_notN | (exact rd_notN1 (by intro z; cases z)) | exact rd_inB | exact rd_inT)
local macro_rules | `(tactic| walk_at "rc") => `(tactic| first | exact rc_lenT | exact rc_lenL | (refine' rc_lenM ?ka; (case ka => simp; done)) | exact rc_sumXL | exact rc_sumXT | (refine' rc_sumXM ?ka; (case ka => simp; done)) | exact rc_tupL | (refine' rc_tupM ?ka; (case ka => simp; done)) | exact rc_int | exact rc_min2 | (exact rc_isi (by decide) (by decide +kernel)) | (exact rc_isiT (by decide) (by decide +kernel) (by decide +kernel)))
local macro_rules | `(tactic| walk_at "eo") => `(tactic| first | exact eo_none | (refine' eo_some ?ka; (case ka => walk_at "ev")))
local macro_rules | `(tactic| walk_at "ea") => `(tactic| first | exact ea_nil | (refine' ea_cons ?ka ?kb; (case ka => walk_at "ev"); (case kb => walk_at "ea")))
local macro_rules | `(tactic| walk_at "en") => `(tactic| first
  | (refine' en_lst ?ka ?kb; (case ka => walk_at "ea"); (case kb => walk_at "side"))
  | (refine' en_sliceL ?ka ?kb ?kc; (case ka => walk_at "ev"); (case kb => walk_at "eo"); (case kc => walk_at "eo"))
  | (refine' en_op ?ka ?kb ?kc; (case ka => walk_at "ev"); (case kb => walk_at "ev"); (case kc => first | (refine' rn_addL ?kd; (case kd => walk_at "side")) | (refine' rn_mulL ?kd ?ke ?kf; (case kd => walk_at "side"); (case ke => walk_at "side"); (case kf => walk_at "side")))))
local macro_rules | `(tactic| walk_at "ev") => `(tactic| first
  | exact ev_var rfl | exact ev_int | exact ev_bl | exact ev_non | exact ev_str | exact ev_ty | assumption
  | (refine' ev_op ?ka ?kb ?kc; (case ka => walk_at "ev"); (case kb => walk_at "ev"); (case kc => walk_at "rd"))
  | (refine' ev_un ?ka; (case ka => walk_at "ev"))
  | (refine' ev_tup ?ka ?kb; (case ka => walk_at "ea"); (case kb => walk_at "side"))
  | (refine' ev_cb ?ka ?kb; (case ka => walk_at "ea"); (case kb => walk_at "rc"))
  | (refine' ev_sliceT ?ka ?kb ?kc; (case ka => walk_at "ev"); (case kb => walk_at "eo"); (case kc => walk_at "eo"))
  | (refine' ev_notV ?ka; (case ka => walk_at "ev"))
  | (refine' EvN.toD ?ka; (case ka => walk_at "en")))
local macro_rules | `(tactic| walk_at "n") => `(tactic| dsimp only [List.set_cons_zero, List.set_cons_succ, List.map_cons, List.map_nil, List.cons_append, List.nil_append, List.length_cons, List.length_nil, Nat.add_sub_cancel, List.replicate])
def prD (x : Nat × Nat) : Dt := .tup [nD x.1, nD x.2]
theorem ixN_neg {n k : Nat} (h : k + 1 = n) : ixN n (-1) = some k := by
  unfold ixN
  rw [if_neg (by omega), if_pos (by omega)]
  congr 1
  omega
theorem atI_neg1 {α : Type} (l : List α) (x : α) : L2.atI (l ++ [x]) (-1) = some x := atI_last l x
theorem atI_neg2 {α : Type} (l : List α) (x y : α) : L2.atI (l ++ [x, y]) (-2) = some x := by
  unfold L2.atI ixN
  rw [if_neg (by omega), if_pos (by rw [List.length_append]; show -(((l.length + 2 : Nat)) : Int) ≤ -2; omega)]
  show (l ++ [x, y])[(-2 + ((l ++ [x, y]).length : Int)).toNat]? = some x
  rw [show (-2 + ((l ++ [x, y]).length : Int)).toNat = l.length by rw [List.length_append]; show (-2 + ((l.length + 2 : Nat) : Int)).toNat = _; omega, List.getElem?_append_right (Nat.le_refl _), Nat.sub_self]
  rfl
theorem set_last {α : Type} (l : List α) (x y : α) : (l ++ [x]).set l.length y = l ++ [y] := by
  rw [List.set_append_right _ _ (Nat.le_refl _), Nat.sub_self]
  rfl
section
variable {B F0 X : Hp} {env : Env_} {mus : Mu} {ta tb : TE} {D : Ends} {d : Dt} {ds es : List Dt} {i j : Nat} {K : PySem.W.Frag}
/-- x = found.pop()[z] -/
theorem t_popIx {p : Addr} {z : Int} (hj : mus[j]? = some (p, .lst (ds ++ [.tup es]))) (ho : EvD ta env mus (.ptr p)) (hz : ∀ m, EvD tb env m (.int z)) (he : L2.atI es z = some d) (k : Tr B F0 X (env.set i (some d)) (mus.set j (p, .lst ds)) D.nx) :
    Tr B F0 X env mus (tAsg (tOp (rIx K) (tBM0 K "list" rPop ta) tb) (gName i) D) := fun σ H a => by
  obtain ⟨F, g0, M, E, hB⟩ := a
  refine ho F σ H M E _ fun v F1 H1 g1 r1 => ?_
  have M1 := M.grow g1
  obtain ⟨_, o1, e1, xs1, rfl, rx1⟩ := M1.mu _ (List.mem_of_getElem? hj)
  rw [rp_ptr.mp r1]
  have hlen := rx1.length
  rw [List.length_append, List.length_singleton] at hlen
  have hdl : RpL F1 ds xs1.dropLast := by
    have h := rx1.dropLast
    rw [List.dropLast_concat] at h
    exact h
  obtain ⟨x, ex, rx⟩ := rx1.get (i := ds.length) (d := .tup es) (by rw [List.getElem?_append_right (Nat.le_refl _), Nat.sub_self]; rfl)
  refine ⟨.inl ⟨rfl, xs1, SqL.of e1⟩, p, xs1, x, rfl, rfl, e1, by rw [show xs1.length - 1 = ds.length by omega]; exact ex, ?_⟩
  have M2 : MS (mus.set j (p, .lst ds)) F1 (upd H1 p (.lst xs1.dropLast)) := M1.set hj ⟨_, rfl, hdl⟩
  have a2 : AS B F0 X env (mus.set j (p, .lst ds)) σ (upd H1 p (.lst xs1.dropLast)) := AS.put (g0.trans g1) M1 (E.mono g1.ff) hB hj ⟨_, rfl, hdl⟩
  have g3 : Gx B F0 X F1 (upd H1 p (.lst xs1.dropLast)) := by
    have hb : B p = none := hB _ (List.mem_of_getElem? hj)
    exact ⟨⟨(g0.trans g1).ff, M2.fh, fun a u e => by
      rw [upd_ne (ne_of_none e hb)]
      exact (g0.trans g1).bh a u e, (g0.trans g1).fr⟩, (g0.trans g1).xf⟩
  refine hz _ F1 σ _ M2 (E.mono g1.ff) _ fun u F4 H4 g4 r4 => ?_
  have hx : Rp F4 (.tup es) x := rx.mono g4.ff
  refine rd_xT (K := K) he F4 H4 x u (M2.grow g4) hx r4 _ fun y F5 H5 g5 r5 => ?_
  refine k _ _ ⟨F5, (g3.trans g4).trans g5, (M2.grow g4).grow g5, (((E.mono g1.ff).mono g4.ff).mono g5.ff).set r5, fun m hm => ?_⟩
  obtain ⟨y', hy, e⟩ := mem_set_key hj hm
  rw [← e]
  exact hB y' hy
end
section
variable {P : Program} {w : World} {K : PySem.W.Frag} {mg : Str → Option Value} {base : Heap}
/-- the runs of a weave -/
def R_runs : List Dt → Dt → Prop := fun ds d => ∃ (wv : List Nat), wv.length ≤ 1000 ∧ ds = [wvD wv] ∧ d = .lst ((runs wv).map prD)
abbrev s_runs_of_weave : Stmt := topS 6
theorem sc_runs_of_weave : FnScope ["weave", "found", "place", "index"] ["weave"] (defScope s_runs_of_weave) := ⟨rfl, rfl, rfl, by decide +kernel, rfl, by decide +kernel, by decide +kernel⟩
theorem ok_runs_of_weave {f : Addr} {fd : FuncData} (F : Fun K "runs_of_weave" "runs_of_weave" s_runs_of_weave f fd) (Z : Bz mg) : FnOk P w K mg base CX0 1 f fd ["weave"] (SpD R_runs) := by
  refine ok_pure F sc_runs_of_weave (fun ds d h => ?_) fun cdv A outer s H E hr => ?_
  · obtain ⟨wv, _, rfl, _⟩ := h
    rfl
  · have nd := sc_runs_of_weave.nd
    refine ⟨_, (pss_cons (ps_set (i := 1) nd rfl (Or.inl rfl) (pe_lst pa_nil))
      (pss_cons (ps_for PassesOwn.never rfl (pi_or (pi_enum (by rfl) Z.enumerate (pa_cons (pv 0) pa_nil)) (pi_enumT (by rfl) Z.enumerate (pa_cons (pv 0) pa_nil))) (pg_tup rfl (pgs_cons (pg_name (i := 2) nd rfl (Or.inl rfl)) (pgs_cons (pg_name (i := 3) nd rfl (Or.inl rfl)) pgs_nil))) (pss_one (ps_if (PW.pt (pw_and (pt_cmpR op_gt (pv 2) pe_int (nomark _)) (pw_and1 (pt_cmpR op_eq (pe_ix (ix_seqK (K := K) rfl) (pv 0) (pe_op op_sub (pv 2) pe_int) (fun _ _ => rfl)) (pv 3) (nomark _))))) (pss_one (ps_asg (pe_tup (pa_cons (pe_ix (ix_seqK (K := K) rfl) (pe_ix (ix_seqK (K := K) rfl) (pv 1) (pe_un un_neg pe_int) (fun _ _ => rfl)) pe_int (fun _ _ => rfl)) (pa_cons (pe_op (op_addXK (K := K) rfl) (pv 2) pe_int) pa_nil))) (pg_sub (pv 1) (pe_un un_neg pe_int) set_list))) (pss_one (ps_expr (pe_bm PySem.F.plainAttrs_list PySem.F.slot_list_append PySem.F.type_list_append mt_append (pv 1) (pa_cons (pe_tup (pa_cons (pv 2) (pa_cons (pe_op (op_addXK (K := K) rfl) (pv 2) pe_int) pa_nil))) pa_nil)))))))
      (pss_one (ps_ret (pv 1))))), fun ds d h B F0 D q => ?_⟩
    obtain ⟨wv, hl, rfl, rfl⟩ := h
    show Tr B F0 F0 [some (wvD wv), none, none, none] [] _
    refine t_seq ?_
    walk_at "n"
    refine t_asgN (en_lst ea_nil (Nat.zero_le _)) fun p => ?_
    refine t_seq ?_
    walk_at "n"
    refine t_for (it_right (it_enumT (ds := wv.map nD) (ea_cons (ev_var rfl) ea_nil))) .nil (fun i env mus => ∃ (ix jx : Option Dt), env = [some (wvD wv), some (.ptr p), ix, jx] ∧ mus = [(p, .lst ((runsN wv i).map prD))])
      ⟨none, none, rfl, rfl⟩ (fun _ _ _ _ _ x hx => nomatch hx) ?_ ?_
    · rintro X' hX i d env mus hd ⟨ix, jx, rfl, rfl⟩
      obtain ⟨d0, e0, rfl⟩ := enD_get hd
      rw [List.getElem?_map] at e0
      obtain ⟨k, hk, rfl⟩ := Option.map_eq_some_iff.mp e0
      refine ⟨_, _, gd_tup2, ?_⟩
      walk_at "n"
      have hin : i < wv.length := getlt hk
      have hpv : 0 < i → ∃ k0, wv[i - 1]? = some k0 := fun h => ⟨wv[i - 1]'(by omega), List.getElem?_eq_getElem (by omega)⟩
      refine t_if (b := decide (0 < i ∧ wv[i - 1]? = wv[i]?)) ?_ (fun hb => ?_) (fun hb => ?_)
      · refine EvT.is (a := decide ((0 : Int) < (i : Int)) && decide (wv[i - 1]? = wv[i]?)) (et_and (et_test (ev_op (d2 := .int 0) (ev_var (d := .int (i : Int)) rfl) ev_int rd_b0)) fun h0 => ?_) ?_
        · have h0' : 0 < i := by
            have := of_decide_eq_true h0
            omega
          obtain ⟨k0, hk0⟩ := hpv h0'
          have a1 : L2.atI (wv.map nD) ((i : Int) - 1) = some (nD k0) := atI_of (i := i - 1) (by rw [List.getElem?_map, hk0]; rfl) (by omega)
          refine EvT.is (a := decide ((k0 : Int) = (k : Int))) (et_test (ev_op (ev_op (ev_var (d := .tup (wv.map nD)) rfl) (ev_op (d2 := .int 1) (ev_var (d := .int (i : Int)) rfl) ev_int rd_i0) (rd_xT a1)) (ev_var (d := .int (k : Int)) rfl) rd_eq)) ?_
          rw [hk0, hk]
          by_cases e : k0 = k
          · rw [e, decide_eq_true rfl, decide_eq_true rfl]
          · rw [decide_eq_false (show ¬ ((k0 : Int) = (k : Int)) by omega), decide_eq_false (fun z => e (Option.some.inj z))]
        · by_cases h0 : 0 < i
          · rw [decide_eq_true (show (0 : Int) < i by omega), Bool.true_and]
            by_cases h1 : wv[i - 1]? = wv[i]?
            · rw [decide_eq_true h1, decide_eq_true ⟨h0, h1⟩]
            · rw [decide_eq_false h1, decide_eq_false (fun z => h1 z.2)]
          · rw [decide_eq_false (show ¬ (0 : Int) < i by omega), Bool.false_and, decide_eq_false (fun z => h0 z.1)]
      · have hc := of_decide_eq_true hb
        obtain ⟨ini, r, er⟩ := snoc_of (runsN_ne wv i hc.1)
        have est : runsN wv (i + 1) = ini ++ [(r.1, i + 1)] := by
          show stepR wv (runsN wv i) i = _
          unfold stepR
          rw [if_pos hc, er, List.getLast?_concat, List.dropLast_concat]
        have e1 : (runsN wv i).map prD = ini.map prD ++ [prD r] := by rw [er, List.map_append]; rfl
        rw [e1]
        refine t_setitem (j := 0) (d := prD (r.1, i + 1)) (n := ini.length) (z := -1) rfl ?_ (ev_var rfl) ?_ (ixN_neg (by rw [List.length_append, List.length_map]; rfl)) ?_
        · refine ev_tup (ds := [nD r.1, nD (i + 1)]) (ea_cons (ev_op (d1 := prD r) (d2 := .int 0) (ev_op (d2 := .int (-1)) (ev_var rfl) (ev_un (g := fun i => -i) ev_int) (rd_xM (by simp; rfl) (atI_neg1 _ _))) ev_int (rd_xT (atI_nat (j := 0) rfl))) (ea_cons ?_ ea_nil)) (show 2 ≤ 100000 by decide)
          exact ev_op (d2 := .int 1) (ev_var (d := .int (i : Int)) rfl) ev_int rd_addI
        · exact ev_un (g := fun i => -i) ev_int
        · refine tr_asr ⟨_, _, rfl, ?_⟩
          rw [est, List.map_append]
          show [(p, MO.lst ((ini.map prD ++ [prD r]).set ini.length (prD (r.1, i + 1))))] = _
          have e2 := set_last (ini.map prD) (prD r) (prD (r.1, i + 1))
          rw [List.length_map] at e2
          rw [e2]
          rfl
      · have hc := of_decide_eq_false hb
        have est : runsN wv (i + 1) = runsN wv i ++ [(i, i + 1)] := by
          show stepR wv (runsN wv i) i = _
          unfold stepR
          rw [if_neg hc]
        have := runsN_len wv i
        refine t_append (j := 0) (d := prD (i, i + 1)) rfl (ev_var rfl) ?_ (by rw [List.length_map]; omega) ?_
        · refine ev_tup (ds := [nD i, nD (i + 1)]) (ea_cons (ev_var rfl) (ea_cons ?_ ea_nil)) (show 2 ≤ 100000 by decide)
          exact ev_op (d2 := .int 1) (ev_var (d := .int (i : Int)) rfl) ev_int rd_addI
        · refine tr_asr ⟨_, _, rfl, ?_⟩
          rw [est, List.map_append]
          rfl
    · rintro env mus ⟨ix, jx, rfl, rfl⟩
      rw [enD_len, List.length_map]
      refine t_freeze (i := 1) (j := 0) rfl rfl ?_
      exact t_ret (ev_var rfl) fun v F' H' g _ r => q v F' H' g r

/-- a share's weights are small -/
theorem less_sh {a b : Int × Int} (ha : 0 ≤ a.1 ∧ a.1 ≤ 9000) (hb : 0 ≤ b.1 ∧ b.1 ≤ 9000) : R_less [shD a, shD b] (.bl (lss a b)) :=
  ⟨a.1, a.2, b.1, b.2, [], [], ⟨by omega, by omega⟩, ⟨by omega, by omega⟩, rfl, rfl⟩
theorem shAt_bound {W : List Int} {js : List Jb} (hw : WOk W) (hj : ∀ j ∈ js, JOk W j) (hl : js.length ≤ 1000) (x : Nat × Nat) : 0 ≤ (shAt (js.map (pr W)) x).1 ∧ (shAt (js.map (pr W)) x).1 ≤ 9000 := by
  unfold shAt
  rw [← List.map_drop, ← List.map_take]
  have h := shr_bound (js := (js.drop x.1).take (x.2 - x.1)) hw (fun y hy => hj y (List.mem_of_mem_drop (List.mem_of_mem_take hy)))
  have hn : ((js.drop x.1).take (x.2 - x.1)).length ≤ 1000 := by
    rw [List.length_take, List.length_drop]
    omega
  omega
theorem shAt_eq (W : List Int) (js : List Jb) (x : Nat × Nat) : shr (((js.drop x.1).take (x.2 - x.1)).map (pr W)) = shAt (js.map (pr W)) x := by
  unfold shAt
  rw [List.map_take, List.map_drop]
/-- the share of a block of places -/
theorem ev_shareAt {env : Env_} {mus : Mu} {t1 t2 t3 : TE} {E : XK} {W : List Int} {js : List Jb} {x : Nat × Nat} (hw : WOk W) (hj : ∀ j ∈ js, JOk W j) (hl : js.length ≤ 1000) (h1 : EvD t1 env mus (mD W)) (h2 : EvD t2 env mus (.lst (js.map jbD))) (h3 : EvD t3 env mus (prD x)) :
    EvD (tCall (SpD R_shareAt) [] E (tCons t1 (tCons t2 (tCons t3 tNil)))) env mus (shD (shAt (js.map (pr W)) x)) :=
  ev_call (ea_cons h1 (ea_cons h2 (ea_cons h3 ea_nil))) ⟨W, js, false, x.1, x.2, hw, hj, hl, rfl, by rw [shAt_eq]⟩
/-- the falling blocks of a run -/
def R_blocks : List Dt → Dt → Prop := fun ds d => ∃ (W : List Int) (js : List Jb) (x : Nat × Nat), WOk W ∧ (∀ j ∈ js, JOk W j) ∧ js.length ≤ 1000 ∧ x.1 ≤ 1000 ∧ x.2 ≤ 1000 ∧ ds = [mD W, .lst (js.map jbD), nD x.1, nD x.2] ∧ d = .lst ((blocksIn (js.map (pr W)) x).map prD)
theorem colps_two {ps : List (Int × Int)} {n : Nat} {x y : Nat × Nat} {r : List (Nat × Nat)} (h : lss (shAt ps x) (shAt ps y) = true) : colps ps (n + 1) (y :: x :: r) = colps ps n ((x.1, y.2) :: r) := by
  show (if lss (shAt ps x) (shAt ps y) = true then colps ps n ((x.1, y.2) :: r) else y :: x :: r) = _
  rw [if_pos h]
abbrev s_blocks_in : Stmt := topS 7
theorem sc_blocks_in : FnScope ["measure", "jobs", "first", "last", "found", "place", "end"] ["measure", "jobs", "first", "last"] (defScope s_blocks_in) := ⟨rfl, rfl, rfl, by decide +kernel, rfl, by decide +kernel, by decide +kernel⟩
theorem ok_blocks_in {f : Addr} {fd : FuncData} (F : Fun K "blocks_in" "blocks_in" s_blocks_in f fd) (Z : Bz mg) (C_share_at : Cal P w K mg base 3 "share_at" ["measure", "jobs", "block"] (SpD R_shareAt)) (C_is_less : Cal P w K mg base 1 "is_less" ["one", "other"] (SpD R_less)) : FnOk P w K mg base CX0 4 f fd ["measure", "jobs", "first", "last"] (SpD R_blocks) := by
  refine ok_pure F sc_blocks_in (fun ds d h => ?_) fun cdv A outer s H E hr => ?_
  · obtain ⟨W, js, x, _, _, _, _, _, rfl, _⟩ := h
    rfl
  · have nd := sc_blocks_in.nd
    refine ⟨_, (pss_cons (ps_set (i := 4) nd rfl (Or.inl rfl) (pe_lst pa_nil))
      (pss_cons (ps_for PassesOwn.never rfl (pi_range2 (by rfl) Z.range (pa_cons (pv 2) (pa_cons (pv 3) pa_nil))) (pg_name (i := 5) nd rfl (Or.inl rfl)) (pss_cons (ps_expr (pe_bm PySem.F.plainAttrs_list PySem.F.slot_list_append PySem.F.type_list_append mt_append (pv 4) (pa_cons (pe_tup (pa_cons (pv 5) (pa_cons (pe_op (op_addXK (K := K) rfl) (pv 5) pe_int) pa_nil))) pa_nil)))
      (pss_one (ps_while PassesOwn.never (PW.pt (pw_and (pt_cmpR op_gt (pe_callB (call_lenK (K := K) rfl) (by rfl) Z.len (by decide +kernel) (pa_cons (pv 4) pa_nil)) pe_int (nomark _)) (pw_and1 (pt_val (pe_cal C_is_less hr (by decide) (by rfl) (pa_cons (pe_cal C_share_at hr (by decide) (by rfl) (pa_cons (pv 0) (pa_cons (pv 1) (pa_cons (pe_ix (ix_seqK (K := K) rfl) (pv 4) (pe_un un_neg pe_int) (fun _ _ => rfl)) pa_nil)))) (pa_cons (pe_cal C_share_at hr (by decide) (by rfl) (pa_cons (pv 0) (pa_cons (pv 1) (pa_cons (pe_ix (ix_seqK (K := K) rfl) (pv 4) (pe_un un_neg pe_int) (fun _ _ => rfl)) pa_nil)))) pa_nil))))))) (pss_cons (ps_set (i := 6) nd rfl (Or.inl rfl) (pe_ix (ix_seqK (K := K) rfl) (pe_bm0 PySem.F.plainAttrs_list PySem.F.slot_list_pop PySem.F.type_list_pop mt_pop (pv 4)) pe_int (fun _ _ => rfl)))
      (pss_one (ps_asg (pe_tup (pa_cons (pe_ix (ix_seqK (K := K) rfl) (pe_ix (ix_seqK (K := K) rfl) (pv 4) (pe_un un_neg pe_int) (fun _ _ => rfl)) pe_int (fun _ _ => rfl)) (pa_cons (pv 6) pa_nil))) (pg_sub (pv 4) (pe_un un_neg pe_int) set_list))))))))
      (pss_one (ps_ret (pv 4))))), fun ds d h B F0 D q => ?_⟩
    obtain ⟨W, js, ⟨a, b⟩, hW, hJ, hl, ha, hb, rfl, rfl⟩ := h
    show Tr B F0 F0 [some (mD W), some (.lst (js.map jbD)), some (.int (a : Int)), some (.int (b : Int)), none, none, none] [] _
    have ha' : a ≤ 1000 := ha
    have hb' : b ≤ 1000 := hb
    refine t_seq ?_
    walk_at "n"
    refine t_asgN (en_lst ea_nil (Nat.zero_le _)) fun p => ?_
    refine t_seq ?_
    walk_at "n"
    refine t_for (it_range2 (ea_cons (ev_var rfl) (ea_cons (ev_var rfl) ea_nil)) (by omega) (by omega) (by omega) (by omega)) .nil (fun i env mus => ∃ (ix jx : Option Dt), env = [some (mD W), some (.lst (js.map jbD)), some (.int (a : Int)), some (.int (b : Int)), some (.ptr p), ix, jx] ∧ mus = [(p, .lst ((stackN (js.map (pr W)) a i).reverse.map prD))])
      ⟨none, none, rfl, rfl⟩ (fun _ _ _ _ _ x hx => nomatch hx) ?_ ?_
    · rintro X' hX i d env mus hd ⟨ix, jx, rfl, rfl⟩
      obtain ⟨rfl, hi⟩ := rgD_get hd
      refine ⟨_, _, gd_name, ?_⟩
      refine t_seq ?_
      walk_at "n"
      have hsl := stackN_len (js.map (pr W)) a i
      refine t_append (j := 0) (d := prD (a + i, a + i + 1)) rfl (ev_var rfl) ?_ (by rw [List.length_map, List.length_reverse]; omega) ?_
      · refine ev_tup (ds := [nD (a + i), nD (a + i + 1)]) (ea_cons ?_ (ea_cons ?_ ea_nil)) (show 2 ≤ 100000 by decide)
        · exact (ev_var rfl : EvD _ _ _ (.int ((a : Int) + (i : Nat)))).is (by unfold nD; congr 1)
        · exact (ev_op (d2 := .int 1) (ev_var (d := .int ((a : Int) + (i : Nat))) rfl) ev_int rd_addI).is (by unfold nD; congr 1)
      walk_at "n"
      refine t_while (fun n env mus => ∃ (st : List (Nat × Nat)) (jx : Option Dt), env = [some (mD W), some (.lst (js.map jbD)), some (.int (a : Int)), some (.int (b : Int)), some (.ptr p), some (.int ((a : Int) + (i : Nat))), jx] ∧ mus = [(p, .lst (st.reverse.map prD))] ∧ st.length = n ∧ st.length ≤ 2000 ∧ colps (js.map (pr W)) n st = stackN (js.map (pr W)) a (i + 1))
        ((stackN (js.map (pr W)) a i).length + 1) ⟨(a + i, a + i + 1) :: stackN (js.map (pr W)) a i, _, rfl, ?_, rfl, ?_, rfl⟩ ?_
      · rw [List.reverse_cons, List.map_append]
        rfl
      · rw [List.length_cons]
        omega
      · rintro n env mus ⟨st, jx, rfl, rfl, hn, hn2, hst⟩
        match st, hn, hn2, hst with
        | [], hn, hn2, hst =>
          refine ⟨false, EvT.is (a := decide ((1 : Int) < ((([] : List (Nat × Nat)).reverse.map prD).length : Nat)) && false) (et_and (et_test (ev_op (d2 := .int 1) (ev_cb (ea_cons (ev_var rfl) ea_nil) (rc_lenM (by simp))) ev_int rd_b0)) fun h => absurd h (by simp)) (by simp), (fun z => (nomatch z)), fun _ => ?_⟩
          have e : stackN (js.map (pr W)) a (i + 1) = [] := by
            rw [← hst]
            cases n <;> rfl
          refine tr_asr ⟨_, _, rfl, ?_⟩
          rw [e]
        | [x], hn, hn2, hst =>
          refine ⟨false, EvT.is (a := decide ((1 : Int) < (([x].reverse.map prD).length : Nat)) && false) (et_and (et_test (ev_op (d2 := .int 1) (ev_cb (ea_cons (ev_var rfl) ea_nil) (rc_lenM (by simp))) ev_int rd_b0)) fun h => absurd h (by simp)) (by simp), (fun z => (nomatch z)), fun _ => ?_⟩
          have e : stackN (js.map (pr W)) a (i + 1) = [x] := by
            rw [← hst]
            cases n <;> rfl
          refine tr_asr ⟨_, _, rfl, ?_⟩
          rw [e]
        | y :: x :: r, hn, hn2, hst =>
          obtain ⟨n', rfl⟩ : ∃ n', n = n' + 1 := ⟨r.length + 1, by rw [← hn]; rfl⟩
          have el : (y :: x :: r).reverse.map prD = r.reverse.map prD ++ [prD x, prD y] := by simp
          have el2 : (y :: x :: r).reverse.map prD = (r.reverse.map prD ++ [prD x]) ++ [prD y] := by simp
          refine ⟨lss (shAt (js.map (pr W)) x) (shAt (js.map (pr W)) y), ?_, fun hb => ?_, fun hb => ?_⟩
          · refine EvT.is (a := decide ((1 : Int) < (((y :: x :: r).reverse.map prD).length : Nat)) && lss (shAt (js.map (pr W)) x) (shAt (js.map (pr W)) y)) (et_and (et_test (ev_op (d2 := .int 1) (ev_cb (ea_cons (ev_var rfl) ea_nil) (rc_lenM (by simp))) ev_int rd_b0)) fun h => et_B (ev_call (ea_cons (ev_shareAt hW hJ hl (ev_var rfl) (ev_var rfl) (x := x) (ev_op (d2 := .int (-2)) (ev_var rfl) (ev_un (g := fun i => -i) ev_int) (rd_xM (by simp; rfl) ?_))) (ea_cons (ev_shareAt hW hJ hl (ev_var rfl) (ev_var rfl) (x := y) (ev_op (d2 := .int (-1)) (ev_var rfl) (ev_un (g := fun i => -i) ev_int) (rd_xM (by simp; rfl) ?_))) ea_nil)) (less_sh (shAt_bound hW hJ hl x) (shAt_bound hW hJ hl y)))) ?_
            · have := atI_neg2 (r.reverse.map prD) (prD x) (prD y)
              simpa using this
            · have := atI_neg1 (r.reverse.map prD ++ [prD x]) (prD y)
              simpa using this
            · rw [decide_eq_true (by simp; omega), Bool.true_and]
          · rw [el2]
            refine t_seq ?_
            walk_at "n"
            refine t_popIx (es := [nD y.1, nD y.2]) (d := nD y.2) (j := 0) (z := 1) rfl (ev_var rfl) (fun m => ev_int) (atI_nat (j := 1) rfl) ?_
            walk_at "n"
            refine t_setitem (j := 0) (d := prD (x.1, y.2)) (n := r.length) (z := -1) rfl ?_ (ev_var rfl) ?_ (ixN_neg (by simp)) ?_
            · refine ev_tup (ds := [nD x.1, nD y.2]) (ea_cons (ev_op (d1 := prD x) (d2 := .int 0) (ev_op (d2 := .int (-1)) (ev_var rfl) (ev_un (g := fun i => -i) ev_int) (rd_xM (by simp; rfl) ?_)) ev_int (rd_xT (atI_nat (j := 0) rfl))) (ea_cons (ev_var rfl) ea_nil)) (show 2 ≤ 100000 by decide)
              have := atI_neg1 (r.reverse.map prD) (prD x)
              simpa using this
            · exact ev_un (g := fun i => -i) ev_int
            · refine tr_asr ⟨n', by omega, (x.1, y.2) :: r, _, rfl, ?_, ?_, ?_, ?_⟩
              · have e2 := set_last (r.reverse.map prD) (prD x) (prD (x.1, y.2))
                rw [List.length_map, List.length_reverse] at e2
                walk_at "n"
                rw [e2]
                simp
              · rw [List.length_cons] at hn ⊢
                rw [List.length_cons] at hn
                omega
              · rw [List.length_cons] at hn2 ⊢
                rw [List.length_cons] at hn2
                omega
              · rw [← hst, colps_two hb]
          · have e : stackN (js.map (pr W)) a (i + 1) = y :: x :: r := by
              rw [← hst]
              show (if lss (shAt (js.map (pr W)) x) (shAt (js.map (pr W)) y) = true then _ else _) = _
              rw [if_neg (by rw [hb]; exact Bool.false_ne_true)]
            refine tr_asr ⟨_, _, rfl, ?_⟩
            rw [e]
    · rintro env mus ⟨ix, jx, rfl, rfl⟩
      rw [rgD_len]
      refine t_freeze (i := 4) (j := 0) rfl rfl ?_
      refine t_ret (d := .lst ((blocksIn (js.map (pr W)) (a, b)).map prD)) ((ev_var rfl).is ?_) fun v F' H' g _ r => q v F' H' g r
      unfold blocksIn
      rw [show ((b : Int) - (a : Int)).toNat = b - a by omega]
end
end KB
namespace KB
open PySem PySem.Spec PyProof.Rows L2
local macro_rules | `(tactic| walk_at "at") => `(tactic| first | assumption | (exact atI_nat (j := 0) rfl) | (exact atI_nat (j := 1) rfl) | (exact atI_nat (j := 2) rfl) | (exact atI_nat (by assumption)) | (exact atI_map _ (by assumption)) | (exact atI_of (by assumption) (by omega)))
local macro_rules | `(tactic| walk_at "side") => `(tactic| first | assumption | decide | omega | (simp; done))
local macro_rules | `(tactic| walk_at "rd") => `(tactic| first
  | exact rd_addI | exact rd_i0 | exact rd_b0 | exact rd_eq | exact rd_ne | exact rd_neB
  | (refine' rd_xT ?ka; (case ka => walk_at "at")) | (refine' rd_xL ?ka; (case ka => walk_at "at")) | (refine' rd_xM ?kb ?ka; (case kb => simp; done); (case ka => walk_at "at"))
  | (refine' rd_mulI ?ka; (case ka => walk_at "side"))
  | (refine' rd_addT ?ka; (case ka => walk_at "side"))
  | (refine' rd_i ?ka; (case ka => walk_at "side"))
  | exact rd_isN | (exact rd_isN0 (by intro z; cases z)) | exact rd_notN | (exact rd_notN1 (by intro z; cases z)) | exact rd_inB | exact rd_inT)
local macro_rules | `(tactic| walk_at "rc") => `(tactic| first | exact rc_lenT | exact rc_lenL | (refine' rc_lenM ?ka; (case ka => simp; done)) | exact rc_sumXL | exact rc_sumXT | (refine' rc_sumXM ?ka; (case ka => simp; done)) | exact rc_tupL | (refine' rc_tupM ?ka; (case ka => simp; done)) | exact rc_int | exact rc_min2 | (exact rc_isi (by decide) (by decide +kernel)) | (exact rc_isiT (by decide) (by decide +kernel) (by decide +kernel)))
local macro_rules | `(tactic| walk_at "eo") => `(tactic| first | exact eo_none | (refine' eo_some ?ka; (case ka => walk_at "ev")))
local macro_rules | `(tactic| walk_at "ea") => `(tactic| first | exact ea_nil | (refine' ea_cons ?ka ?kb; (case ka => walk_at "ev"); (case kb => walk_at "ea")))
local macro_rules | `(tactic| walk_at "en") => `(tactic| first
  | (refine' en_lst ?ka ?kb; (case ka => walk_at "ea"); (case kb => walk_at "side"))
  | (refine' en_sliceL ?ka ?kb ?kc; (case ka => walk_at "ev"); (case kb => walk_at "eo"); (case kc => walk_at "eo"))
  | (refine' en_op ?ka ?kb ?kc; (case ka => walk_at "ev"); (case kb => walk_at "ev"); (case kc => first | (refine' rn_addL ?kd; (case kd => walk_at "side")) | (refine' rn_mulL ?kd ?ke ?kf; (case kd => walk_at "side"); (case ke => walk_at "side"); (case kf => walk_at "side")))))
local macro_rules | `(tactic| walk_at "ev") => `(tactic| first
  | exact ev_var rfl | exact ev_int | exact ev_bl | exact ev_non | exact ev_str | exact ev_ty | assumption
  | (refine' ev_op ?ka ?kb ?kc; (case ka => walk_at "ev"); (case kb => walk_at "ev"); (case kc => walk_at "rd"))
  | (refine' ev_un ?ka; (case ka => walk_at "ev"))
  | (refine' ev_tup ?ka ?kb; (case ka => walk_at "ea"); (case kb => walk_at "side"))
  | (refine' ev_cb ?ka ?kb; (case ka => walk_at "ea"); (case kb => walk_at "rc"))
  | (refine' ev_sliceT ?ka ?kb ?kc; (case ka => walk_at "ev"); (case kb => walk_at "eo"); (case kc => walk_at "eo"))
  | (refine' ev_notV ?ka; (case ka => walk_at "ev"))
  | (refine' EvN.toD ?ka; (case ka => walk_at "en")))
local macro_rules | `(tactic| walk_at "n") => `(tactic| dsimp only [List.set_cons_zero, List.set_cons_succ, List.map_cons, List.map_nil, List.cons_append, List.nil_append, List.length_cons, List.length_nil, Nat.add_sub_cancel, List.replicate])
theorem runsN_le (w : List Nat) : ∀ n, ∀ x ∈ runsN w n, x.1 ≤ n ∧ x.2 ≤ n
  | 0, x, h => by cases h
  | n + 1, x, h => by
    have ih := runsN_le w n
    have h' : x ∈ stepR w (runsN w n) n := h
    unfold stepR at h'
    split at h'
    · rename_i hc
      obtain ⟨ini, r, er⟩ := snoc_of (runsN_ne w n hc.1)
      rw [er, List.getLast?_concat, List.dropLast_concat] at h'
      rcases List.mem_append.mp h' with z | z
      · have := ih x (by rw [er]; exact List.mem_append_left _ z)
        omega
      · have e := List.mem_singleton.mp z
        have := ih r (by rw [er]; exact List.mem_append_right _ (List.mem_singleton.mpr rfl))
        subst e
        exact ⟨by omega, Nat.le_refl _⟩
    · rcases List.mem_append.mp h' with z | z
      · have := ih x z
        omega
      · have e := List.mem_singleton.mp z
        subst e
        exact ⟨Nat.le_succ _, Nat.le_refl _⟩
theorem blocksIn_len (ps : List (Int × Int)) (x : Nat × Nat) : (blocksIn ps x).length ≤ x.2 - x.1 := by
  unfold blocksIn
  rw [List.length_reverse]
  exact stackN_len ps x.1 _
theorem flatMap_len {α β : Type} (f : α → List β) (c : Nat) : ∀ l : List α, (∀ x ∈ l, (f x).length ≤ c) → (l.flatMap f).length ≤ l.length * c
  | [], _ => by simp
  | a :: r, h => by
    have h1 := h a (List.mem_cons_self ..)
    have h2 := flatMap_len f c r fun x hx => h x (List.mem_cons_of_mem _ hx)
    rw [List.flatMap_cons, List.length_append, List.length_cons, Nat.add_mul, Nat.one_mul]
    omega
def decD (ps : List (Int × Int)) (wv : List Nat) : Dt := match fswap ps wv with
  | some x => .tup [.tup [nD x.1, nD x.2.1, nD x.2.2], .non]
  | none => .tup [.non, .tup ((fpart ps wv).map nD)]
theorem swp_two (ps : List (Int × Int)) (x y : Nat × Nat) (r : List (Nat × Nat)) : swp ps (x :: y :: r) = if lss (shAt ps x) (shAt ps y) = true then some (x.1, y.1, y.2) else swp ps (y :: r) := by rw [swp]
section
variable {P : Program} {w : World} {K : PySem.W.Frag} {mg : Str → Option Value} {base : Heap}
def R_dec : List Dt → Dt → Prop := fun ds d => ∃ (W : List Int) (ss : List (List Jb)) (wv : List Nat) (js : List Jb), WOk W ∧ (∀ j ∈ js, JOk W j) ∧ Wv ss wv js ∧ ss.length ≤ 100 ∧ wv.length ≤ 100 ∧ ds = [mD W, ssD ss, wvD wv] ∧ d = decD (js.map (pr W)) wv
abbrev s_decided_weave : Stmt := topS 9
theorem sc_decided_weave : FnScope ["measure", "strings", "weave", "jobs", "blocks", "first", "last", "one", "other"] ["measure", "strings", "weave"] (defScope s_decided_weave) := ⟨rfl, rfl, rfl, by decide +kernel, rfl, by decide +kernel, by decide +kernel⟩
theorem ok_decided_weave {f : Addr} {fd : FuncData} (F : Fun K "decided_weave" "decided_weave" s_decided_weave f fd) (Z : Bz mg) (C_share_at : Cal P w K mg base 3 "share_at" ["measure", "jobs", "block"] (SpD R_shareAt)) (C_is_less : Cal P w K mg base 1 "is_less" ["one", "other"] (SpD R_less))
    (C_runs_of_weave : Cal P w K mg base 1 "runs_of_weave" ["weave"] (SpD R_runs)) (C_blocks_in : Cal P w K mg base 4 "blocks_in" ["measure", "jobs", "first", "last"] (SpD R_blocks)) (C_jobs_of_weave : Cal P w K mg base 1 "jobs_of_weave" ["strings", "weave"] (SpD R_jobs)) : FnOk P w K mg base CX0 5 f fd ["measure", "strings", "weave"] (SpD R_dec) := by
  refine ok_pure F sc_decided_weave (fun ds d h => ?_) fun cdv A outer s H E hr => ?_
  · obtain ⟨W, ss, wv, js, _, _, _, _, _, rfl, _⟩ := h
    rfl
  · have nd := sc_decided_weave.nd
    refine ⟨_, (pss_cons (ps_par (i := 3) (j := 4) rfl nd rfl rfl (by decide) rfl rfl (pa_cons (pe_cal C_jobs_of_weave hr (by decide) (by rfl) (pa_cons (pv 1) (pa_cons (pv 2) pa_nil))) (pa_cons (pe_lst pa_nil) pa_nil)) rfl)
      (pss_cons (ps_for PassesOwn.never rfl (pi_seq (pe_cal C_runs_of_weave hr (by decide) (by rfl) (pa_cons (pv 2) pa_nil))) (pg_tup rfl (pgs_cons (pg_name (i := 5) nd rfl (Or.inl rfl)) (pgs_cons (pg_name (i := 6) nd rfl (Or.inl rfl)) pgs_nil))) (pss_one (ps_expr (pe_bm PySem.F.plainAttrs_list PySem.F.slot_list_extend PySem.F.type_list_extend mt_extend (pv 4) (pa_cons (pe_cal C_blocks_in hr (by decide) (by rfl) (pa_cons (pv 0) (pa_cons (pv 3) (pa_cons (pv 5) (pa_cons (pv 6) pa_nil))))) pa_nil)))))
      (pss_cons (ps_for PassesOwn.never rfl (pi_zipK (by rfl) Z.zip (pa_cons (pv 4) (pa_cons (pe_slice (sl_XK (K := K) rfl) (pv 4) (po_some pe_int) po_none) pa_nil))) (pg_tup rfl (pgs_cons (pg_name (i := 7) nd rfl (Or.inl rfl)) (pgs_cons (pg_name (i := 8) nd rfl (Or.inl rfl)) pgs_nil))) (pss_one (ps_if (pt_val (pe_cal C_is_less hr (by decide) (by rfl) (pa_cons (pe_cal C_share_at hr (by decide) (by rfl) (pa_cons (pv 0) (pa_cons (pv 3) (pa_cons (pv 7) pa_nil)))) (pa_cons (pe_cal C_share_at hr (by decide) (by rfl) (pa_cons (pv 0) (pa_cons (pv 3) (pa_cons (pv 8) pa_nil)))) pa_nil)))) (pss_one (ps_ret (pe_tup (pa_cons (pe_tup (pa_cons (pe_ix (ix_seqK (K := K) rfl) (pv 7) pe_int (fun _ _ => rfl)) (pa_cons (pe_ix (ix_seqK (K := K) rfl) (pv 8) pe_int (fun _ _ => rfl)) (pa_cons (pe_ix (ix_seqK (K := K) rfl) (pv 8) pe_int (fun _ _ => rfl)) pa_nil)))) (pa_cons pe_non pa_nil))))) pss_nil)))
      (pss_one (ps_ret (pe_tup (pa_cons pe_non (pa_cons (pe_callTy (call_tupK (K := K) rfl) (by rfl) Z.tuple (by decide +kernel) (pa_cons (pe_lc (own := [("first", 5), ("last", 6)]) (g := (gTup K 2 (gCons (gName 5) (gCons (gName 6) gNil)))) (tt := tYes) rfl nd (pi_seq (pv 4)) (blkOk_by (N := ["measure", "strings", "weave", "jobs", "blocks", "first", "last", "one", "other"]) (sc := defScope s_decided_weave) (by decide +kernel)) (fun _ _ _ _ _ => (pg_tup rfl (pgs_cons (pg_name (i := 5) nd rfl (Or.inl rfl)) (pgs_cons (pg_name (i := 6) nd rfl (Or.inl rfl)) pgs_nil)))) (fun _ _ _ _ _ => pts_nil) (fun _ _ _ _ _ => (pe_op op_sub (pv 6) (pv 5)))) pa_nil)) pa_nil)))))))), fun ds d h B F0 D q => ?_⟩
    obtain ⟨W, ss, wv, js, hW, hJ, hw, hl1, hl2, rfl, rfl⟩ := h
    show Tr B F0 F0 [some (mD W), some (ssD ss), some (wvD wv), none, none, none, none, none, none] [] _
    have hjl : js.length ≤ 1000 := by rw [← hw.len]; omega
    refine t_seq ?_
    walk_at "n"
    refine t_parDN (d1 := .lst (js.map jbD)) (ev_call (ea_cons (ev_var rfl) (ea_cons (ev_var rfl) ea_nil)) ⟨ss, wv, js, hw, by omega, by omega, rfl, rfl⟩) (en_lst ea_nil (Nat.zero_le _)) fun p => ?_
    refine t_seq ?_
    walk_at "n"
    refine t_for (it_left (it_list (ds := (runs wv).map prD) (ev_call (ea_cons (ev_var rfl) ea_nil) ⟨wv, by omega, rfl, rfl⟩))) .nil (fun i env mus => ∃ (x1 x2 : Option Dt), env = [some (mD W), some (ssD ss), some (wvD wv), some (.lst (js.map jbD)), some (.ptr p), x1, x2, none, none] ∧ mus = [(p, .lst ((((runs wv).take i).flatMap (blocksIn (js.map (pr W)))).map prD))])
      ⟨none, none, rfl, rfl⟩ (fun _ _ _ _ _ x hx => nomatch hx) ?_ ?_
    · rintro X' hX i d env mus hd ⟨x1, x2, rfl, rfl⟩
      rw [List.getElem?_map] at hd
      obtain ⟨x, hx, rfl⟩ := Option.map_eq_some_iff.mp hd
      refine ⟨_, _, gd_tup2, ?_⟩
      walk_at "n"
      have hxm := runsN_le wv wv.length x (List.mem_of_getElem? hx)
      have hrl := runsN_len wv wv.length
      refine t_extend (j := 0) (es := (blocksIn (js.map (pr W)) x).map prD) rfl (ev_var rfl) (ev_call (ea_cons (ev_var rfl) (ea_cons (ev_var rfl) (ea_cons (ev_var rfl) (ea_cons (ev_var rfl) ea_nil)))) ⟨W, js, x, hW, hJ, hjl, by omega, by omega, rfl, rfl⟩) ?_ ?_
      · have h1 := blocksIn_len (js.map (pr W)) x
        have h2 := flatMap_len (blocksIn (js.map (pr W))) 100 ((runs wv).take i) (fun y hy => by
          have h3 := blocksIn_len (js.map (pr W)) y
          have h4 := runsN_le wv wv.length y (List.mem_of_mem_take hy)
          omega)
        have h5 : ((runs wv).take i).length ≤ 100 := by
          rw [List.length_take]
          have : (runs wv).length ≤ wv.length := hrl
          omega
        have h6 : ((runs wv).take i).length * 100 ≤ 100 * 100 := Nat.mul_le_mul_right _ h5
        rw [List.length_map, List.length_map]
        omega
      · refine tr_asr ⟨_, _, rfl, ?_⟩
        rw [take_succ_get hx, List.flatMap_append, List.flatMap_singleton, List.map_append]
        rfl
    · rintro env mus ⟨x1, x2, rfl, rfl⟩
      rw [List.length_map, List.take_length]
      show Tr B F0 F0 _ [(p, .lst ((blocks (js.map (pr W)) wv).map prD))] _
      refine t_freeze (i := 4) (j := 0) rfl rfl ?_
      refine t_seq ?_
      walk_at "n"
      have hbl : (blocks (js.map (pr W)) wv).length ≤ 10000 := by
        have hrl : (runs wv).length ≤ wv.length := runsN_len wv wv.length
        have h2 := flatMap_len (blocksIn (js.map (pr W))) 100 (runs wv) (fun y hy => by
          have h3 := blocksIn_len (js.map (pr W)) y
          have h4 := runsN_le wv wv.length y hy
          omega)
        have h6 : (runs wv).length * 100 ≤ 100 * 100 := Nat.mul_le_mul_right _ (by omega)
        unfold blocks
        omega
      generalize hbs : blocks (js.map (pr W)) wv = bs at hbl ⊢
      have hfs : fswap (js.map (pr W)) wv = swp (js.map (pr W)) bs := by unfold fswap; rw [hbs]
      have hfp : fpart (js.map (pr W)) wv = bs.map fun x => x.2 - x.1 := by unfold fpart; rw [hbs]
      have hle : ∀ x ∈ bs, x.1 ≤ x.2 := fun x hx => by
        have hc := blocks_cont (js.map (pr W)) wv
        rw [hbs] at hc
        have := hc.mem x hx
        omega
      have hcut : cutD (bs.map prD) (some 1) none = (bs.drop 1).map prD := by
        have := cutD_n0 (bs.map prD) 1
        rw [List.map_drop]
        exact this
      refine t_for (ds := zpD (bs.map prD) ((bs.drop 1).map prD)) (it_zipL (ea_cons (ev_var rfl) (ea_cons (d := .lst ((bs.drop 1).map prD)) (EvD.is (EvN.toD (en_sliceL (ev_var rfl) (eo_some ev_int) eo_none)) (by rw [← hcut])) ea_nil))) .nil
        (fun i env mus => ∃ (x3 x4 : Option Dt), env = [some (mD W), some (ssD ss), some (wvD wv), some (.lst (js.map jbD)), some (.lst (bs.map prD)), x1, x2, x3, x4] ∧ mus = [] ∧ swp (js.map (pr W)) (bs.drop i) = swp (js.map (pr W)) bs)
        ⟨none, none, rfl, rfl, rfl⟩ (fun _ _ _ _ _ x hx => nomatch hx) ?_ ?_
      · rintro X' hX i d env mus hd ⟨x3, x4, rfl, rfl, hs⟩
        obtain ⟨a, b, ea, eb, rfl⟩ := zpD_get hd
        rw [List.getElem?_map] at ea eb
        obtain ⟨x, hx, rfl⟩ := Option.map_eq_some_iff.mp ea
        obtain ⟨y, hy, rfl⟩ := Option.map_eq_some_iff.mp eb
        rw [List.getElem?_drop, Nat.add_comm] at hy
        refine ⟨_, _, gd_tup2, ?_⟩
        walk_at "n"
        have ed : bs.drop i = x :: y :: bs.drop (i + 2) := by rw [drop_get hx, drop_get hy]
        rw [ed, swp_two] at hs
        refine t_if (b := lss (shAt (js.map (pr W)) x) (shAt (js.map (pr W)) y)) (et_B (ev_call (ea_cons (ev_shareAt hW hJ hjl (ev_var rfl) (ev_var rfl) (ev_var rfl)) (ea_cons (ev_shareAt hW hJ hjl (ev_var rfl) (ev_var rfl) (ev_var rfl)) ea_nil)) (less_sh (shAt_bound hW hJ hjl x) (shAt_bound hW hJ hjl y)))) (fun hb => ?_) (fun hb => ?_)
        · rw [if_pos hb] at hs
          have e : decD (js.map (pr W)) wv = .tup [.tup [nD x.1, nD y.1, nD y.2], .non] := by
            unfold decD
            rw [hfs, ← hs]
          rw [e] at q
          refine t_ret (ev_tup (ea_cons (ev_tup (ds := [nD x.1, nD y.1, nD y.2]) (ea_cons (ev_op (d1 := prD x) (d2 := .int 0) (ev_var rfl) ev_int (rd_xT (atI_nat (j := 0) rfl))) (ea_cons (ev_op (d1 := prD y) (d2 := .int 0) (ev_var rfl) ev_int (rd_xT (atI_nat (j := 0) rfl))) (ea_cons (ev_op (d1 := prD y) (d2 := .int 1) (ev_var rfl) ev_int (rd_xT (atI_nat (j := 1) rfl))) ea_nil))) (show 3 ≤ 100000 by decide)) (ea_cons ev_non ea_nil)) (show 2 ≤ 100000 by decide)) fun v F' H' g _ r => q v F' H' g r
        · rw [if_neg (by rw [hb]; exact Bool.false_ne_true)] at hs
          refine t_next (tr_asr ⟨_, _, rfl, rfl, ?_⟩)
          rw [drop_get hy]
          exact hs
      · rintro env mus ⟨x3, x4, rfl, rfl, hs⟩
        have e : decD (js.map (pr W)) wv = .tup [.non, .tup (bs.map fun x => nD (x.2 - x.1))] := by
          unfold decD
          rw [hfs, ← hs, hfp, zpD_len, List.length_map, List.length_map, List.length_drop, List.map_map]
          have hsn : swp (js.map (pr W)) (bs.drop (min bs.length (bs.length - 1))) = none := by
            rcases List.eq_nil_or_concat bs with z | ⟨ini, x, z⟩
            · rw [z]; rfl
            · rw [z, List.concat_eq_append, List.length_append, List.length_singleton, show min (ini.length + 1) (ini.length + 1 - 1) = ini.length by omega, List.drop_append_of_le_length (Nat.le_refl _), List.drop_length]
              rfl
          rw [hsn]
          rfl
        rw [e] at q
        refine t_ret (ev_tup (ea_cons ev_non (ea_cons (ev_cb (ea_cons (EvN.toD (en_lcM (l := bs) (G := prD) (F := fun x => nD (x.2 - x.1)) (is := [5, 6]) (it_left (it_list (ev_var rfl))) (by simp) .nil (by simp) (fun i x hx => ⟨_, gd_tup2, ?_⟩) (by omega))) ea_nil) rc_tupL) ea_nil)) (show 2 ≤ 100000 by decide)) fun v F' H' g _ r => q v F' H' g r
        have h1 := hle x (List.mem_of_getElem? hx)
        refine (ev_op (d1 := .int (x.2 : Int)) (d2 := .int (x.1 : Int)) (ev_var rfl) (ev_var rfl) rd_i0).is ?_
        unfold nD
        congr 1
        omega
end
end KB
namespace KB
open PySem PySem.Spec PyProof.Rows L2
local macro_rules | `(tactic| walk_at "at") => `(tactic| first | assumption | (exact atI_nat (j := 0) rfl) | (exact atI_nat (j := 1) rfl) | (exact atI_nat (j := 2) rfl) | (exact atI_nat (by assumption)) | (exact atI_map _ (by assumption)) | (exact atI_of (by assumption) (by omega)))
local macro_rules | `(tactic| walk_at "side") => `(tactic| first | assumption | decide | omega | (simp; done))
local macro_rules | `(tactic| walk_at "rd") => `(tactic| first
  | exact rd_addI | exact rd_i0 | exact rd_b0 | exact rd_eq | exact rd_ne | exact rd_neB
  | (refine' rd_xT ?ka; (case ka => walk_at "at")) | (refine' rd_xL ?ka; (case ka => walk_at "at")) | (refine' rd_xM ?kb ?ka; (case kb => simp; done); (case ka => walk_at "at"))
  | (refine' rd_mulI ?ka; (case ka => walk_at "side"))
  | (refine' rd_addT ?ka; (case ka => walk_at "side"))
  | (refine' rd_i ?ka; (case ka => walk_at "side"))
  | exact rd_isN | (exact rd_isN0 (by intro z; cases z)) | exact rd_notN | (exact rd_notN1 (by intro z; cases z)) | exact rd_inB | exact rd_inT)
local macro_rules | `(tactic| walk_at "rc") => `(tactic| first | exact rc_lenT | exact rc_lenL | (refine' rc_lenM ?ka; (case ka => simp; done)) | exact rc_sumXL | exact rc_sumXT | (refine' rc_sumXM ?ka; (case ka => simp; done)) | exact rc_tupL | (refine' rc_tupM ?ka; (case ka => simp; done)) | exact rc_int | exact rc_min2 | (exact rc_isi (by decide) (by decide +kernel)) | (exact rc_isiT (by decide) (by decide +kernel) (by decide +kernel)))
local macro_rules | `(tactic| walk_at "eo") => `(tactic| first | exact eo_none | (refine' eo_some ?ka; (case ka => walk_at "ev")))
local macro_rules | `(tactic| walk_at "ea") => `(tactic| first | exact ea_nil | (refine' ea_cons ?ka ?kb; (case ka => walk_at "ev"); (case kb => walk_at "ea")))
local macro_rules | `(tactic| walk_at "en") => `(tactic| first
  | (refine' en_lst ?ka ?kb; (case ka => walk_at "ea"); (case kb => walk_at "side"))
  | (refine' en_sliceL ?ka ?kb ?kc; (case ka => walk_at "ev"); (case kb => walk_at "eo"); (case kc => walk_at "eo"))
  | (refine' en_op ?ka ?kb ?kc; (case ka => walk_at "ev"); (case kb => walk_at "ev"); (case kc => first | (refine' rn_addL ?kd; (case kd => walk_at "side")) | (refine' rn_mulL ?kd ?ke ?kf; (case kd => walk_at "side"); (case ke => walk_at "side"); (case kf => walk_at "side")))))
local macro_rules | `(tactic| walk_at "ev") => `(tactic| first
  | exact ev_var rfl | exact ev_int | exact ev_bl | exact ev_non | exact ev_str | exact ev_ty | assumption
  | (refine' ev_op ?ka ?kb ?kc; (case ka => walk_at "ev"); (case kb => walk_at "ev"); (case kc => walk_at "rd"))
  | (refine' ev_un ?ka; (case ka => walk_at "ev"))
  | (refine' ev_tup ?ka ?kb; (case ka => walk_at "ea"); (case kb => walk_at "side"))
  | (refine' ev_cb ?ka ?kb; (case ka => walk_at "ea"); (case kb => walk_at "rc"))
  | (refine' ev_sliceT ?ka ?kb ?kc; (case ka => walk_at "ev"); (case kb => walk_at "eo"); (case kc => walk_at "eo"))
  | (refine' ev_notV ?ka; (case ka => walk_at "ev"))
  | (refine' EvN.toD ?ka; (case ka => walk_at "en")))
local macro_rules | `(tactic| walk_at "n") => `(tactic| dsimp only [List.set_cons_zero, List.set_cons_succ, List.map_cons, List.map_nil, List.cons_append, List.nil_append, List.length_cons, List.length_nil, Nat.add_sub_cancel, List.replicate])
section
variable {P : Program} {w : World} {K : PySem.W.Frag} {mg : Str → Option Value} {base : Heap}
def swD (x : Nat × Nat × Nat) : Dt := .tup [nD x.1, nD x.2.1, nD x.2.2]
def R_fswap : List Dt → Dt → Prop := fun ds d => ∃ (W : List Int) (ss : List (List Jb)) (wv : List Nat) (js : List Jb), WOk W ∧ (∀ j ∈ js, JOk W j) ∧ Wv ss wv js ∧ ss.length ≤ 100 ∧ wv.length ≤ 100 ∧ ds = [mD W, ssD ss, wvD wv] ∧ d = match fswap (js.map (pr W)) wv with | some x => swD x | none => .non
def R_fpart : List Dt → Dt → Prop := fun ds d => ∃ (W : List Int) (ss : List (List Jb)) (wv : List Nat) (js : List Jb), WOk W ∧ (∀ j ∈ js, JOk W j) ∧ Wv ss wv js ∧ ss.length ≤ 100 ∧ wv.length ≤ 100 ∧ ds = [mD W, ssD ss, wvD wv] ∧ d = match fswap (js.map (pr W)) wv with | some _ => .non | none => .tup ((fpart (js.map (pr W)) wv).map nD)
abbrev s_find_swap : Stmt := topS 10
theorem sc_find_swap : FnScope ["measure", "strings", "weave"] ["measure", "strings", "weave"] (defScope s_find_swap) := ⟨rfl, rfl, rfl, by decide +kernel, rfl, by decide +kernel, by decide +kernel⟩
theorem ok_find_swap {f : Addr} {fd : FuncData} (F : Fun K "find_swap" "find_swap" s_find_swap f fd) (C_decided_weave : Cal P w K mg base 5 "decided_weave" ["measure", "strings", "weave"] (SpD R_dec)) : FnOk P w K mg base CX0 6 f fd ["measure", "strings", "weave"] (SpD R_fswap) := by
  refine ok_pure F sc_find_swap (fun ds d h => ?_) fun cdv A outer s H E hr => ?_
  · obtain ⟨W, ss, wv, js, _, _, _, _, _, rfl, _⟩ := h
    rfl
  · have nd := sc_find_swap.nd
    refine ⟨_, (pss_one (ps_ret (pe_ix (ix_seqK (K := K) rfl) (pe_cal C_decided_weave hr (by decide) (by rfl) (pa_cons (pv 0) (pa_cons (pv 1) (pa_cons (pv 2) pa_nil)))) pe_int (fun _ _ => rfl)))), fun ds d h B F0 D q => ?_⟩
    obtain ⟨W, ss, wv, js, hW, hJ, hw, hl1, hl2, rfl, rfl⟩ := h
    show Tr B F0 F0 [some (mD W), some (ssD ss), some (wvD wv)] [] _
    have hc : EvD (tCall (SpD R_dec) [] E0 (tCons (tVar 0) (tCons (tVar 1) (tCons (tVar 2) tNil)))) [some (mD W), some (ssD ss), some (wvD wv)] [] (decD (js.map (pr W)) wv) :=
      ev_call (ea_cons (ev_var rfl) (ea_cons (ev_var rfl) (ea_cons (ev_var rfl) ea_nil))) ⟨W, ss, wv, js, hW, hJ, hw, hl1, hl2, rfl, rfl⟩
    unfold decD at hc
    cases e : fswap (js.map (pr W)) wv with
    | none =>
      simp only [e] at hc q
      exact t_ret (ev_op (d2 := .int 0) hc ev_int (rd_xT (atI_nat (j := 0) rfl))) fun v F' H' g _ r => q v F' H' g r
    | some x =>
      simp only [e] at hc q
      exact t_ret (ev_op (d2 := .int 0) hc ev_int (rd_xT (atI_nat (j := 0) rfl))) fun v F' H' g _ r => q v F' H' g r
abbrev s_find_parting : Stmt := topS 11
theorem sc_find_parting : FnScope ["measure", "strings", "weave"] ["measure", "strings", "weave"] (defScope s_find_parting) := ⟨rfl, rfl, rfl, by decide +kernel, rfl, by decide +kernel, by decide +kernel⟩
theorem ok_find_parting {f : Addr} {fd : FuncData} (F : Fun K "find_parting" "find_parting" s_find_parting f fd) (C_decided_weave : Cal P w K mg base 5 "decided_weave" ["measure", "strings", "weave"] (SpD R_dec)) : FnOk P w K mg base CX0 6 f fd ["measure", "strings", "weave"] (SpD R_fpart) := by
  refine ok_pure F sc_find_parting (fun ds d h => ?_) fun cdv A outer s H E hr => ?_
  · obtain ⟨W, ss, wv, js, _, _, _, _, _, rfl, _⟩ := h
    rfl
  · have nd := sc_find_parting.nd
    refine ⟨_, (pss_one (ps_ret (pe_ix (ix_seqK (K := K) rfl) (pe_cal C_decided_weave hr (by decide) (by rfl) (pa_cons (pv 0) (pa_cons (pv 1) (pa_cons (pv 2) pa_nil)))) pe_int (fun _ _ => rfl)))), fun ds d h B F0 D q => ?_⟩
    obtain ⟨W, ss, wv, js, hW, hJ, hw, hl1, hl2, rfl, rfl⟩ := h
    show Tr B F0 F0 [some (mD W), some (ssD ss), some (wvD wv)] [] _
    have hc : EvD (tCall (SpD R_dec) [] E0 (tCons (tVar 0) (tCons (tVar 1) (tCons (tVar 2) tNil)))) [some (mD W), some (ssD ss), some (wvD wv)] [] (decD (js.map (pr W)) wv) :=
      ev_call (ea_cons (ev_var rfl) (ea_cons (ev_var rfl) (ea_cons (ev_var rfl) ea_nil))) ⟨W, ss, wv, js, hW, hJ, hw, hl1, hl2, rfl, rfl⟩
    unfold decD at hc
    cases e : fswap (js.map (pr W)) wv with
    | none =>
      simp only [e] at hc q
      exact t_ret (ev_op (d2 := .int 1) hc ev_int (rd_xT (atI_nat (j := 1) rfl))) fun v F' H' g _ r => q v F' H' g r
    | some x =>
      simp only [e] at hc q
      exact t_ret (ev_op (d2 := .int 1) hc ev_int (rd_xT (atI_nat (j := 1) rfl))) fun v F' H' g _ r => q v F' H' g r

/-- the weave with two stretches exchanged -/
def chg (wv : List Nat) (x : Nat × Nat × Nat) : List Nat := wv.take x.1 ++ (wv.drop x.2.1).take (x.2.2 - x.2.1) ++ (wv.drop x.1).take (x.2.1 - x.1) ++ wv.drop x.2.2
def R_changed : List Dt → Dt → Prop := fun ds d => ∃ (wv : List Nat) (x : Nat × Nat × Nat), wv.length ≤ 1000 ∧ ds = [wvD wv, swD x] ∧ d = wvD (chg wv x)
theorem chg_ev {env : Env_} {mus : Mu} {t0 t2 t3 t4 : TE} {wv : List Nat} {x : Nat × Nat × Nat} (hl : wv.length ≤ 1000) (h0 : EvD t0 env mus (wvD wv)) (h2 : EvD t2 env mus (nD x.1)) (h3 : EvD t3 env mus (nD x.2.1)) (h4 : EvD t4 env mus (nD x.2.2)) :
    EvD (tOp (rAddX K) (tOp (rAddX K) (tOp (rAddX K) (tSl (rSlX K) t0 tNoPart (tPart t2)) (tSl (rSlX K) t0 (tPart t3) (tPart t4))) (tSl (rSlX K) t0 (tPart t2) (tPart t3))) (tSl (rSlX K) t0 (tPart t4) tNoPart)) env mus (wvD (chg wv x)) := by
  have e1 := (ev_sliceT (K := K) h0 eo_none (eo_some h2)).is (d2 := .tup ((wv.take x.1).map nD)) (by rw [cutD_map, cutD_0n])
  have e2 := (ev_sliceT (K := K) h0 (eo_some h3) (eo_some h4)).is (d2 := .tup (((wv.drop x.2.1).take (x.2.2 - x.2.1)).map nD)) (by rw [cutD_map, cutD_nn])
  have e3 := (ev_sliceT (K := K) h0 (eo_some h2) (eo_some h3)).is (d2 := .tup (((wv.drop x.1).take (x.2.1 - x.1)).map nD)) (by rw [cutD_map, cutD_nn])
  have e4 := (ev_sliceT (K := K) h0 (eo_some h4) eo_none).is (d2 := .tup ((wv.drop x.2.2).map nD)) (by rw [cutD_map, cutD_n0])
  refine (ev_op (ev_op (ev_op e1 e2 (rd_addT ?_)) e3 (rd_addT ?_)) e4 (rd_addT ?_)).is ?_
  · simp only [List.length_map, List.length_take, List.length_drop, List.length_append]
    omega
  · simp only [List.length_map, List.length_take, List.length_drop, List.length_append]
    omega
  · simp only [List.length_map, List.length_take, List.length_drop, List.length_append]
    omega
  · unfold chg wvD
    rw [List.map_append, List.map_append, List.map_append]
abbrev s_changed : Stmt := topS 12
theorem sc_changed : FnScope ["weave", "swap", "i", "j", "k"] ["weave", "swap"] (defScope s_changed) := ⟨rfl, rfl, rfl, by decide +kernel, rfl, by decide +kernel, by decide +kernel⟩
theorem ok_changed {f : Addr} {fd : FuncData} (F : Fun K "changed" "changed" s_changed f fd) : FnOk P w K mg base CX0 1 f fd ["weave", "swap"] (SpD R_changed) := by
  refine ok_pure F sc_changed (fun ds d h => ?_) fun cdv A outer s H E hr => ?_
  · obtain ⟨wv, x, _, rfl, _⟩ := h
    rfl
  · have nd := sc_changed.nd
    refine ⟨_, (pss_cons (ps_asg (pv 1) (pg_tup rfl (pgs_cons (pg_name (i := 2) nd rfl (Or.inl rfl)) (pgs_cons (pg_name (i := 3) nd rfl (Or.inl rfl)) (pgs_cons (pg_name (i := 4) nd rfl (Or.inl rfl)) pgs_nil)))))
      (pss_one (ps_ret (pe_op (op_addXK (K := K) rfl) (pe_op (op_addXK (K := K) rfl) (pe_op (op_addXK (K := K) rfl) (pe_slice (sl_XK (K := K) rfl) (pv 0) po_none (po_some (pv 2))) (pe_slice (sl_XK (K := K) rfl) (pv 0) (po_some (pv 3)) (po_some (pv 4)))) (pe_slice (sl_XK (K := K) rfl) (pv 0) (po_some (pv 2)) (po_some (pv 3)))) (pe_slice (sl_XK (K := K) rfl) (pv 0) (po_some (pv 4)) po_none))))), fun ds d h B F0 D q => ?_⟩
    obtain ⟨wv, x, hl, rfl, rfl⟩ := h
    show Tr B F0 F0 [some (wvD wv), some (swD x), none, none, none] [] _
    refine t_seq ?_
    walk_at "n"
    refine t_asgG (ev_var rfl) gd_tup3 ?_
    walk_at "n"
    exact t_ret (chg_ev hl (ev_var rfl) (ev_var rfl) (ev_var rfl) (ev_var rfl)) fun v F' H' g _ r => q v F' H' g r
abbrev s_L_changed : Stmt := topS 39
theorem sc_L_changed : FnScope ["_law_weave", "_law_value", "_law_i", "_law_j", "_law_k"] ["_law_weave", "_law_value"] (defScope s_L_changed) := ⟨rfl, rfl, rfl, by decide +kernel, rfl, by decide +kernel, by decide +kernel⟩
theorem ok_L_changed {f : Addr} {fd : FuncData} (F : Fun K "_law_changed" "_law_changed" s_L_changed f fd) : FnOk P w K mg base CX0 1 f fd ["_law_weave", "_law_value"] (SpD R_changed) := by
  refine ok_pure F sc_L_changed (fun ds d h => ?_) fun cdv A outer s H E hr => ?_
  · obtain ⟨wv, x, _, rfl, _⟩ := h
    rfl
  · have nd := sc_L_changed.nd
    refine ⟨_, (pss_cons (ps_asg (pv 1) (pg_tup rfl (pgs_cons (pg_name (i := 2) nd rfl (Or.inl rfl)) (pgs_cons (pg_name (i := 3) nd rfl (Or.inl rfl)) (pgs_cons (pg_name (i := 4) nd rfl (Or.inl rfl)) pgs_nil)))))
      (pss_one (ps_ret (pe_op (op_addXK (K := K) rfl) (pe_op (op_addXK (K := K) rfl) (pe_op (op_addXK (K := K) rfl) (pe_slice (sl_XK (K := K) rfl) (pv 0) po_none (po_some (pv 2))) (pe_slice (sl_XK (K := K) rfl) (pv 0) (po_some (pv 3)) (po_some (pv 4)))) (pe_slice (sl_XK (K := K) rfl) (pv 0) (po_some (pv 2)) (po_some (pv 3)))) (pe_slice (sl_XK (K := K) rfl) (pv 0) (po_some (pv 4)) po_none))))), fun ds d h B F0 D q => ?_⟩
    obtain ⟨wv, x, hl, rfl, rfl⟩ := h
    show Tr B F0 F0 [some (wvD wv), some (swD x), none, none, none] [] _
    refine t_seq ?_
    walk_at "n"
    refine t_asgG (ev_var rfl) gd_tup3 ?_
    walk_at "n"
    exact t_ret (chg_ev hl (ev_var rfl) (ev_var rfl) (ev_var rfl) (ev_var rfl)) fun v F' H' g _ r => q v F' H' g r

/-! ### cuts_of: lists within a list -/
/-- lengths put to the strings: found, the place -/
def cutsGo (wv : List Nat) : List Nat → Nat → List (List Nat) → List (List Nat)
  | [], _, f => f
  | l :: r, p, f => cutsGo wv r (p + l) (match wv[p]? with | some k => f.set k (f.getD k [] ++ [l]) | none => f)
/-- each place is one of the weave, each string is there -/
inductive PlOk (wv : List Nat) (n : Nat) : List Nat → Nat → Prop
  | nil {p : Nat} : PlOk wv n [] p
  | cons {l p k : Nat} {r : List Nat} : wv[p]? = some k → k < n → PlOk wv n r (p + l) → PlOk wv n (l :: r) p
def cutD2 (ls : List Nat) : Dt := .tup (ls.map nD)
def R_cuts : List Dt → Dt → Prop := fun ds d => ∃ (ss : List (List Jb)) (wv ls : List Nat), ss.length ≤ 100 ∧ ls.length ≤ 1000 ∧ PlOk wv ss.length ls 0 ∧ ds = [ssD ss, wvD wv, .tup (ls.map nD)] ∧ d = .tup ((cutsGo wv ls 0 (List.replicate ss.length [])).map cutD2)
theorem cutsGo_len (wv : List Nat) : ∀ ls p f, (cutsGo wv ls p f).length = f.length
  | [], _, _ => rfl
  | l :: r, p, f => by
    show (cutsGo wv r (p + l) _).length = _
    rw [cutsGo_len wv r]
    split
    · rw [List.length_set]
    · rfl
abbrev s_L_cuts_of : Stmt := topS 41
theorem sc_L_cuts_of : FnScope ["_law_strings", "_law_weave", "_law_value", "_law_found", "_law_place", "_law_length"] ["_law_strings", "_law_weave", "_law_value"] (defScope s_L_cuts_of) := ⟨rfl, rfl, rfl, by decide +kernel, rfl, by decide +kernel, by decide +kernel⟩
theorem ok_L_cuts_of {f : Addr} {fd : FuncData} (F : Fun K "_law_cuts_of" "_law_cuts_of" s_L_cuts_of f fd) (Z : Bz mg) : FnOk P w K mg base CX0 1 f fd ["_law_strings", "_law_weave", "_law_value"] (SpD R_cuts) := by
  refine ok_pure F sc_L_cuts_of (fun ds d h => ?_) fun cdv A outer s H E hr => ?_
  · obtain ⟨ss, wv, ls, _, _, _, rfl, _⟩ := h
    rfl
  · have nd := sc_L_cuts_of.nd
    refine ⟨_, (pss_cons (ps_par (i := 3) (j := 4) rfl nd rfl rfl (by decide) rfl rfl (pa_cons (pe_op (op_mulXK (K := K) rfl) (pe_lst (pa_cons (pe_tup pa_nil) pa_nil)) (pe_callB (call_lenK (K := K) rfl) (by rfl) Z.len (by decide +kernel) (pa_cons (pv 0) pa_nil))) (pa_cons pe_int pa_nil)) rfl)
      (pss_cons (ps_for PassesOwn.never rfl (pi_seq (pv 2)) (pg_name (i := 5) nd rfl (Or.inl rfl)) (pss_cons (ps_asg (pe_op (op_addXK (K := K) rfl) (pe_ix (ix_seqK (K := K) rfl) (pv 3) (pe_ix (ix_seqK (K := K) rfl) (pv 1) (pv 4) (fun _ _ => rfl)) (fun _ _ => rfl)) (pe_tup (pa_cons (pv 5) pa_nil))) (pg_sub (pv 3) (pe_ix (ix_seqK (K := K) rfl) (pv 1) (pv 4) (fun _ _ => rfl)) set_list))
      (pss_one (ps_set (i := 4) nd rfl (Or.inl rfl) (pe_op (op_addXK (K := K) rfl) (pv 4) (pv 5))))))
      (pss_one (ps_ret (pe_callTy (call_tupK (K := K) rfl) (by rfl) Z.tuple (by decide +kernel) (pa_cons (pv 3) pa_nil)))))), fun ds d h B F0 D q => ?_⟩
    obtain ⟨ss, wv, ls, hl1, hl2, hp, rfl, rfl⟩ := h
    show Tr B F0 F0 [some (ssD ss), some (wvD wv), some (.tup (ls.map nD)), none, none, none] [] _
    refine t_seq ?_
    walk_at "n"
    have h0 : EvN (tOp (rMulX K) (tLst (tCons (tTup tNil) tNil)) (tCB (rLenS K) (tCons (tVar 0) tNil))) [some (ssD ss), some (wvD wv), some (.tup (ls.map nD)), none, none, none] [] ((List.replicate ss.length []).map cutD2) := by
      have e : (List.replicate ss.length []).map cutD2 = (List.replicate ((ss.length : Nat) : Int).toNat [Dt.tup []]).flatten := by
        rw [rep_flat, List.map_replicate, Int.toNat_natCast]
        rfl
      rw [e]
      refine en_op (en_lst (ea_cons (ev_tup ea_nil (Nat.zero_le _)) ea_nil) (show 1 ≤ 100000 by decide)).toD (d2 := .int ((ss.map sD).length : Nat)) (ev_cb (ea_cons (ev_var rfl) ea_nil) rc_lenT) ?_
      rw [List.length_map]
      exact rn_mulL (by omega) (by omega) (show 1 ≤ 100 by decide)
    refine t_parND h0 ev_int fun p => ?_
    refine t_seq ?_
    walk_at "n"
    refine t_for (it_right (it_tup (ds := ls.map nD) (ev_var rfl))) .nil (fun i env mus => ∃ (fo : List (List Nat)) (pl : Nat) (x : Option Dt), env = [some (ssD ss), some (wvD wv), some (.tup (ls.map nD)), some (.ptr p), some (nD pl), x] ∧ mus = [(p, .lst (fo.map cutD2))] ∧ fo.length = ss.length ∧ (∀ l ∈ fo, l.length ≤ i) ∧ PlOk wv ss.length (ls.drop i) pl ∧ cutsGo wv (ls.drop i) pl fo = cutsGo wv ls 0 (List.replicate ss.length []))
      ⟨_, 0, none, rfl, rfl, List.length_replicate, fun l hl => by rw [(List.mem_replicate.mp hl).2]; exact Nat.le_refl _, hp, rfl⟩ (fun _ _ _ _ _ x hx => nomatch hx) ?_ ?_
    · rintro X' hX i d env mus hd ⟨fo, pl, x, rfl, rfl, hfl, hfo, hpo, hc⟩
      rw [List.getElem?_map] at hd
      obtain ⟨l, hk, rfl⟩ := Option.map_eq_some_iff.mp hd
      rw [drop_get hk] at hpo hc
      cases hpo with
      | @cons _ _ k _ h1 h2 h3 =>
        have hfk : fo[k]? = some fo[k] := List.getElem?_eq_getElem (by omega)
        have hfm : (fo[k]).length ≤ i := hfo _ (List.getElem_mem _)
        have hin : i < ls.length := getlt hk
        refine ⟨_, _, gd_name, ?_⟩
        refine t_seq ?_
        walk_at "n"
        have ek : ∀ {m}, EvD (tOp (rIx K) (tVar 1) (tVar 4)) [some (ssD ss), some (wvD wv), some (.tup (ls.map nD)), some (.ptr p), some (nD pl), some (nD l)] m (.int (k : Int)) := ev_op (d2 := .int (pl : Int)) (ev_var rfl) (ev_var rfl) (rd_xT (d := nD k) (atI_map nD h1))
        refine t_setitem (j := 0) (d := cutD2 (fo[k] ++ [l])) (n := k) (z := (k : Int)) rfl ?_ (ev_var rfl) ek (ixN_nat (by rw [List.length_map]; omega)) ?_
        · refine (ev_op (d1 := cutD2 fo[k]) (ev_op (ev_var rfl) ek (rd_xM (by simp) (atI_map cutD2 hfk))) (ev_tup (ds := [nD l]) (ea_cons (ev_var rfl) ea_nil) (show 1 ≤ 100000 by decide)) (rd_addT (by rw [List.length_map]; show (fo[k]).length + 1 ≤ 100000; omega))).is ?_
          unfold cutD2
          rw [List.map_append]
          rfl
        walk_at "n"
        refine t_asg (d := nD (pl + l)) ((ev_op (d1 := .int (pl : Int)) (d2 := .int (l : Int)) (ev_var rfl) (ev_var rfl) rd_addI).is (by unfold nD; congr 1)) ?_
        refine tr_asr ⟨fo.set k (fo[k] ++ [l]), pl + l, some (nD l), rfl, by rw [List.map_set], by rw [List.length_set]; exact hfl, fun y hy => ?_, h3, ?_⟩
        · rcases List.mem_or_eq_of_mem_set hy with z | z
          · have := hfo y z
            omega
          · rw [z, List.length_append, List.length_singleton]
            omega
        · rw [← hc]
          show _ = cutsGo wv (ls.drop (i + 1)) (pl + l) _
          have eg : fo.getD k [] = fo[k] := by
            rw [List.getD_eq_getElem?_getD, hfk]
            rfl
          rw [h1]
          show _ = cutsGo wv (ls.drop (i + 1)) (pl + l) (fo.set k (fo.getD k [] ++ [l]))
          rw [eg]
    · rintro env mus ⟨fo, pl, x, rfl, rfl, hfl, hfo, hpo, hc⟩
      rw [List.length_map, List.drop_length] at hc
      have e : fo = cutsGo wv ls 0 (List.replicate ss.length []) := hc
      rw [← e] at q
      exact t_ret (ev_cb (ea_cons (ev_var rfl) ea_nil) (rc_tupM (by simp))) fun v F' H' g _ r => q v F' H' g r
end
end KB
namespace KB
open PySem PySem.Spec PyProof.Rows L2
local macro_rules | `(tactic| walk_at "at") => `(tactic| first | assumption | (exact atI_nat (j := 0) rfl) | (exact atI_nat (j := 1) rfl) | (exact atI_nat (j := 2) rfl) | (exact atI_nat (by assumption)) | (exact atI_map _ (by assumption)) | (exact atI_of (by assumption) (by omega)))
local macro_rules | `(tactic| walk_at "side") => `(tactic| first | assumption | decide | omega | (simp; done))
local macro_rules | `(tactic| walk_at "rd") => `(tactic| first
  | exact rd_addI | exact rd_i0 | exact rd_b0 | exact rd_eq | exact rd_ne | exact rd_neB
  | (refine' rd_xT ?ka; (case ka => walk_at "at")) | (refine' rd_xL ?ka; (case ka => walk_at "at")) | (refine' rd_xM ?kb ?ka; (case kb => simp; done); (case ka => walk_at "at"))
  | (refine' rd_mulI ?ka; (case ka => walk_at "side"))
  | (refine' rd_addT ?ka; (case ka => walk_at "side"))
  | (refine' rd_i ?ka; (case ka => walk_at "side"))
  | exact rd_isN | (exact rd_isN0 (by intro z; cases z)) | exact rd_notN | (exact rd_notN1 (by intro z; cases z)) | exact rd_inB | exact rd_inT)
local macro_rules | `(tactic| walk_at "rc") => `(tactic| first | exact rc_lenT | exact rc_lenL | (refine' rc_lenM ?ka; (case ka => simp; done)) | exact rc_sumXL | exact rc_sumXT | (refine' rc_sumXM ?ka; (case ka => simp; done)) | exact rc_tupL | (refine' rc_tupM ?ka; (case ka => simp; done)) | exact rc_int | exact rc_min2 | (exact rc_isi (by decide) (by decide +kernel)) | (exact rc_isiT (by decide) (by decide +kernel) (by decide +kernel)))
local macro_rules | `(tactic| walk_at "eo") => `(tactic| first | exact eo_none | (refine' eo_some ?ka; (case ka => walk_at "ev")))
local macro_rules | `(tactic| walk_at "ea") => `(tactic| first | exact ea_nil | (refine' ea_cons ?ka ?kb; (case ka => walk_at "ev"); (case kb => walk_at "ea")))
local macro_rules | `(tactic| walk_at "en") => `(tactic| first
  | (refine' en_lst ?ka ?kb; (case ka => walk_at "ea"); (case kb => walk_at "side"))
  | (refine' en_sliceL ?ka ?kb ?kc; (case ka => walk_at "ev"); (case kb => walk_at "eo"); (case kc => walk_at "eo"))
  | (refine' en_op ?ka ?kb ?kc; (case ka => walk_at "ev"); (case kb => walk_at "ev"); (case kc => first | (refine' rn_addL ?kd; (case kd => walk_at "side")) | (refine' rn_mulL ?kd ?ke ?kf; (case kd => walk_at "side"); (case ke => walk_at "side"); (case kf => walk_at "side")))))
local macro_rules | `(tactic| walk_at "ev") => `(tactic| first
  | exact ev_var rfl | exact ev_int | exact ev_bl | exact ev_non | exact ev_str | exact ev_ty | assumption
  | (refine' ev_op ?ka ?kb ?kc; (case ka => walk_at "ev"); (case kb => walk_at "ev"); (case kc => walk_at "rd"))
  | (refine' ev_un ?ka; (case ka => walk_at "ev"))
  | (refine' ev_tup ?ka ?kb; (case ka => walk_at "ea"); (case kb => walk_at "side"))
  | (refine' ev_cb ?ka ?kb; (case ka => walk_at "ea"); (case kb => walk_at "rc"))
  | (refine' ev_sliceT ?ka ?kb ?kc; (case ka => walk_at "ev"); (case kb => walk_at "eo"); (case kc => walk_at "eo"))
  | (refine' ev_notV ?ka; (case ka => walk_at "ev"))
  | (refine' EvN.toD ?ka; (case ka => walk_at "en")))
local macro_rules | `(tactic| walk_at "n") => `(tactic| dsimp only [List.set_cons_zero, List.set_cons_succ, List.map_cons, List.map_nil, List.cons_append, List.nil_append, List.length_cons, List.length_nil, Nat.add_sub_cancel, List.replicate])
/-! ### [[] for x in xs]: lists that may be changed, in a list that may be changed -/
section
variable {env : Env_} {mus : Mu} {wi : TI} {i : Nat} {ds : List Dt}
theorem lc_lists (hw : ItL wi env mus [] ds) (hn : ds.length ≤ 1000) {F : Hp} {σ : L2.St} {H : Hp} (M : MS mus F H) (E : ES env F σ) {Q : VK}
    (q : ∀ p qs F' H', Gr H F F' H' → qs.length = ds.length → (p :: qs).Nodup → (∀ a ∈ p :: qs, F' a = none ∧ H a = none) → H' p = some (.lst (qs.map V.ref)) → (∀ x ∈ qs, H' x = some (.lst [])) → Q (.ref p) H') :
    tLc wi (gName i) tYes (tLst tNil) [i] σ H Q :=
  hw F σ H M E _ fun J F1 H1 g1 ok D hD => by
    refine ⟨fun n m H' => m = ds.length - n ∧ n ≤ ds.length ∧ ∃ F' qs, Gr H1 F1 F' H' ∧ qs.length = n ∧ (D :: qs).Nodup ∧ (∀ a ∈ D :: qs, F' a = none ∧ H1 a = none) ∧ H' D = some (.lst (qs.map V.ref)) ∧ ∀ x ∈ qs, H' x = some (.lst []),
      ⟨ds.length, rfl, Nat.zero_le _, F1, [], Gr.newM g1.fh hD, rfl, by simp, fun a ha => by
        rw [List.mem_singleton.mp ha]
        exact ⟨g1.fh.free hD, hD⟩, upd_same, fun x hx => nomatch hx⟩, ?_⟩
    rintro n m H' ⟨rfl, hi, F', qs, g2, hl, hnd, hfr, eD, hq⟩
    have MS1 : MS mus F' H' := (M.grow g1).grow g2
    have MS0 : MS [] F' H' := ⟨MS1.fh, fun m hm => (nomatch hm), .nil⟩
    by_cases hlt : n < ds.length
    · have hd : ds[n]? = some ds[n] := List.getElem?_eq_getElem hlt
      refine .inr ⟨ok.goes n F' H' hlt g2.ff MS0, fun H' => ∃ F' qs, Gr H1 F1 F' H' ∧ qs.length = n + 1 ∧ (D :: qs).Nodup ∧ (∀ a ∈ D :: qs, F' a = none ∧ H1 a = none) ∧ H' D = some (.lst (qs.map V.ref)) ∧ ∀ x ∈ qs, H' x = some (.lst []), fun H2 h2 => ⟨ds.length - (n + 1), by omega, rfl, hlt, h2⟩, fun x H2 y => ?_⟩
      obtain ⟨F3, g3, r3⟩ := ok.yields n _ F' H' x H2 hd g2.ff MS0 y
      refine ⟨wipe_eq (by rw [List.length_set, wipe_length]) fun k hkv => ?_, ?_⟩
      · rw [List.getElem?_set_ne (fun e => hkv (by rw [e]; exact List.mem_singleton.mpr rfl)), wipe_out hkv]
      · unfold tYes
        dsimp only
        rw [if_pos rfl]
        unfold tLst tNil
        refine ⟨Nat.zero_le _, fun pn hpn => ?_⟩
        have g4 : Gr H2 F3 F3 (upd H2 pn (.lst [])) := Gr.newM g3.fh hpn
        have g24 : Gr H1 F1 F3 (upd H2 pn (.lst [])) := (g2.trans g3).trans g4
        have eD4 : (upd H2 pn (.lst [])) D = some (.lst (qs.map V.ref)) := g4.bh _ _ (g3.bh _ _ eD)
        have hq4 : ∀ x ∈ qs, (upd H2 pn (.lst [])) x = some (.lst []) := fun x hx => g4.bh _ _ (g3.bh _ _ (hq x hx))
        have hfr4 : ∀ a ∈ D :: qs, F3 a = none ∧ H1 a = none := fun a ha => by
          obtain ⟨f1, f2⟩ := hfr a ha
          have ea : ∃ l, H' a = some (.lst l) := by
            rcases List.mem_cons.mp ha with z | z
            · rw [z]; exact ⟨_, eD⟩
            · exact ⟨_, hq a z⟩
          obtain ⟨l, ea⟩ := ea
          exact ⟨(g3.fr a _ ea (fun _ z => nomatch z)).trans f1, f2⟩
        have hpD : pn ≠ D := fun z => by
          rw [z] at hpn
          rw [g3.bh _ _ eD] at hpn
          cases hpn
        have hpq : ∀ x ∈ qs, x ≠ pn := fun x hx z => by
          have := g3.bh _ _ (hq x hx)
          rw [z, hpn] at this
          cases this
        refine ⟨_, eD4, sz_lt (by rw [List.length_map]; omega), F3, qs ++ [pn], ⟨g24.ff, fun a o e => ?_, fun a o e => ?_, g24.fr⟩, by rw [List.length_append, hl]; rfl, ?_, ?_, ?_, ?_⟩
        · rw [upd_ne (ne_of_none e (hfr4 D (List.mem_cons_self ..)).1)]
          exact g24.fh a o e
        · rw [upd_ne (ne_of_none e hD)]
          exact g24.bh a o e
        · rw [← List.cons_append]
          refine List.nodup_append.mpr ⟨hnd, by simp, fun a ha b hb z => ?_⟩
          rw [List.mem_singleton.mp hb] at z
          rcases List.mem_cons.mp ha with y | y
          · exact hpD (by rw [← z, y])
          · exact hpq a y z
        · intro a ha
          rw [← List.cons_append] at ha
          rcases List.mem_append.mp ha with z | z
          · exact hfr4 a z
          · rw [List.mem_singleton.mp z]
            exact ⟨g3.fh.free hpn, (g2.trans g3).bh.free hpn⟩
        · rw [upd_same, List.map_append]
          rfl
        · intro x hx
          have hxD : x ≠ D := fun z => by
            rcases List.mem_append.mp hx with y | y
            · rw [z] at y
              exact (List.nodup_cons.mp hnd).1 y
            · rw [List.mem_singleton.mp y] at z
              exact hpD z
          rw [upd_ne hxD]
          rcases List.mem_append.mp hx with y | y
          · exact hq4 x y
          · rw [List.mem_singleton.mp y]
            exact upd_same
    · have e : n = ds.length := by omega
      subst e
      exact .inl ⟨ok.stops F' H' g2.ff MS0, q D qs F' H' (g1.trans g2) hl hnd (fun a ha => ⟨(hfr a ha).1, g1.bh.free (hfr a ha).2⟩) eD hq⟩
end
/-- rows in their lists -/
def rowsM (qs : List Addr) (fo : List (List Nat)) : Mu := List.zipWith (fun x l => (x, MO.lst (l.map nD))) qs fo
theorem rowsM_get {qs : List Addr} {fo : List (List Nat)} {k : Nat} {x : Addr} {l : List Nat} (h1 : qs[k]? = some x) (h2 : fo[k]? = some l) : (rowsM qs fo)[k]? = some (x, .lst (l.map nD)) := by
  unfold rowsM
  rw [List.getElem?_zipWith, h1, h2]
theorem rowsM_set {qs : List Addr} {fo : List (List Nat)} {k : Nat} {x : Addr} {l : List Nat} (h1 : qs[k]? = some x) : (rowsM qs fo).set k (x, .lst (l.map nD)) = rowsM qs (fo.set k l) := by
  unfold rowsM
  apply List.ext_getElem?
  intro n
  by_cases hn : k = n
  · subst hn
    rw [List.getElem?_zipWith]
    by_cases hl : k < fo.length
    · rw [List.getElem?_set_self (by rw [List.length_zipWith]; have := getlt h1; omega), List.getElem?_set_self hl, h1]
    · rw [List.getElem?_eq_none (by rw [List.length_set, List.length_zipWith]; omega), List.getElem?_eq_none (l := fo.set k l) (by rw [List.length_set]; omega), h1]
  · rw [List.getElem?_set_ne hn, List.getElem?_zipWith, List.getElem?_zipWith, List.getElem?_set_ne hn]
theorem rowsM_keys : ∀ {qs : List Addr} {fo : List (List Nat)}, qs.length = fo.length → (rowsM qs fo).map (·.1) = qs
  | [], fo, _ => by simp [rowsM]
  | q :: qs, [], h => by cases h
  | q :: qs, f :: fo, h => by
    have := rowsM_keys (qs := qs) (fo := fo) (by simpa using h)
    unfold rowsM at this ⊢
    rw [List.zipWith_cons_cons, List.map_cons, this]
section
variable {P : Program} {w : World} {K : PySem.W.Frag} {mg : Str → Option Value} {base : Heap}
theorem t_parLists {B F0 X : Hp} {env : Env_} {D : Ends} {wi : TI} {i i0 j : Nat} {ds : List Dt} {tb : TE} {d2 : Dt} (hw : ItL wi env [] [] ds) (hn : ds.length ≤ 1000) (h2 : EvD tb env [] d2)
    (k : ∀ p qs, qs.length = ds.length → Tr B F0 X ((env.set i (some (.ptr p))).set j (some d2)) ((p, .lst (qs.map Dt.ptr)) :: rowsM qs (List.replicate ds.length [])) D.nx) :
    Tr B F0 X env [] (tPar i j (tCons (tLc wi (gName i0) tYes (tLst tNil) [i0]) (tCons tb tNil)) D) := fun σ H a => by
  obtain ⟨F, g0, M, E, hB⟩ := a
  unfold tPar
  rw [show (tCons (tLc wi (gName i0) tYes (tLst tNil) [i0]) (tCons tb tNil)) = (fun σ H Q => tLc wi (gName i0) tYes (tLst tNil) [i0] σ H fun x H1 => (tCons tb tNil) σ H1 fun xs H2 => Q (x :: xs) H2) from rfl]
  refine lc_lists hw hn M E fun p qs F1 H1 g1 hl hnd hfr eD hq => ?_
  refine h2 F1 σ H1 (M.grow g1) (E.mono g1.ff) _ fun v F2 H2 g2 r2 => ⟨.ref p, v, rfl, ?_⟩
  have hk : (rowsM qs (List.replicate ds.length [])).map (·.1) = qs := rowsM_keys (by rw [List.length_replicate, hl])
  have hlst : ∀ a ∈ p :: qs, ∃ l, H1 a = some (.lst l) := fun a ha => by
    rcases List.mem_cons.mp ha with z | z
    · rw [z]; exact ⟨_, eD⟩
    · exact ⟨_, hq a z⟩
  have hF2 : ∀ a ∈ p :: qs, F2 a = none := fun a ha => by
    obtain ⟨l, el⟩ := hlst a ha
    exact (g2.fr a _ el (fun _ z => nomatch z)).trans (hfr a ha).1
  have hmem : ∀ m ∈ rowsM qs (List.replicate ds.length []), m.1 ∈ qs ∧ m.2 = .lst [] := fun m hm => by
    refine ⟨by rw [← hk]; exact List.mem_map.mpr ⟨m, hm, rfl⟩, ?_⟩
    obtain ⟨n, hn'⟩ := List.mem_iff_getElem?.mp hm
    unfold rowsM at hn'
    rw [List.getElem?_zipWith] at hn'
    cases e1 : qs[n]? with
    | none => rw [e1] at hn'; cases hn'
    | some x =>
      cases e2 : (List.replicate ds.length ([] : List Nat))[n]? with
      | none => rw [e1, e2] at hn'; cases hn'
      | some l =>
        rw [e1, e2] at hn'
        cases hn'
        rw [(List.mem_replicate.mp (List.mem_of_getElem? e2)).2]
        rfl
  refine k p qs hl _ _ ⟨F2, (g0.trans g1).trans g2, ⟨g2.fh, fun m hm => ?_, ?_⟩, (((E.mono g1.ff).mono g2.ff).set (rp_ptr.mpr rfl)).set r2, fun m hm => ?_⟩
  · rcases List.mem_cons.mp hm with z | z
    · subst z
      refine ⟨hF2 p (List.mem_cons_self ..), _, g2.bh _ _ eD, _, rfl, ?_⟩
      have : ∀ l : List Addr, RpL F2 (l.map Dt.ptr) (l.map V.ref) := fun l => by
        induction l with
        | nil => exact .nil
        | cons a r ih => exact .cons (rp_ptr.mpr rfl) ih
      exact this qs
    · obtain ⟨h1, h3⟩ := hmem m z
      obtain ⟨a, mo⟩ := m
      cases h3
      exact ⟨hF2 a (List.mem_cons_of_mem _ h1), _, g2.bh _ _ (hq a h1), _, rfl, .nil⟩
  · rw [List.map_cons, hk]
    exact hnd
  · have hin : m.1 ∈ p :: qs := by
      rcases List.mem_cons.mp hm with z | z
      · rw [z]; exact List.mem_cons_self ..
      · exact List.mem_cons_of_mem _ (hmem m z).1
    exact g0.bh.free (hfr m.1 hin).2
abbrev s_cuts_of : Stmt := topS 13
theorem sc_cuts_of : FnScope ["strings", "weave", "parting", "found", "place", "length", "string", "lengths"] ["strings", "weave", "parting"] (defScope s_cuts_of) := ⟨rfl, rfl, rfl, by decide +kernel, rfl, by decide +kernel, by decide +kernel⟩
theorem ok_cuts_of {f : Addr} {fd : FuncData} (F : Fun K "cuts_of" "cuts_of" s_cuts_of f fd) (Z : Bz mg) : FnOk P w K mg base CX0 1 f fd ["strings", "weave", "parting"] (SpD R_cuts) := by
  refine ok_pure F sc_cuts_of (fun ds d h => ?_) fun cdv A outer s H E hr => ?_
  · obtain ⟨ss, wv, ls, _, _, _, rfl, _⟩ := h
    rfl
  · have nd := sc_cuts_of.nd
    refine ⟨_, (pss_cons (ps_par (i := 3) (j := 4) rfl nd rfl rfl (by decide) rfl rfl (pa_cons (pe_lc (own := [("string", 6)]) (g := (gName 6)) (tt := tYes) rfl nd (pi_seq (pv 0)) (blkOk_by (N := ["strings", "weave", "parting", "found", "place", "length", "string", "lengths"]) (sc := defScope s_cuts_of) (by decide +kernel)) (fun _ _ _ _ _ => (pg_name (i := 6) nd rfl (Or.inl rfl))) (fun _ _ _ _ _ => pts_nil) (fun _ _ _ _ _ => (pe_lst pa_nil))) (pa_cons pe_int pa_nil)) rfl)
      (pss_cons (ps_for PassesOwn.never rfl (pi_seq (pv 2)) (pg_name (i := 5) nd rfl (Or.inl rfl)) (pss_cons (ps_expr (pe_bm PySem.F.plainAttrs_list PySem.F.slot_list_append PySem.F.type_list_append mt_append (pe_ix (ix_seqK (K := K) rfl) (pv 3) (pe_ix (ix_seqK (K := K) rfl) (pv 1) (pv 4) (fun _ _ => rfl)) (fun _ _ => rfl)) (pa_cons (pv 5) pa_nil)))
      (pss_one (ps_aug (i := 4) nd rfl (Or.inl rfl) (pv 5) ip_add))))
      (pss_one (ps_ret (pe_callTy (call_tupK (K := K) rfl) (by rfl) Z.tuple (by decide +kernel) (pa_cons (pe_lc (own := [("lengths", 7)]) (g := (gName 7)) (tt := tYes) rfl nd (pi_seq (pv 3)) (blkOk_by (N := ["strings", "weave", "parting", "found", "place", "length", "string", "lengths"]) (sc := defScope s_cuts_of) (by decide +kernel)) (fun _ _ _ _ _ => (pg_name (i := 7) nd rfl (Or.inl rfl))) (fun _ _ _ _ _ => pts_nil) (fun _ _ _ _ _ => (pe_callTy (call_tupK (K := K) rfl) (by rfl) Z.tuple (by decide +kernel) (pa_cons (pv 7) pa_nil)))) pa_nil)))))), fun ds d h B F0 D q => ?_⟩
    obtain ⟨ss, wv, ls, hl1, hl2, hp, rfl, rfl⟩ := h
    show Tr B F0 F0 [some (ssD ss), some (wvD wv), some (.tup (ls.map nD)), none, none, none, none, none] [] _
    refine t_seq ?_
    walk_at "n"
    refine t_parLists (it_right (it_tup (ds := ss.map sD) (ev_var rfl))) (by rw [List.length_map]; omega) ev_int fun p qs hqs => ?_
    rw [List.length_map] at hqs ⊢
    refine t_seq ?_
    walk_at "n"
    refine t_for (it_right (it_tup (ds := ls.map nD) (ev_var rfl))) .nil (fun i env mus => ∃ (fo : List (List Nat)) (pl : Nat) (x : Option Dt), env = [some (ssD ss), some (wvD wv), some (.tup (ls.map nD)), some (.ptr p), some (nD pl), x, none, none] ∧ mus = (p, .lst (qs.map Dt.ptr)) :: rowsM qs fo ∧ fo.length = ss.length ∧ (∀ l ∈ fo, l.length ≤ i) ∧ PlOk wv ss.length (ls.drop i) pl ∧ cutsGo wv (ls.drop i) pl fo = cutsGo wv ls 0 (List.replicate ss.length []))
      ⟨_, 0, none, rfl, rfl, List.length_replicate, fun l hl => by rw [(List.mem_replicate.mp hl).2]; exact Nat.le_refl _, hp, rfl⟩ (fun _ _ _ _ _ x hx => nomatch hx) ?_ ?_
    · rintro X' hX i d env mus hd ⟨fo, pl, x, rfl, rfl, hfl, hfo, hpo, hc⟩
      rw [List.getElem?_map] at hd
      obtain ⟨l, hk, rfl⟩ := Option.map_eq_some_iff.mp hd
      rw [drop_get hk] at hpo hc
      cases hpo with
      | @cons _ _ k _ h1 h2 h3 =>
        have hfk : fo[k]? = some fo[k] := List.getElem?_eq_getElem (by omega)
        have hqk : qs[k]? = some qs[k] := List.getElem?_eq_getElem (by omega)
        have hfm : (fo[k]).length ≤ i := hfo _ (List.getElem_mem _)
        have hin : i < ls.length := getlt hk
        refine ⟨_, _, gd_name, ?_⟩
        refine t_seq ?_
        walk_at "n"
        refine t_append (j := k + 1) (p := qs[k]) (ds := (fo[k]).map nD) (d := nD l) (by rw [List.getElem?_cons_succ]; exact rowsM_get hqk hfk) ?_ (ev_var rfl) (by rw [List.length_map]; omega) ?_
        · exact ev_op (d2 := .int (k : Int)) (ev_var rfl) (ev_op (d2 := .int (pl : Int)) (ev_var rfl) (ev_var rfl) (rd_xT (d := nD k) (atI_map nD h1))) (rd_xM (by simp) (atI_map Dt.ptr hqk))
        have em : (fo[k]).map nD ++ [nD l] = (fo[k] ++ [l]).map nD := by rw [List.map_append]; rfl
        rw [List.set_cons_succ, em, rowsM_set hqk]
        walk_at "n"
        refine t_aug (x := (pl : Int)) (y := (l : Int)) rfl (ev_var rfl) ?_
        refine tr_asr ⟨fo.set k (fo[k] ++ [l]), pl + l, some (nD l), ?_, rfl, by rw [List.length_set]; exact hfl, fun y hy => ?_, h3, ?_⟩
        · walk_at "n"
          rw [show Dt.int ((pl : Int) + (l : Int)) = nD (pl + l) by unfold nD; congr 1]
        · rcases List.mem_or_eq_of_mem_set hy with z | z
          · have := hfo y z
            omega
          · rw [z, List.length_append, List.length_singleton]
            omega
        · rw [← hc]
          show _ = cutsGo wv (ls.drop (i + 1)) (pl + l) _
          have eg : fo.getD k [] = fo[k] := by
            rw [List.getD_eq_getElem?_getD, hfk]
            rfl
          rw [h1]
          show _ = cutsGo wv (ls.drop (i + 1)) (pl + l) (fo.set k (fo.getD k [] ++ [l]))
          rw [eg]
    · rintro env mus ⟨fo, pl, x, rfl, rfl, hfl, hfo, hpo, hc⟩
      rw [List.length_map, List.drop_length] at hc
      have e : fo = cutsGo wv ls 0 (List.replicate ss.length []) := hc
      rw [← e] at q
      have hlen : qs.length = fo.length := by omega
      have he : (List.range (qs.map Dt.ptr).length).map (fun n => cutD2 (fo.getD n [])) = fo.map cutD2 := by
        rw [List.length_map, hlen]
        exact range_map_get fo cutD2 _ (fun n a ea => by rw [List.getD_eq_getElem?_getD, ea]; rfl)
      refine t_ret (ev_cb (ea_cons (EvN.toD (en_lcI (is := [7]) (ds := qs.map Dt.ptr) (it_left (it_listM (p := p) (ds := qs.map Dt.ptr) (List.mem_cons_self ..) (ev_var rfl))) (by simp) (by simp) (by simp) (fun n => cutD2 (fo.getD n [])) (fun n d hd => ⟨_, gd_name, ?_⟩) (by rw [List.length_map]; omega))) ea_nil) rc_tupL) fun v F' H' g _ r => q v F' H' g (by rw [← he]; exact r)
      rw [List.getElem?_map] at hd
      obtain ⟨x, hx, rfl⟩ := Option.map_eq_some_iff.mp hd
      have hnl : n < fo.length := by
        have := getlt hx
        omega
      have hfn : fo[n]? = some fo[n] := List.getElem?_eq_getElem hnl
      have eg : fo.getD n [] = fo[n] := by
        rw [List.getD_eq_getElem?_getD, hfn]
        rfl
      rw [eg]
      exact ev_cb (ea_cons (ev_var rfl) ea_nil) (rc_tupM (ds := (fo[n]).map nD) (List.mem_cons_of_mem _ (List.mem_of_getElem? (rowsM_get hx hfn))))
end
end KB
namespace KB
open PySem PySem.Spec PyProof.Rows L2
local macro_rules | `(tactic| walk_at "at") => `(tactic| first | assumption | (exact atI_nat (j := 0) rfl) | (exact atI_nat (j := 1) rfl) | (exact atI_nat (j := 2) rfl) | (exact atI_nat (by assumption)) | (exact atI_map _ (by assumption)) | (exact atI_of (by assumption) (by omega)))
local macro_rules | `(tactic| walk_at "side") => `(tactic| first | assumption | decide | omega | (simp; done))
local macro_rules | `(tactic| walk_at "rd") => `(tactic| first
  | exact rd_addI | exact rd_i0 | exact rd_b0 | exact rd_eq | exact rd_ne | exact rd_neB
  | (refine' rd_xT ?ka; (case ka => walk_at "at")) | (refine' rd_xL ?ka; (case ka => walk_at "at")) | (refine' rd_xM ?kb ?ka; (case kb => simp; done); (case ka => walk_at "at"))
  | (refine' rd_mulI ?ka; (case ka => walk_at "side"))
  | (refine' rd_addT ?ka; (case ka => walk_at "side"))
  | (refine' rd_i ?ka; (case ka => walk_at "side"))
  | exact rd_isN | (exact rd_isN0 (by intro z; cases z)) | exact rd_notN | (exact rd_notN1 (by intro z; cases z)) | exact rd_inB | exact rd_inT)
local macro_rules | `(tactic| walk_at "rc") => `(tactic| first | exact rc_lenT | exact rc_lenL | (refine' rc_lenM ?ka; (case ka => simp; done)) | exact rc_sumXL | exact rc_sumXT | (refine' rc_sumXM ?ka; (case ka => simp; done)) | exact rc_tupL | (refine' rc_tupM ?ka; (case ka => simp; done)) | exact rc_int | exact rc_min2 | (exact rc_isi (by decide) (by decide +kernel)) | (exact rc_isiT (by decide) (by decide +kernel) (by decide +kernel)))
local macro_rules | `(tactic| walk_at "eo") => `(tactic| first | exact eo_none | (refine' eo_some ?ka; (case ka => walk_at "ev")))
local macro_rules | `(tactic| walk_at "ea") => `(tactic| first | exact ea_nil | (refine' ea_cons ?ka ?kb; (case ka => walk_at "ev"); (case kb => walk_at "ea")))
local macro_rules | `(tactic| walk_at "en") => `(tactic| first
  | (refine' en_lst ?ka ?kb; (case ka => walk_at "ea"); (case kb => walk_at "side"))
  | (refine' en_sliceL ?ka ?kb ?kc; (case ka => walk_at "ev"); (case kb => walk_at "eo"); (case kc => walk_at "eo"))
  | (refine' en_op ?ka ?kb ?kc; (case ka => walk_at "ev"); (case kb => walk_at "ev"); (case kc => first | (refine' rn_addL ?kd; (case kd => walk_at "side")) | (refine' rn_mulL ?kd ?ke ?kf; (case kd => walk_at "side"); (case ke => walk_at "side"); (case kf => walk_at "side")))))
local macro_rules | `(tactic| walk_at "ev") => `(tactic| first
  | exact ev_var rfl | exact ev_int | exact ev_bl | exact ev_non | exact ev_str | exact ev_ty | assumption
  | (refine' ev_op ?ka ?kb ?kc; (case ka => walk_at "ev"); (case kb => walk_at "ev"); (case kc => walk_at "rd"))
  | (refine' ev_un ?ka; (case ka => walk_at "ev"))
  | (refine' ev_tup ?ka ?kb; (case ka => walk_at "ea"); (case kb => walk_at "side"))
  | (refine' ev_cb ?ka ?kb; (case ka => walk_at "ea"); (case kb => walk_at "rc"))
  | (refine' ev_sliceT ?ka ?kb ?kc; (case ka => walk_at "ev"); (case kb => walk_at "eo"); (case kc => walk_at "eo"))
  | (refine' ev_notV ?ka; (case ka => walk_at "ev"))
  | (refine' EvN.toD ?ka; (case ka => walk_at "en")))
local macro_rules | `(tactic| walk_at "n") => `(tactic| dsimp only [List.set_cons_zero, List.set_cons_succ, List.map_cons, List.map_nil, List.cons_append, List.nil_append, List.length_cons, List.length_nil, Nat.add_sub_cancel, List.replicate])
section
variable {B F0 X : Hp} {env : Env_} {mus : Mu} {te : TE} {t u : TT} {D : Ends} {t1 t2 : TS} {K K' : PySem.W.Frag} {l : List Dt}
theorem t_ifF (h : EvT t env mus false) (k : Tr B F0 X env mus (t2 D)) : Tr B F0 X env mus (tIfS t t1 t2 D) := t_if h (fun z => nomatch z) fun _ => k
theorem t_ifT (h : EvT t env mus true) (k : Tr B F0 X env mus (t1 D)) : Tr B F0 X env mus (tIfS t t1 t2 D) := t_if h (fun _ => k) (fun z => nomatch z)
theorem et_orFF (h1 : EvT t env mus false) (h2 : EvT u env mus false) : EvT (tOr t u) env mus false := et_or h1 fun _ => h2
theorem et_notT (h : EvT t env mus true) : EvT (tNot t) env mus false := et_not h
theorem et_isTup (h : EvD te env mus (.tup l)) : EvT (tB (tCB (rIsi K) (tCons te (tCons (tC (.ty "tuple")) tNil)))) env mus true := et_B (ev_cb (ea_cons h (ea_cons ev_ty ea_nil)) (rc_isi (show "tuple" ≠ "?" by decide) (show kitB "tuple" "tuple" = some true by decide +kernel)))
theorem et_neF {ta tb : TE} {a b : Int} (ha : EvD ta env mus (.int a)) (hb : EvD tb env mus (.int b)) (h : a = b) : EvT (tTest (tOp rNe ta tb)) env mus false := (et_test (ev_op ha hb rd_ne)).is (by rw [h, decide_eq_true rfl]; rfl)
end
theorem natsum_cast : ∀ ls : List Nat, ((ls.map fun k => ((k : Nat) : Int)).sum) = ((ls.sum : Nat) : Int)
  | [] => rfl
  | a :: r => by
    rw [List.map_cons, List.sum_cons, natsum_cast r, List.sum_cons]
    omega
theorem nD_ints (ls : List Nat) : ls.map nD = (ls.map fun k => ((k : Nat) : Int)).map Dt.int := by
  rw [List.map_map]
  rfl
theorem rc_sumNT {K : PySem.W.Frag} {mus : Mu} (ls : List Nat) : RC (rSumX K) mus [.tup (ls.map nD)] (nD ls.sum) := by
  rw [nD_ints]
  unfold nD
  rw [← natsum_cast]
  exact rc_sumXT
theorem rc_sumNL {K : PySem.W.Frag} {mus : Mu} (ls : List Nat) : RC (rSumX K) mus [.lst (ls.map nD)] (nD ls.sum) := by
  rw [nD_ints]
  unfold nD
  rw [← natsum_cast]
  exact rc_sumXL
theorem rc_sumNM {K : PySem.W.Frag} {mus : Mu} {p : Addr} (ls : List Nat) (h : (p, MO.lst (ls.map nD)) ∈ mus) : RC (rSumX K) mus [.ptr p] (nD ls.sum) := by
  rw [nD_ints] at h
  unfold nD
  rw [← natsum_cast]
  exact rc_sumXM h
section
variable {P : Program} {w : World} {K : PySem.W.Frag} {mg : Str → Option Value} {base : Heap}
def R_from : List Dt → Dt → Prop := fun ds d => ∃ (v low : Int), ds = [.int v, .int low] ∧ d = .bl (decide (low ≤ v))
abbrev s_L_from : Stmt := topS 20
theorem sc_L_from : FnScope ["_law_value", "_law_low"] ["_law_value", "_law_low"] (defScope s_L_from) := ⟨rfl, rfl, rfl, by decide +kernel, rfl, by decide +kernel, by decide +kernel⟩
theorem ok_L_from {f : Addr} {fd : FuncData} (F : Fun K "_law_from" "_law_from" s_L_from f fd) (Z : Bz mg) : FnOk P w K mg base CX0 1 f fd ["_law_value", "_law_low"] (SpD R_from) := by
  refine ok_pure F sc_L_from (fun ds d h => ?_) fun cdv A outer s H E hr => ?_
  · obtain ⟨v, low, rfl, _⟩ := h
    rfl
  · have nd := sc_L_from.nd
    refine ⟨_, (pss_one (ps_ret (pe_and (pe_callB (call_isiK' (K := K) rfl) (by rfl) Z.isinstance (by decide +kernel) (pa_cons (pv 0) (pa_cons (pe_bltn (v := .ty "int") (by rfl) Z.int (by decide +kernel) rfl) pa_nil))) (pe_and (pe_not (pe_callB (call_isiK' (K := K) rfl) (by rfl) Z.isinstance (by decide +kernel) (pa_cons (pv 0) (pa_cons (pe_bltn (v := .ty "bool") (by rfl) Z.bool (by decide +kernel) rfl) pa_nil)))) (pe_one (pe_cmpR op_ge (pv 0) (pv 1) (nomark _))))))), fun ds d h B F0 D q => ?_⟩
    obtain ⟨v, low, rfl, rfl⟩ := h
    show Tr B F0 F0 [some (.int v), some (.int low)] [] _
    refine t_ret (d := .bl (decide (low ≤ v))) (EvD.is (ev_andV (a := true) (ev_cb (ea_cons (ev_var rfl) (ea_cons ev_ty ea_nil)) (rc_isi (show "int" ≠ "?" by decide) (show kitB "int" "int" = some true by decide +kernel))) fun _ => ev_andV (a := true) (EvD.is (ev_notV (ev_cb (ea_cons (ev_var rfl) (ea_cons ev_ty ea_nil)) (rc_isi (b := false) (show "int" ≠ "?" by decide) (show kitB "int" "bool" = some false by decide +kernel)))) rfl) fun _ => ev_op (ev_var rfl) (ev_var rfl) rd_b0) ?_) fun v F' H' g _ r => q v F' H' g r
    simp
theorem et_noFrom {env : Env_} {mus : Mu} {tv : TE} {ls : List Nat} {low : Int} {i : Nat} {K' : PySem.W.Frag} (hi : i < env.length) (hl : ls.length ≤ 1000) (hv : EvD tv env mus (.tup (ls.map nD))) (h : ∀ l ∈ ls, low ≤ (l : Int)) :
    EvT (tTest (tOp (rIn K false) (tC (.bl false)) (tLc (iOr (iList K' tv) (iTup K' tv)) (gName i) tYes (tCall (SpD R_from) [] E0 (tCons (tVar i) (tCons (tC (.int low)) tNil))) [i]))) env mus false := by
  refine EvT.is (a := if false then !decide (false ∈ ls.map fun _ => true) else decide (false ∈ ls.map fun _ => true)) (et_test (ev_op ev_bl (EvD.is (EvN.toD (en_lcM (l := ls) (G := nD) (F := fun _ => Dt.bl true) (is := [i]) (it_right (it_tup hv)) (by simp) .nil (by simp) (fun n l hn => ⟨_, gd_name, ?_⟩) (by omega))) ?_) rd_inB)) ?_
  · have hlen : i < (wipeE env [i]).length := by
      show i < ((env).set i none).length
      rw [List.length_set]
      exact hi
    refine ev_call (ea_cons (ev_var (List.getElem?_set_self hlen)) (ea_cons ev_int ea_nil)) ⟨l, low, rfl, ?_⟩
    rw [decide_eq_true (h l (List.mem_of_getElem? hn))]
  · rw [List.map_map]
    rfl
  · simp
/-- the blocks of a string -/
def R_blocksOf : List Dt → Dt → Prop := fun ds d => ∃ (st : List Jb) (ls : List Nat), ls.length ≤ 1000 ∧ ds = [sD st, .tup (ls.map nD)] ∧ d = .lst ((blocksOf st ls).map sD)
abbrev s_L_blocks : Stmt := topS 28
theorem sc_L_blocks : FnScope ["_law_string", "_law_lengths", "_law_found", "_law_place", "_law_length"] ["_law_string", "_law_lengths"] (defScope s_L_blocks) := ⟨rfl, rfl, rfl, by decide +kernel, rfl, by decide +kernel, by decide +kernel⟩
theorem ok_L_blocks {f : Addr} {fd : FuncData} (F : Fun K "_law_blocks" "_law_blocks" s_L_blocks f fd) (Z : Bz mg) : FnOk P w K mg base CX0 1 f fd ["_law_string", "_law_lengths"] (SpD R_blocksOf) := by
  refine ok_pure F sc_L_blocks (fun ds d h => ?_) fun cdv A outer s H E hr => ?_
  · obtain ⟨st, ls, _, rfl, _⟩ := h
    rfl
  · have nd := sc_L_blocks.nd
    refine ⟨_, (pss_cons (ps_par (i := 2) (j := 3) rfl nd rfl rfl (by decide) rfl rfl (pa_cons (pe_lst pa_nil) (pa_cons pe_int pa_nil)) rfl)
      (pss_cons (ps_for PassesOwn.never rfl (pi_seq (pv 1)) (pg_name (i := 4) nd rfl (Or.inl rfl)) (pss_cons (ps_expr (pe_bm PySem.F.plainAttrs_list PySem.F.slot_list_append PySem.F.type_list_append mt_append (pv 2) (pa_cons (pe_slice (sl_XK (K := K) rfl) (pv 0) (po_some (pv 3)) (po_some (pe_op (op_addXK (K := K) rfl) (pv 3) (pv 4)))) pa_nil)))
      (pss_one (ps_set (i := 3) nd rfl (Or.inl rfl) (pe_op (op_addXK (K := K) rfl) (pv 3) (pv 4))))))
      (pss_one (ps_ret (pv 2))))), fun ds d h B F0 D q => ?_⟩
    obtain ⟨st, ls, hl, rfl, rfl⟩ := h
    show Tr B F0 F0 [some (sD st), some (.tup (ls.map nD)), none, none, none] [] _
    refine t_seq ?_
    walk_at "n"
    refine t_parND (en_lst ea_nil (Nat.zero_le _)) ev_int fun p => ?_
    refine t_seq ?_
    walk_at "n"
    refine t_for (it_right (it_tup (ds := ls.map nD) (ev_var rfl))) .nil (fun i env mus => ∃ (x : Option Dt), env = [some (sD st), some (.tup (ls.map nD)), some (.ptr p), some (nD (ls.take i).sum), x] ∧ mus = [(p, .lst (((blocksOf st ls).take i).map sD))])
      ⟨none, rfl, rfl⟩ (fun _ _ _ _ _ x hx => nomatch hx) ?_ ?_
    · rintro X' hX i d env mus hd ⟨x, rfl, rfl⟩
      rw [List.getElem?_map] at hd
      obtain ⟨l, hk, rfl⟩ := Option.map_eq_some_iff.mp hd
      have hb := blocksOf_at st ls i l hk
      refine ⟨_, _, gd_name, ?_⟩
      refine t_seq ?_
      walk_at "n"
      have es : (nD ((ls.take i).sum + l)) = .int (((ls.take i).sum : Int) + (l : Int)) := by unfold nD; congr 1
      refine t_append (j := 0) (d := sD ((st.drop (ls.take i).sum).take l)) rfl (ev_var rfl) ?_ (by rw [List.length_map, List.length_take]; have := getlt hk; omega) ?_
      · refine (ev_sliceT (ds := st.map jbD) (lo := some ((ls.take i).sum : Int)) (hi := some (((ls.take i).sum + l : Nat) : Int)) (ev_var rfl) (eo_some (ev_var rfl)) (eo_some ((ev_op (ev_var (d := .int ((ls.take i).sum : Int)) rfl) (ev_var (d := .int (l : Int)) rfl) rd_addI).is es.symm))).is ?_
        rw [cutD_map, cutD_nn, Nat.add_sub_cancel_left]
        rfl
      walk_at "n"
      refine t_asg (d := nD ((ls.take i).sum + l)) ((ev_op (ev_var (d := .int ((ls.take i).sum : Int)) rfl) (ev_var (d := .int (l : Int)) rfl) rd_addI).is es.symm) ?_
      refine tr_asr ⟨some (nD l), ?_, ?_⟩
      · walk_at "n"
        rw [take_succ_get hk, List.sum_append, List.sum_singleton]
      · rw [take_succ_get hb, List.map_append]
        rfl
    · rintro env mus ⟨x, rfl, rfl⟩
      rw [List.length_map, ← blocksOf_len st ls, List.take_length]
      refine t_freeze (i := 2) (j := 0) rfl rfl ?_
      exact t_ret (ev_var rfl) fun v F' H' g _ r => q v F' H' g r

/-- a string's cut -/
structure CutOk (W : List Int) (st : List Jb) (ls : List Nat) : Prop where
  pos : ∀ l ∈ ls, 1 ≤ l
  sum : ls.sum = st.length
  blk : ∀ b ∈ blocksOf st ls, IsBlk (b.map (pr W))
  len : ls.length ≤ 1000
  slen : st.length ≤ 1000
  jok : ∀ j ∈ st, JOk W j
def R_isCut : List Dt → Dt → Prop := fun ds d => ∃ (W : List Int) (st : List Jb) (ls : List Nat), WOk W ∧ CutOk W st ls ∧ ds = [mD W, sD st, cutD2 ls] ∧ d = .bl true
abbrev s_L_is_cut : Stmt := topS 29
theorem sc_L_is_cut : FnScope ["_law_measure", "_law_string", "_law_value", "_law_block", "_law_whole", "_law_k", "_law_one"] ["_law_measure", "_law_string", "_law_value"] (defScope s_L_is_cut) := ⟨rfl, rfl, rfl, by decide +kernel, rfl, by decide +kernel, by decide +kernel⟩
theorem ok_L_is_cut {f : Addr} {fd : FuncData} (F : Fun K "_law_is_cut" "_law_is_cut" s_L_is_cut f fd) (Z : Bz mg) (C_L_blocks : Cal P w K mg base 1 "_law_blocks" ["_law_string", "_law_lengths"] (SpD R_blocksOf)) (C_L_share : Cal P w K mg base 1 "_law_share" ["_law_measure", "_law_jobs"] (SpD R_share))
    (C_L_is_less : Cal P w K mg base 1 "_law_is_less" ["_law_one", "_law_other"] (SpD R_less)) (C_L_from : Cal P w K mg base 1 "_law_from" ["_law_value", "_law_low"] (SpD R_from)) : FnOk P w K mg base CX0 2 f fd ["_law_measure", "_law_string", "_law_value"] (SpD R_isCut) := by
  refine ok_pure F sc_L_is_cut (fun ds d h => ?_) fun cdv A outer s H E hr => ?_
  · obtain ⟨W, st, ls, _, _, rfl, _⟩ := h
    rfl
  · have nd := sc_L_is_cut.nd
    refine ⟨_, (pss_cons (ps_if (PW.pt (pw_or (pt_not (pt_val (pe_callB (call_isiK' (K := K) rfl) (by rfl) Z.isinstance (by decide +kernel) (pa_cons (pv 2) (pa_cons (pe_bltn (v := .ty "tuple") (by rfl) Z.tuple (by decide +kernel) rfl) pa_nil))))) (pw_or1 (pt_cmpR (op_inK (K := K) rfl) pe_bl (pe_lc (own := [("_law_one", 6)]) (g := (gName 6)) (tt := tYes) rfl nd (pi_seq (pv 2)) (blkOk_by (N := ["_law_measure", "_law_string", "_law_value", "_law_block", "_law_whole", "_law_k", "_law_one"]) (sc := defScope s_L_is_cut) (by decide +kernel)) (fun _ _ _ _ _ => (pg_name (i := 6) nd rfl (Or.inl rfl))) (fun _ _ _ _ _ => pts_nil) (fun _ _ _ _ _ => (pe_cal C_L_from hr (by decide) (by rfl) (pa_cons (pv 6) (pa_cons pe_int pa_nil))))) rfl)))) (pss_one (ps_ret pe_bl)) pss_nil)
      (pss_cons (ps_if (pt_cmpR op_ne (pe_callB (cr_sumXK (K := K) rfl rfl) (by rfl) Z.sum (by decide +kernel) (pa_cons (pv 2) pa_nil)) (pe_callB (call_lenK (K := K) rfl) (by rfl) Z.len (by decide +kernel) (pa_cons (pv 1) pa_nil)) (nomark _)) (pss_one (ps_ret pe_bl)) pss_nil)
      (pss_cons (ps_for PassesOwn.never rfl (pi_seq (pe_cal C_L_blocks hr (by decide) (by rfl) (pa_cons (pv 1) (pa_cons (pv 2) pa_nil)))) (pg_name (i := 3) nd rfl (Or.inl rfl)) (pss_cons (ps_set (i := 4) nd rfl (Or.inl rfl) (pe_cal C_L_share hr (by decide) (by rfl) (pa_cons (pv 0) (pa_cons (pv 3) pa_nil))))
      (pss_one (ps_for PassesOwn.never rfl (pi_range2 (by rfl) Z.range (pa_cons pe_int (pa_cons (pe_callB (call_lenK (K := K) rfl) (by rfl) Z.len (by decide +kernel) (pa_cons (pv 3) pa_nil)) pa_nil))) (pg_name (i := 5) nd rfl (Or.inl rfl)) (pss_one (ps_if (pt_val (pe_cal C_L_is_less hr (by decide) (by rfl) (pa_cons (pv 4) (pa_cons (pe_cal C_L_share hr (by decide) (by rfl) (pa_cons (pv 0) (pa_cons (pe_slice (sl_XK (K := K) rfl) (pv 3) po_none (po_some (pv 5))) pa_nil))) pa_nil)))) (pss_one (ps_ret pe_bl)) pss_nil))))))
      (pss_one (ps_ret pe_bl))))), fun ds d h B F0 D q => ?_⟩
    obtain ⟨W, st, ls, hW, hc, rfl, rfl⟩ := h
    show Tr B F0 F0 [some (mD W), some (sD st), some (cutD2 ls), none, none, none, none] [] _
    have hlen := hc.len
    refine t_seq ?_
    walk_at "n"
    refine t_ifF (et_orFF (et_notT (et_isTup (ev_var rfl))) (et_noFrom (show 6 < 7 by decide) hlen (ev_var rfl) fun l hl => by have := hc.pos l hl; omega)) ?_
    refine t_next ?_
    refine t_seq ?_
    walk_at "n"
    refine t_ifF (et_neF (a := (ls.sum : Int)) (b := ((st.map jbD).length : Nat)) (ev_cb (ea_cons (ev_var rfl) ea_nil) (rc_sumNT ls)) (ev_cb (ea_cons (ev_var rfl) ea_nil) rc_lenT) (by rw [hc.sum, List.length_map])) ?_
    refine t_next ?_
    refine t_seq ?_
    walk_at "n"
    refine t_for (it_left (it_list (ds := (blocksOf st ls).map sD) (ev_call (ea_cons (ev_var rfl) (ea_cons (ev_var rfl) ea_nil)) ⟨st, ls, hlen, rfl, rfl⟩))) .nil (fun i env mus => ∃ (x1 x2 x3 : Option Dt), env = [some (mD W), some (sD st), some (cutD2 ls), x1, x2, x3, none] ∧ mus = [])
      ⟨none, none, none, rfl, rfl⟩ (fun _ _ _ _ _ x hx => nomatch hx) ?_ ?_
    · rintro X' hX i d env mus hd ⟨x1, x2, x3, rfl, rfl⟩
      rw [List.getElem?_map] at hd
      obtain ⟨b, hb, rfl⟩ := Option.map_eq_some_iff.mp hd
      have hbm := List.mem_of_getElem? hb
      have hbj : ∀ j ∈ b, JOk W j := fun j hj => hc.jok j (blocksOf_mem st ls b hbm j hj)
      have hbl : b.length ≤ 1000 := by
        have hil : i < ls.length := by
          rw [← blocksOf_len st ls]
          exact getlt hb
        have h1 : ls[i]? = some ls[i] := List.getElem?_eq_getElem hil
        have h2 := blocksOf_at st ls i _ h1
        rw [hb] at h2
        rw [Option.some.inj h2, List.length_take, List.length_drop]
        have := hc.slen
        omega
      refine ⟨_, _, gd_name, ?_⟩
      refine t_seq ?_
      walk_at "n"
      refine t_asg (d := shD (shr (b.map (pr W)))) (ev_call (ea_cons (ev_var rfl) (ea_cons (ev_var rfl) ea_nil)) ⟨W, b, true, hW, hbj, hbl, rfl, rfl⟩) ?_
      walk_at "n"
      refine t_for (it_range2 (a := 1) (b := ((b.map jbD).length : Nat)) (ea_cons ev_int (ea_cons (ev_cb (ea_cons (ev_var rfl) ea_nil) rc_lenT) ea_nil)) (by omega) (by omega) (by omega) (by rw [List.length_map]; omega)) .nil (fun n env mus => ∃ (x3 : Option Dt), env = [some (mD W), some (sD st), some (cutD2 ls), some (sD b), some (shD (shr (b.map (pr W)))), x3, none] ∧ mus = [])
        ⟨x3, rfl, rfl⟩ (fun _ _ _ _ _ x hx => nomatch hx) ?_ ?_
      · rintro X2 hX2 n d env mus hd ⟨x4, rfl, rfl⟩
        obtain ⟨rfl, hn⟩ := rgD_get hd
        rw [List.length_map] at hn
        refine ⟨_, _, gd_name, ?_⟩
        walk_at "n"
        have hlt : n + 1 < b.length := by omega
        have hblk := hc.blk b hbm (n + 1) (by omega) (by rw [List.length_map]; exact hlt)
        rw [← List.map_take] at hblk
        have hs1 := shr_bound hW hbj
        have hs2 := shr_bound (js := b.take (n + 1)) hW (fun j hj => hbj j (List.mem_of_mem_take hj))
        rw [List.length_take] at hs2
        have hsl : EvD (tSl (rSlX (cxOf CX0 P w K mg base ["_law_measure", "_law_string", "_law_value", "_law_block", "_law_whole", "_law_k", "_law_one"] "_law_is_cut" (defScope s_L_is_cut) f cdv A outer s H E).nox.K) (tVar 3) tNoPart (tPart (tVar 5))) [some (mD W), some (sD st), some (cutD2 ls), some (sD b), some (shD (shr (b.map (pr W)))), some (.int (1 + (n : Nat))), none] [] (sD (b.take (n + 1))) := by
          refine (ev_sliceT (ds := b.map jbD) (hi := some ((n + 1 : Nat) : Int)) (ev_var rfl) eo_none (eo_some ((ev_var (d := .int (1 + (n : Nat))) rfl).is (by congr 1; omega)))).is ?_
          rw [cutD_map, cutD_0n]
          rfl
        refine t_ifF ((et_B (ev_call (ea_cons (ev_var rfl) (ea_cons (ev_call (ea_cons (ev_var rfl) (ea_cons hsl ea_nil)) ⟨W, b.take (n + 1), true, hW, fun j hj => hbj j (List.mem_of_mem_take hj), by rw [List.length_take]; omega, rfl, rfl⟩) ea_nil)) (less_sh ⟨hs1.1, by omega⟩ ⟨hs2.1, by omega⟩))).is hblk) ?_
        exact t_next (tr_asr ⟨_, rfl, rfl⟩)
      · rintro env mus ⟨x4, rfl, rfl⟩
        exact tr_asr ⟨_, _, _, rfl, rfl⟩
    · rintro env mus ⟨x1, x2, x3, rfl, rfl⟩
      exact t_ret ev_bl fun v F' H' g _ r => q v F' H' g r
end
end KB
namespace KB
open PySem PySem.Spec PyProof.Rows L2
local macro_rules | `(tactic| walk_at "at") => `(tactic| first | assumption | (exact atI_nat (j := 0) rfl) | (exact atI_nat (j := 1) rfl) | (exact atI_nat (j := 2) rfl) | (exact atI_nat (by assumption)) | (exact atI_map _ (by assumption)) | (exact atI_of (by assumption) (by omega)))
local macro_rules | `(tactic| walk_at "side") => `(tactic| first | assumption | decide | omega | (simp; done))
local macro_rules | `(tactic| walk_at "rd") => `(tactic| first
  | exact rd_addI | exact rd_i0 | exact rd_b0 | exact rd_eq | exact rd_ne | exact rd_neB
  | (refine' rd_xT ?ka; (case ka => walk_at "at")) | (refine' rd_xL ?ka; (case ka => walk_at "at")) | (refine' rd_xM ?kb ?ka; (case kb => simp; done); (case ka => walk_at "at"))
  | (refine' rd_mulI ?ka; (case ka => walk_at "side"))
  | (refine' rd_addT ?ka; (case ka => walk_at "side"))
  | (refine' rd_i ?ka; (case ka => walk_at "side"))
  | exact rd_isN | (exact rd_isN0 (by intro z; cases z)) | exact rd_notN | (exact rd_notN1 (by intro z; cases z)) | exact rd_inB | exact rd_inT)
local macro_rules | `(tactic| walk_at "rc") => `(tactic| first | exact rc_lenT | exact rc_lenL | (refine' rc_lenM ?ka; (case ka => simp; done)) | exact rc_sumXL | exact rc_sumXT | (refine' rc_sumXM ?ka; (case ka => simp; done)) | exact rc_tupL | (refine' rc_tupM ?ka; (case ka => simp; done)) | exact rc_int | exact rc_min2 | (exact rc_isi (by decide) (by decide +kernel)) | (exact rc_isiT (by decide) (by decide +kernel) (by decide +kernel)))
local macro_rules | `(tactic| walk_at "eo") => `(tactic| first | exact eo_none | (refine' eo_some ?ka; (case ka => walk_at "ev")))
local macro_rules | `(tactic| walk_at "ea") => `(tactic| first | exact ea_nil | (refine' ea_cons ?ka ?kb; (case ka => walk_at "ev"); (case kb => walk_at "ea")))
local macro_rules | `(tactic| walk_at "en") => `(tactic| first
  | (refine' en_lst ?ka ?kb; (case ka => walk_at "ea"); (case kb => walk_at "side"))
  | (refine' en_sliceL ?ka ?kb ?kc; (case ka => walk_at "ev"); (case kb => walk_at "eo"); (case kc => walk_at "eo"))
  | (refine' en_op ?ka ?kb ?kc; (case ka => walk_at "ev"); (case kb => walk_at "ev"); (case kc => first | (refine' rn_addL ?kd; (case kd => walk_at "side")) | (refine' rn_mulL ?kd ?ke ?kf; (case kd => walk_at "side"); (case ke => walk_at "side"); (case kf => walk_at "side")))))
local macro_rules | `(tactic| walk_at "ev") => `(tactic| first
  | exact ev_var rfl | exact ev_int | exact ev_bl | exact ev_non | exact ev_str | exact ev_ty | assumption
  | (refine' ev_op ?ka ?kb ?kc; (case ka => walk_at "ev"); (case kb => walk_at "ev"); (case kc => walk_at "rd"))
  | (refine' ev_un ?ka; (case ka => walk_at "ev"))
  | (refine' ev_tup ?ka ?kb; (case ka => walk_at "ea"); (case kb => walk_at "side"))
  | (refine' ev_cb ?ka ?kb; (case ka => walk_at "ea"); (case kb => walk_at "rc"))
  | (refine' ev_sliceT ?ka ?kb ?kc; (case ka => walk_at "ev"); (case kb => walk_at "eo"); (case kc => walk_at "eo"))
  | (refine' ev_notV ?ka; (case ka => walk_at "ev"))
  | (refine' EvN.toD ?ka; (case ka => walk_at "en")))
local macro_rules | `(tactic| walk_at "n") => `(tactic| dsimp only [List.set_cons_zero, List.set_cons_succ, List.map_cons, List.map_nil, List.cons_append, List.nil_append, List.length_cons, List.length_nil, Nat.add_sub_cancel, List.replicate])
section
variable {P : Program} {w : World} {K : PySem.W.Frag} {mg : Str → Option Value} {base : Heap}
/-- cuts of all strings -/
structure CutsOk (W : List Int) (ss : List (List Jb)) (cs : List (List Nat)) : Prop where
  len : cs.length = ss.length
  slen : ss.length ≤ 100
  at_ : ∀ (i : Nat) st ls, ss[i]? = some st → cs[i]? = some ls → CutOk W st ls
def R_isCuts : List Dt → Dt → Prop := fun ds d => ∃ (W : List Int) (ss : List (List Jb)) (cs : List (List Nat)), WOk W ∧ CutsOk W ss cs ∧ ds = [mD W, ssD ss, .tup (cs.map cutD2)] ∧ d = .bl true
theorem allBl (n : Nat) (c : Bool) : (List.range n).map (fun _ => Dt.bl c) = ((List.range n).map fun _ => c).map Dt.bl := by
  rw [List.map_map]
  rfl
theorem notmem_const (n : Nat) : (false ∈ (List.range n).map fun _ => true) = False := by simp
theorem notmem_const' (n : Nat) : (true ∈ (List.range n).map fun _ => false) = False := by simp
abbrev s_L_is_cuts : Stmt := topS 30
theorem sc_L_is_cuts : FnScope ["_law_measure", "_law_strings", "_law_value", "_law_string", "_law_one"] ["_law_measure", "_law_strings", "_law_value"] (defScope s_L_is_cuts) := ⟨rfl, rfl, rfl, by decide +kernel, rfl, by decide +kernel, by decide +kernel⟩
theorem ok_L_is_cuts {f : Addr} {fd : FuncData} (F : Fun K "_law_is_cuts" "_law_is_cuts" s_L_is_cuts f fd) (Z : Bz mg) (C_L_is_cut : Cal P w K mg base 2 "_law_is_cut" ["_law_measure", "_law_string", "_law_value"] (SpD R_isCut)) : FnOk P w K mg base CX0 3 f fd ["_law_measure", "_law_strings", "_law_value"] (SpD R_isCuts) := by
  refine ok_pure F sc_L_is_cuts (fun ds d h => ?_) fun cdv A outer s H E hr => ?_
  · obtain ⟨W, ss, cs, _, _, rfl, _⟩ := h
    rfl
  · have nd := sc_L_is_cuts.nd
    refine ⟨_, (pss_cons (ps_if (PW.pt (pw_or (pt_not (pt_val (pe_callB (call_isiK' (K := K) rfl) (by rfl) Z.isinstance (by decide +kernel) (pa_cons (pv 2) (pa_cons (pe_bltn (v := .ty "tuple") (by rfl) Z.tuple (by decide +kernel) rfl) pa_nil))))) (pw_or1 (pt_cmpR op_ne (pe_callB (call_lenK (K := K) rfl) (by rfl) Z.len (by decide +kernel) (pa_cons (pv 2) pa_nil)) (pe_callB (call_lenK (K := K) rfl) (by rfl) Z.len (by decide +kernel) (pa_cons (pv 1) pa_nil)) (nomark _))))) (pss_one (ps_ret pe_bl)) pss_nil)
      (pss_one (ps_ret (pe_cmpR (op_notInK (K := K) rfl) pe_bl (pe_lc (own := [("_law_string", 3), ("_law_one", 4)]) (g := (gTup K 2 (gCons (gName 3) (gCons (gName 4) gNil)))) (tt := tYes) rfl nd (RZ.pi_zipA (by rfl) Z.zip (pa_cons (pv 1) (pa_cons (pv 2) pa_nil))) (blkOk_by (N := ["_law_measure", "_law_strings", "_law_value", "_law_string", "_law_one"]) (sc := defScope s_L_is_cuts) (by decide +kernel)) (fun _ _ _ _ _ => (pg_tup rfl (pgs_cons (pg_name (i := 3) nd rfl (Or.inl rfl)) (pgs_cons (pg_name (i := 4) nd rfl (Or.inl rfl)) pgs_nil)))) (fun _ _ _ _ _ => pts_nil) (fun _ _ _ _ _ => (pe_cal C_L_is_cut hr (by decide) (by rfl) (pa_cons (pv 0) (pa_cons (pv 3) (pa_cons (pv 4) pa_nil)))))) rfl)))), fun ds d h B F0 D q => ?_⟩
    obtain ⟨W, ss, cs, hW, hc, rfl, rfl⟩ := h
    show Tr B F0 F0 [some (mD W), some (ssD ss), some (.tup (cs.map cutD2)), none, none] [] _
    have hlen := hc.len
    have hsl := hc.slen
    refine t_seq ?_
    walk_at "n"
    refine t_ifF (et_orFF (et_notT (et_isTup (ev_var rfl))) (et_neF (a := ((cs.map cutD2).length : Nat)) (b := ((ss.map sD).length : Nat)) (ev_cb (ea_cons (ev_var rfl) ea_nil) rc_lenT) (ev_cb (ea_cons (ev_var rfl) ea_nil) rc_lenT) (by rw [List.length_map, List.length_map, hlen]))) ?_
    refine t_next ?_
    walk_at "n"
    refine t_ret (d := .bl true) (EvD.is (ev_op ev_bl (EvD.is (EvN.toD (en_lcI (is := [3, 4]) (ds := zpD (ss.map sD) (cs.map cutD2)) (it_zipAT (ea_cons (ev_var rfl) (ea_cons (ev_var rfl) ea_nil))) (by simp) .nil (by simp) (fun _ => Dt.bl true) (fun i d hd => ?_) ?_)) (by rw [allBl])) rd_inB) ?_) fun v F' H' g _ r => q v F' H' g r
    · obtain ⟨a, b, ea, eb, rfl⟩ := zpD_get hd
      rw [List.getElem?_map] at ea eb
      obtain ⟨st, hst, rfl⟩ := Option.map_eq_some_iff.mp ea
      obtain ⟨ls, hls, rfl⟩ := Option.map_eq_some_iff.mp eb
      exact ⟨_, gd_tup2, ev_call (ea_cons (ev_var rfl) (ea_cons (ev_var rfl) (ea_cons (ev_var rfl) ea_nil))) ⟨W, st, ls, hW, hc.at_ i st ls hst hls, rfl, rfl⟩⟩
    · rw [zpD_len, List.length_map, List.length_map]
      omega
    · simp

/-- the shares of a string's blocks -/
def shares (W : List Int) (st : List Jb) (ls : List Nat) : List (Int × Int) := (blocksOf st ls).map fun b => shr (b.map (pr W))
structure FallOk (W : List Int) (ss : List (List Jb)) (cs : List (List Nat)) : Prop where
  cut : CutsOk W ss cs
  fall : ∀ (i : Nat) st ls, ss[i]? = some st → cs[i]? = some ls → ∀ (n : Nat) x y, (shares W st ls)[n]? = some x → (shares W st ls)[n + 1]? = some y → lss x y = false
def R_isFalling : List Dt → Dt → Prop := fun ds d => ∃ (W : List Int) (ss : List (List Jb)) (cs : List (List Nat)), WOk W ∧ FallOk W ss cs ∧ ds = [mD W, ssD ss, .tup (cs.map cutD2)] ∧ d = .bl true
theorem block_facts {W : List Int} {st : List Jb} {ls : List Nat} (hc : CutOk W st ls) {b : List Jb} (hb : b ∈ blocksOf st ls) : (∀ j ∈ b, JOk W j) ∧ b.length ≤ 1000 := by
  refine ⟨fun j hj => hc.jok j (blocksOf_mem st ls b hb j hj), ?_⟩
  obtain ⟨i, hi⟩ := List.mem_iff_getElem?.mp hb
  have hil : i < ls.length := by
    rw [← blocksOf_len st ls]
    exact getlt hi
  have h1 : ls[i]? = some ls[i] := List.getElem?_eq_getElem hil
  have h2 := blocksOf_at st ls i _ h1
  rw [hi] at h2
  rw [Option.some.inj h2, List.length_take, List.length_drop]
  have := hc.slen
  omega
theorem share_small {W : List Int} (hW : WOk W) {b : List Jb} (hj : ∀ j ∈ b, JOk W j) (hl : b.length ≤ 1000) : 0 ≤ (shr (b.map (pr W))).1 ∧ (shr (b.map (pr W))).1 ≤ 9000 := by
  have := shr_bound hW hj
  omega
abbrev s_L_is_falling : Stmt := topS 31
theorem sc_L_is_falling : FnScope ["_law_measure", "_law_strings", "_law_value", "_law_string", "_law_lengths", "_law_shares", "_law_block", "_law_one", "_law_other"] ["_law_measure", "_law_strings", "_law_value"] (defScope s_L_is_falling) := ⟨rfl, rfl, rfl, by decide +kernel, rfl, by decide +kernel, by decide +kernel⟩
theorem ok_L_is_falling {f : Addr} {fd : FuncData} (F : Fun K "_law_is_falling" "_law_is_falling" s_L_is_falling f fd) (Z : Bz mg) (C_L_is_cuts : Cal P w K mg base 3 "_law_is_cuts" ["_law_measure", "_law_strings", "_law_value"] (SpD R_isCuts)) (C_L_blocks : Cal P w K mg base 1 "_law_blocks" ["_law_string", "_law_lengths"] (SpD R_blocksOf)) (C_L_share : Cal P w K mg base 1 "_law_share" ["_law_measure", "_law_jobs"] (SpD R_share))
    (C_L_is_less : Cal P w K mg base 1 "_law_is_less" ["_law_one", "_law_other"] (SpD R_less)) : FnOk P w K mg base CX0 4 f fd ["_law_measure", "_law_strings", "_law_value"] (SpD R_isFalling) := by
  refine ok_pure F sc_L_is_falling (fun ds d h => ?_) fun cdv A outer s H E hr => ?_
  · obtain ⟨W, ss, cs, _, _, rfl, _⟩ := h
    rfl
  · have nd := sc_L_is_falling.nd
    refine ⟨_, (pss_cons (ps_if (pt_not (pt_val (pe_cal C_L_is_cuts hr (by decide) (by rfl) (pa_cons (pv 0) (pa_cons (pv 1) (pa_cons (pv 2) pa_nil)))))) (pss_one (ps_ret pe_bl)) pss_nil)
      (pss_cons (ps_for PassesOwn.never rfl (RZ.pi_zipA (by rfl) Z.zip (pa_cons (pv 1) (pa_cons (pv 2) pa_nil))) (pg_tup rfl (pgs_cons (pg_name (i := 3) nd rfl (Or.inl rfl)) (pgs_cons (pg_name (i := 4) nd rfl (Or.inl rfl)) pgs_nil))) (pss_cons (ps_setLc (i := 5) (own := [("_law_block", 6)]) (g := (gName 6)) (tt := tYes) rfl nd rfl rfl (sw_true rfl rfl rfl (by decide +kernel)) (pi_seq (pe_cal C_L_blocks hr (by decide) (by rfl) (pa_cons (pv 3) (pa_cons (pv 4) pa_nil)))) (blkOk_by (N := ["_law_measure", "_law_strings", "_law_value", "_law_string", "_law_lengths", "_law_shares", "_law_block", "_law_one", "_law_other"]) (sc := defScope s_L_is_falling) (by decide +kernel)) (fun _ _ _ _ _ => (pg_name (i := 6) nd rfl (Or.inl rfl))) (fun _ _ _ _ _ => pts_nil) (fun _ _ _ _ _ => (pe_cal C_L_share hr (by decide) (by rfl) (pa_cons (pv 0) (pa_cons (pv 6) pa_nil)))))
      (pss_one (ps_if (pt_cmpR (op_inK (K := K) rfl) pe_bl (pe_lc (own := [("_law_one", 7), ("_law_other", 8)]) (g := (gTup K 2 (gCons (gName 7) (gCons (gName 8) gNil)))) (tt := tYes) rfl nd (RZ.pi_zipA (by rfl) Z.zip (pa_cons (pv 5) (pa_cons (pe_slice (sl_XK (K := K) rfl) (pv 5) (po_some pe_int) po_none) pa_nil))) (blkOk_by (N := ["_law_measure", "_law_strings", "_law_value", "_law_string", "_law_lengths", "_law_shares", "_law_block", "_law_one", "_law_other"]) (sc := defScope s_L_is_falling) (by decide +kernel)) (fun _ _ _ _ _ => (pg_tup rfl (pgs_cons (pg_name (i := 7) nd rfl (Or.inl rfl)) (pgs_cons (pg_name (i := 8) nd rfl (Or.inl rfl)) pgs_nil)))) (fun _ _ _ _ _ => pts_nil) (fun _ _ _ _ _ => (pe_cal C_L_is_less hr (by decide) (by rfl) (pa_cons (pv 7) (pa_cons (pv 8) pa_nil))))) rfl) (pss_one (ps_ret pe_bl)) pss_nil))))
      (pss_one (ps_ret pe_bl)))), fun ds d h B F0 D q => ?_⟩
    obtain ⟨W, ss, cs, hW, hf, rfl, rfl⟩ := h
    show Tr B F0 F0 [some (mD W), some (ssD ss), some (.tup (cs.map cutD2)), none, none, none, none, none, none] [] _
    have hc := hf.cut
    refine t_seq ?_
    walk_at "n"
    refine t_ifF (et_notT (et_B (ev_call (ea_cons (ev_var rfl) (ea_cons (ev_var rfl) (ea_cons (ev_var rfl) ea_nil))) ⟨W, ss, cs, hW, hc, rfl, rfl⟩))) ?_
    refine t_next ?_
    refine t_seq ?_
    walk_at "n"
    refine t_for (ds := zpD (ss.map sD) (cs.map cutD2)) (it_zipAT (ea_cons (ev_var rfl) (ea_cons (ev_var rfl) ea_nil))) .nil (fun i env mus => ∃ (x1 x2 x3 : Option Dt), env = [some (mD W), some (ssD ss), some (.tup (cs.map cutD2)), x1, x2, x3, none, none, none] ∧ mus = [])
      ⟨none, none, none, rfl, rfl⟩ (fun _ _ _ _ _ x hx => nomatch hx) ?_ ?_
    · rintro X' hX i d env mus hd ⟨x1, x2, x3, rfl, rfl⟩
      obtain ⟨a, b, ea, eb, rfl⟩ := zpD_get hd
      rw [List.getElem?_map] at ea eb
      obtain ⟨st, hst, rfl⟩ := Option.map_eq_some_iff.mp ea
      obtain ⟨ls, hls, rfl⟩ := Option.map_eq_some_iff.mp eb
      have hcu := hc.at_ i st ls hst hls
      have hfa := hf.fall i st ls hst hls
      refine ⟨_, _, gd_tup2, ?_⟩
      refine t_seq ?_
      walk_at "n"
      have hbl : (blocksOf st ls).length ≤ 1000 := by rw [blocksOf_len]; exact hcu.len
      have hsh : (blocksOf st ls).map (fun b => shD (shr (b.map (pr W)))) = (shares W st ls).map shD := by
        unfold shares
        rw [List.map_map]
        rfl
      refine t_asg (d := .lst ((shares W st ls).map shD)) (EvD.is (EvN.toD (en_lcM (l := blocksOf st ls) (G := sD) (F := fun b => shD (shr (b.map (pr W)))) (is := [6]) (it_left (it_list (ev_call (ea_cons (ev_var rfl) (ea_cons (ev_var rfl) ea_nil)) ⟨st, ls, hcu.len, rfl, rfl⟩))) (by simp) .nil (by simp) (fun n b hb => ⟨_, gd_name, ?_⟩) (by omega))) (by rw [hsh])) ?_
      · obtain ⟨b1, b2⟩ := block_facts hcu (List.mem_of_getElem? hb)
        exact ev_call (ea_cons (ev_var rfl) (ea_cons (ev_var rfl) ea_nil)) ⟨W, b, true, hW, b1, b2, rfl, rfl⟩
      walk_at "n"
      have hsl : (shares W st ls).length ≤ 1000 := by
        unfold shares
        rw [List.length_map]
        exact hbl
      have hsm : ∀ x ∈ shares W st ls, 0 ≤ x.1 ∧ x.1 ≤ 9000 := fun x hx => by
        obtain ⟨b, hb, rfl⟩ := List.mem_map.mp hx
        obtain ⟨b1, b2⟩ := block_facts hcu hb
        exact share_small hW b1 b2
      have hcut : cutD ((shares W st ls).map shD) (some 1) none = ((shares W st ls).drop 1).map shD := by
        have := cutD_n0 ((shares W st ls).map shD) 1
        rw [List.map_drop]
        exact this
      refine t_ifF (EvT.is (et_test (ev_op ev_bl (EvD.is (EvN.toD (en_lcI (is := [7, 8]) (ds := zpD ((shares W st ls).map shD) (((shares W st ls).drop 1).map shD)) (it_zipAL (ea_cons (ev_var rfl) (ea_cons (d := .lst (((shares W st ls).drop 1).map shD)) (EvD.is (EvN.toD (en_sliceL (ev_var rfl) (eo_some ev_int) eo_none)) (by rw [← hcut])) ea_nil))) (by simp) .nil (by simp) (fun _ => Dt.bl false) (fun n d hd => ?_) ?_)) (by rw [allBl])) rd_inB)) ?_) ?_
      · obtain ⟨a, b, ea, eb, rfl⟩ := zpD_get hd
        rw [List.getElem?_map] at ea eb
        obtain ⟨x, hx, rfl⟩ := Option.map_eq_some_iff.mp ea
        obtain ⟨y, hy, rfl⟩ := Option.map_eq_some_iff.mp eb
        rw [List.getElem?_drop, Nat.add_comm] at hy
        refine ⟨_, gd_tup2, ?_⟩
        have e := hfa n x y hx hy
        exact (ev_call (ea_cons (ev_var rfl) (ea_cons (ev_var rfl) ea_nil)) (less_sh (hsm x (List.mem_of_getElem? hx)) (hsm y (List.mem_of_getElem? hy)))).is (by rw [e])
      · rw [zpD_len, List.length_map]
        omega
      · simp
      · exact t_next (tr_asr ⟨_, _, _, rfl, rfl⟩)
    · rintro env mus ⟨x1, x2, x3, rfl, rfl⟩
      exact t_ret ev_bl fun v F' H' g _ r => q v F' H' g r

/-- each string's index as often as it has jobs -/
def R_isWeave : List Dt → Dt → Prop := fun ds d => ∃ (ss : List (List Jb)) (wv : List Nat), ss.length ≤ 100 ∧ wv.length ≤ 1000 ∧ wv.length = (ss.map List.length).sum ∧ (∀ (k : Nat) s, ss[k]? = some s → (wv.filter fun x => decide (x = k)).length = s.length) ∧ ds = [ssD ss, wvD wv] ∧ d = .bl true
abbrev s_L_is_weave : Stmt := topS 34
theorem sc_L_is_weave : FnScope ["_law_strings", "_law_value", "_law_k", "_law_string", "_law_one"] ["_law_strings", "_law_value"] (defScope s_L_is_weave) := ⟨rfl, rfl, rfl, by decide +kernel, rfl, by decide +kernel, by decide +kernel⟩
theorem ok_L_is_weave {f : Addr} {fd : FuncData} (F : Fun K "_law_is_weave" "_law_is_weave" s_L_is_weave f fd) (Z : Bz mg) (C_L_from : Cal P w K mg base 1 "_law_from" ["_law_value", "_law_low"] (SpD R_from)) : FnOk P w K mg base CX0 2 f fd ["_law_strings", "_law_value"] (SpD R_isWeave) := by
  refine ok_pure F sc_L_is_weave (fun ds d h => ?_) fun cdv A outer s H E hr => ?_
  · obtain ⟨ss, wv, _, _, _, _, rfl, _⟩ := h
    rfl
  · have nd := sc_L_is_weave.nd
    refine ⟨_, (pss_cons (ps_if (PW.pt (pw_or (pt_not (pt_val (pe_callB (call_isiK' (K := K) rfl) (by rfl) Z.isinstance (by decide +kernel) (pa_cons (pv 1) (pa_cons (pe_bltn (v := .ty "tuple") (by rfl) Z.tuple (by decide +kernel) rfl) pa_nil))))) (pw_or1 (pt_cmpR (op_inK (K := K) rfl) pe_bl (pe_lc (own := [("_law_one", 4)]) (g := (gName 4)) (tt := tYes) rfl nd (pi_seq (pv 1)) (blkOk_by (N := ["_law_strings", "_law_value", "_law_k", "_law_string", "_law_one"]) (sc := defScope s_L_is_weave) (by decide +kernel)) (fun _ _ _ _ _ => (pg_name (i := 4) nd rfl (Or.inl rfl))) (fun _ _ _ _ _ => pts_nil) (fun _ _ _ _ _ => (pe_cal C_L_from hr (by decide) (by rfl) (pa_cons (pv 4) (pa_cons pe_int pa_nil))))) rfl)))) (pss_one (ps_ret pe_bl)) pss_nil)
      (pss_cons (ps_if (pt_cmpR op_ne (pe_callB (call_lenK (K := K) rfl) (by rfl) Z.len (by decide +kernel) (pa_cons (pv 1) pa_nil)) (pe_callB (cr_sumXK (K := K) rfl rfl) (by rfl) Z.sum (by decide +kernel) (pa_cons (pe_lc (own := [("_law_string", 3)]) (g := (gName 3)) (tt := tYes) rfl nd (pi_seq (pv 0)) (blkOk_by (N := ["_law_strings", "_law_value", "_law_k", "_law_string", "_law_one"]) (sc := defScope s_L_is_weave) (by decide +kernel)) (fun _ _ _ _ _ => (pg_name (i := 3) nd rfl (Or.inl rfl))) (fun _ _ _ _ _ => pts_nil) (fun _ _ _ _ _ => (pe_callB (call_lenK (K := K) rfl) (by rfl) Z.len (by decide +kernel) (pa_cons (pv 3) pa_nil)))) pa_nil)) (nomark _)) (pss_one (ps_ret pe_bl)) pss_nil)
      (pss_cons (ps_for PassesOwn.never rfl (pi_or (pi_enum (by rfl) Z.enumerate (pa_cons (pv 0) pa_nil)) (pi_enumT (by rfl) Z.enumerate (pa_cons (pv 0) pa_nil))) (pg_tup rfl (pgs_cons (pg_name (i := 2) nd rfl (Or.inr rfl)) (pgs_cons (pg_name (i := 3) nd rfl (Or.inl rfl)) pgs_nil))) (pss_one (ps_if (pt_cmpR op_ne (pe_callB (call_lenK (K := K) rfl) (by rfl) Z.len (by decide +kernel) (pa_cons (pe_lc (own := [("_law_one", 4)]) (g := (gName 4)) rfl nd (pi_seq (pv 1)) (blkOk_by (N := ["_law_strings", "_law_value", "_law_k", "_law_string", "_law_one"]) (sc := defScope s_L_is_weave) (by decide +kernel)) (fun _ _ _ _ _ => (pg_name (i := 4) nd rfl (Or.inl rfl))) (fun _ _ _ _ _ => (pts_one (pt_cmpR op_eq (pv 4) (pv 2) (nomark _)))) (fun _ _ _ _ _ => (pv 4))) pa_nil)) (pe_callB (call_lenK (K := K) rfl) (by rfl) Z.len (by decide +kernel) (pa_cons (pv 3) pa_nil)) (nomark _)) (pss_one (ps_ret pe_bl)) pss_nil)))
      (pss_one (ps_ret pe_bl))))), fun ds d h B F0 D q => ?_⟩
    obtain ⟨ss, wv, hl1, hl2, hsum, hcnt, rfl, rfl⟩ := h
    show Tr B F0 F0 [some (ssD ss), some (wvD wv), none, none, none] [] _
    refine t_seq ?_
    walk_at "n"
    refine t_ifF (et_orFF (et_notT (et_isTup (ev_var rfl))) (et_noFrom (show 4 < 5 by decide) hl2 (ev_var rfl) fun l hl => by omega)) ?_
    refine t_next ?_
    refine t_seq ?_
    walk_at "n"
    refine t_ifF (et_neF (a := ((wv.map nD).length : Nat)) (b := ((ss.map List.length).sum : Nat)) (ev_cb (ea_cons (ev_var rfl) ea_nil) rc_lenT) (ev_cb (ea_cons (EvD.is (EvN.toD (en_lcM (l := ss) (G := sD) (F := fun s => nD s.length) (is := [3]) (it_right (it_tup (ev_var rfl))) (by simp) .nil (by simp) (fun n s hs => ⟨_, gd_name, ?_⟩) (by omega))) (d2 := .lst ((ss.map List.length).map nD)) (by rw [List.map_map]; rfl)) ea_nil) (rc_sumNL _)) (by rw [List.length_map, hsum])) ?_
    · exact (ev_cb (ea_cons (ev_var (d := .tup (s.map jbD)) rfl) ea_nil) rc_lenT).is (by rw [List.length_map]; rfl)
    refine t_next ?_
    refine t_seq ?_
    walk_at "n"
    refine t_for (it_right (it_enumT (ds := ss.map sD) (ea_cons (ev_var rfl) ea_nil))) .nil (fun i env mus => ∃ (x1 x2 : Option Dt), env = [some (ssD ss), some (wvD wv), x1, x2, none] ∧ mus = [])
      ⟨none, none, rfl, rfl⟩ (fun _ _ _ _ _ x hx => nomatch hx) ?_ ?_
    · rintro X' hX i d env mus hd ⟨x1, x2, rfl, rfl⟩
      obtain ⟨d0, e0, rfl⟩ := enD_get hd
      rw [List.getElem?_map] at e0
      obtain ⟨s, hs, rfl⟩ := Option.map_eq_some_iff.mp e0
      refine ⟨_, _, gd_tup2, ?_⟩
      walk_at "n"
      have hc := hcnt i s hs
      refine t_ifF (et_neF (a := (((wv.filter fun x => decide (x = i)).map nD).length : Nat)) (b := ((s.map jbD).length : Nat)) (ev_cb (ea_cons (EvN.toD (en_lcF (l := wv) (G := nD) (F := nD) (is := [4]) (fun x => decide (x = i)) (it_right (it_tup (ev_var rfl))) (by simp) .nil (by simp) (fun n x hx => ⟨_, gd_name, ?_, fun _ => ev_var rfl⟩) (by omega))) ea_nil) rc_lenL) (ev_cb (ea_cons (ev_var (d := .tup (s.map jbD)) rfl) ea_nil) rc_lenT) (by rw [List.length_map, List.length_map, hc])) ?_
      · refine (et_test (ev_op (d1 := .int (x : Int)) (d2 := .int (i : Int)) (ev_var rfl) (ev_var rfl) rd_eq)).is ?_
        by_cases e : x = i
        · rw [e, decide_eq_true rfl, decide_eq_true rfl]
        · rw [decide_eq_false e, decide_eq_false (show ¬ ((x : Int) = (i : Int)) by omega)]
      exact t_next (tr_asr ⟨_, _, rfl, rfl⟩)
    · rintro env mus ⟨x1, x2, rfl, rfl⟩
      exact t_ret ev_bl fun v F' H' g _ r => q v F' H' g r
end
end KB
namespace KB
open PySem PySem.Spec PyProof.Rows L2
local macro_rules | `(tactic| walk_at "at") => `(tactic| first | assumption | (exact atI_nat (j := 0) rfl) | (exact atI_nat (j := 1) rfl) | (exact atI_nat (j := 2) rfl) | (exact atI_nat (by assumption)) | (exact atI_map _ (by assumption)) | (exact atI_of (by assumption) (by omega)))
local macro_rules | `(tactic| walk_at "side") => `(tactic| first | assumption | decide | omega | (simp; done))
local macro_rules | `(tactic| walk_at "rd") => `(tactic| first
  | exact rd_addI | exact rd_i0 | exact rd_b0 | exact rd_eq | exact rd_ne | exact rd_neB
  | (refine' rd_xT ?ka; (case ka => walk_at "at")) | (refine' rd_xL ?ka; (case ka => walk_at "at")) | (refine' rd_xM ?kb ?ka; (case kb => simp; done); (case ka => walk_at "at"))
  | (refine' rd_mulI ?ka; (case ka => walk_at "side"))
  | (refine' rd_addT ?ka; (case ka => walk_at "side"))
  | (refine' rd_i ?ka; (case ka => walk_at "side"))
  | exact rd_isN | (exact rd_isN0 (by intro z; cases z)) | exact rd_notN | (exact rd_notN1 (by intro z; cases z)) | exact rd_inB | exact rd_inT)
local macro_rules | `(tactic| walk_at "rc") => `(tactic| first | exact rc_lenT | exact rc_lenL | (refine' rc_lenM ?ka; (case ka => simp; done)) | exact rc_sumXL | exact rc_sumXT | (refine' rc_sumXM ?ka; (case ka => simp; done)) | exact rc_tupL | (refine' rc_tupM ?ka; (case ka => simp; done)) | exact rc_int | exact rc_min2 | (exact rc_isi (by decide) (by decide +kernel)) | (exact rc_isiT (by decide) (by decide +kernel) (by decide +kernel)))
local macro_rules | `(tactic| walk_at "eo") => `(tactic| first | exact eo_none | (refine' eo_some ?ka; (case ka => walk_at "ev")))
local macro_rules | `(tactic| walk_at "ea") => `(tactic| first | exact ea_nil | (refine' ea_cons ?ka ?kb; (case ka => walk_at "ev"); (case kb => walk_at "ea")))
local macro_rules | `(tactic| walk_at "en") => `(tactic| first
  | (refine' en_lst ?ka ?kb; (case ka => walk_at "ea"); (case kb => walk_at "side"))
  | (refine' en_sliceL ?ka ?kb ?kc; (case ka => walk_at "ev"); (case kb => walk_at "eo"); (case kc => walk_at "eo"))
  | (refine' en_op ?ka ?kb ?kc; (case ka => walk_at "ev"); (case kb => walk_at "ev"); (case kc => first | (refine' rn_addL ?kd; (case kd => walk_at "side")) | (refine' rn_mulL ?kd ?ke ?kf; (case kd => walk_at "side"); (case ke => walk_at "side"); (case kf => walk_at "side")))))
local macro_rules | `(tactic| walk_at "ev") => `(tactic| first
  | exact ev_var rfl | exact ev_int | exact ev_bl | exact ev_non | exact ev_str | exact ev_ty | assumption
  | (refine' ev_op ?ka ?kb ?kc; (case ka => walk_at "ev"); (case kb => walk_at "ev"); (case kc => walk_at "rd"))
  | (refine' ev_un ?ka; (case ka => walk_at "ev"))
  | (refine' ev_tup ?ka ?kb; (case ka => walk_at "ea"); (case kb => walk_at "side"))
  | (refine' ev_cb ?ka ?kb; (case ka => walk_at "ea"); (case kb => walk_at "rc"))
  | (refine' ev_sliceT ?ka ?kb ?kc; (case ka => walk_at "ev"); (case kb => walk_at "eo"); (case kc => walk_at "eo"))
  | (refine' ev_notV ?ka; (case ka => walk_at "ev"))
  | (refine' EvN.toD ?ka; (case ka => walk_at "en")))
local macro_rules | `(tactic| walk_at "n") => `(tactic| dsimp only [List.set_cons_zero, List.set_cons_succ, List.map_cons, List.map_nil, List.cons_append, List.nil_append, List.length_cons, List.length_nil, Nat.add_sub_cancel, List.replicate])
section
variable {P : Program} {w : World} {K : PySem.W.Frag} {mg : Str → Option Value} {base : Heap}
structure SwOk (W : List Int) (wv : List Nat) (js : List Jb) (x : Nat × Nat × Nat) : Prop where
  ij : x.1 < x.2.1
  jk : x.2.1 < x.2.2
  kn : x.2.2 ≤ wv.length
  dis : ∀ a ∈ (wv.drop x.1).take (x.2.1 - x.1), a ∉ (wv.drop x.2.1).take (x.2.2 - x.2.1)
  les : lss (shAt (js.map (pr W)) (x.1, x.2.1)) (shAt (js.map (pr W)) (x.2.1, x.2.2)) = true
def R_isSwap : List Dt → Dt → Prop := fun ds d => ∃ (W : List Int) (ss : List (List Jb)) (wv : List Nat) (js : List Jb) (x : Nat × Nat × Nat), WOk W ∧ (∀ j ∈ js, JOk W j) ∧ Wv ss wv js ∧ ss.length ≤ 1000 ∧ wv.length ≤ 1000 ∧ SwOk W wv js x ∧ ds = [mD W, ssD ss, wvD wv, swD x] ∧ d = .bl true
theorem hu64_of {k : Nat} {A : Around} (hr : Room k A) : A.units + 64 < cLine := by have := hr.un; omega
theorem inD_tup {neg : Bool} {b : Nat} {bs : List Nat} {mus : Mu} : RD (rIn K neg) mus (nD b) (.tup (bs.map nD)) (.bl (if neg then !decide (b ∈ bs) else decide (b ∈ bs))) := by
  have h := rd_inT (K := K) (mus := mus) (neg := neg) (b := (b : Int)) (bs := bs.map fun k => ((k : Nat) : Int))
  have e : ((b : Int) ∈ bs.map fun k => ((k : Nat) : Int)) = (b ∈ bs) := by
    apply propext
    constructor
    · intro hm
      obtain ⟨k, hk, e⟩ := List.mem_map.mp hm
      have : k = b := by omega
      rw [← this]
      exact hk
    · exact fun hm => List.mem_map.mpr ⟨b, hm, rfl⟩
  rw [nD_ints]
  simp only [e] at h
  exact h
theorem shr_slice {W : List Int} {js : List Jb} {i j : Nat} : shr (((js.drop i).take (j - i)).map (pr W)) = shAt (js.map (pr W)) (i, j) := shAt_eq W js (i, j)
abbrev s_L_is_swap : Stmt := topS 37
theorem sc_L_is_swap : FnScope ["_law_measure", "_law_strings", "_law_weave", "_law_value", "_law_i", "_law_j", "_law_k", "_law_jobs", "_law_one"] ["_law_measure", "_law_strings", "_law_weave", "_law_value"] (defScope s_L_is_swap) := ⟨rfl, rfl, rfl, by decide +kernel, rfl, by decide +kernel, by decide +kernel⟩
theorem ok_L_is_swap {f : Addr} {fd : FuncData} (F : Fun K "_law_is_swap" "_law_is_swap" s_L_is_swap f fd) (Z : Bz mg) (C_L_share : Cal P w K mg base 1 "_law_share" ["_law_measure", "_law_jobs"] (SpD R_share)) (C_L_is_less : Cal P w K mg base 1 "_law_is_less" ["_law_one", "_law_other"] (SpD R_less))
    (C_L_jobs_of : Cal P w K mg base 1 "_law_jobs_of" ["_law_strings", "_law_weave"] (SpD R_jobs)) (C_L_from : Cal P w K mg base 1 "_law_from" ["_law_value", "_law_low"] (SpD R_from)) : FnOk P w K mg base CX0 2 f fd ["_law_measure", "_law_strings", "_law_weave", "_law_value"] (SpD R_isSwap) := by
  refine ok_pure F sc_L_is_swap (fun ds d h => ?_) fun cdv A outer s H E hr => ?_
  · obtain ⟨W, ss, wv, js, x, _, _, _, _, _, _, rfl, _⟩ := h
    rfl
  · have nd := sc_L_is_swap.nd
    have hu := hu_of hr
    have hu64 := hu64_of hr
    refine ⟨_, (pss_cons (ps_if (PW.pt (pw_or (pt_not (pt_val (pe_callB (call_isiK' (K := K) rfl) (by rfl) Z.isinstance (by decide +kernel) (pa_cons (pv 3) (pa_cons (pe_bltn (v := .ty "tuple") (by rfl) Z.tuple (by decide +kernel) rfl) pa_nil))))) (pw_or (pt_cmpR op_ne (pe_callB (call_lenK (K := K) rfl) (by rfl) Z.len (by decide +kernel) (pa_cons (pv 3) pa_nil)) pe_int (nomark _)) (pw_or1 (pt_cmpR (op_inK (K := K) rfl) pe_bl (pe_lc (own := [("_law_one", 8)]) (g := (gName 8)) (tt := tYes) rfl nd (pi_seq (pv 3)) (blkOk_by (N := ["_law_measure", "_law_strings", "_law_weave", "_law_value", "_law_i", "_law_j", "_law_k", "_law_jobs", "_law_one"]) (sc := defScope s_L_is_swap) (by decide +kernel)) (fun _ _ _ _ _ => (pg_name (i := 8) nd rfl (Or.inl rfl))) (fun _ _ _ _ _ => pts_nil) (fun _ _ _ _ _ => (pe_cal C_L_from hr (by decide) (by rfl) (pa_cons (pv 8) (pa_cons pe_int pa_nil))))) rfl))))) (pss_one (ps_ret pe_bl)) pss_nil)
      (pss_cons (ps_asg (pv 3) (pg_tup rfl (pgs_cons (pg_name (i := 4) nd rfl (Or.inl rfl)) (pgs_cons (pg_name (i := 5) nd rfl (Or.inr rfl)) (pgs_cons (pg_name (i := 6) nd rfl (Or.inr rfl)) pgs_nil)))))
      (pss_cons (ps_if (pt_not (pt_chain3 op_lt op_lt op_le (pv 4) (pv 5) (pv 6) (pe_callB (call_lenK (K := K) rfl) (by rfl) Z.len (by decide +kernel) (pa_cons (pv 2) pa_nil)))) (pss_one (ps_ret pe_bl)) pss_nil)
      (pss_cons (ps_if (pt_cmpR (op_neDK (K := K) rfl hu64) (pe_lc (own := [("_law_one", 8)]) (g := (gName 8)) rfl nd (pi_seq (pe_slice (sl_XK (K := K) rfl) (pv 2) (po_some (pv 4)) (po_some (pv 5)))) (blkOk_by (N := ["_law_measure", "_law_strings", "_law_weave", "_law_value", "_law_i", "_law_j", "_law_k", "_law_jobs", "_law_one"]) (sc := defScope s_L_is_swap) (by decide +kernel)) (fun _ _ _ _ _ => (pg_name (i := 8) nd rfl (Or.inl rfl))) (fun _ _ _ _ _ => (pts_one (pt_cmpR (op_inK (K := K) rfl) (pv 8) (pe_slice (sl_XK (K := K) rfl) (pv 2) (po_some (pv 5)) (po_some (pv 6))) rfl))) (fun _ _ _ _ _ => (pv 8))) (pe_lst pa_nil) (nomark _)) (pss_one (ps_ret pe_bl)) pss_nil)
      (pss_cons (ps_set (i := 7) nd rfl (Or.inl rfl) (pe_cal C_L_jobs_of hr (by decide) (by rfl) (pa_cons (pv 1) (pa_cons (pv 2) pa_nil))))
      (pss_one (ps_ret (pe_cal C_L_is_less hr (by decide) (by rfl) (pa_cons (pe_cal C_L_share hr (by decide) (by rfl) (pa_cons (pv 0) (pa_cons (pe_slice (sl_XK (K := K) rfl) (pv 7) (po_some (pv 4)) (po_some (pv 5))) pa_nil))) (pa_cons (pe_cal C_L_share hr (by decide) (by rfl) (pa_cons (pv 0) (pa_cons (pe_slice (sl_XK (K := K) rfl) (pv 7) (po_some (pv 5)) (po_some (pv 6))) pa_nil))) pa_nil)))))))))), fun ds d h B F0 D q => ?_⟩
    obtain ⟨W, ss, wv, js, x, hW, hj, hwv, hl1, hl2, hs, rfl, rfl⟩ := h
    show Tr B F0 F0 [some (mD W), some (ssD ss), some (wvD wv), some (swD x), none, none, none, none, none] [] _
    have hjl := hwv.len
    refine t_seq ?_
    walk_at "n"
    refine t_ifF (et_orFF (et_notT (et_isTup (ev_var rfl))) (et_orFF (et_neF (a := 3) (b := 3) (ev_cb (ea_cons (ev_var rfl) ea_nil) rc_lenT) ev_int rfl) (et_noFrom (show 8 < 9 by decide) (ls := [x.1, x.2.1, x.2.2]) (show 3 ≤ 1000 by decide) (ev_var rfl) fun l hl => by omega))) ?_
    refine t_next ?_
    refine t_seq ?_
    walk_at "n"
    refine t_asgG (ev_var rfl) gd_tup3 ?_
    walk_at "n"
    have hij := hs.ij
    have hjk := hs.jk
    have hkn := hs.kn
    refine t_seq ?_
    refine t_ifF ((et_not (et_chain3 (a := (x.1 : Int)) (b := (x.2.1 : Int)) (c := (x.2.2 : Int)) (e := ((wv.map nD).length : Nat)) (ev_var rfl) (ev_var rfl) (ev_var rfl) (ev_cb (ea_cons (ev_var rfl) ea_nil) rc_lenT))).is ?_) ?_
    · rw [List.length_map, decide_eq_true ⟨by omega, by omega, by omega⟩]
      rfl
    refine t_next ?_
    refine t_seq ?_
    walk_at "n"
    have e1 : EvD (tSl (rSlX K) (tVar 2) (tPart (tVar 4)) (tPart (tVar 5))) [some (mD W), some (ssD ss), some (wvD wv), some (swD x), some (nD x.1), some (nD x.2.1), some (nD x.2.2), none, none] [] (.tup (((wv.drop x.1).take (x.2.1 - x.1)).map nD)) :=
      (ev_sliceT (K := K) (ds := wv.map nD) (lo := some (x.1 : Int)) (hi := some (x.2.1 : Int)) (ev_var rfl) (eo_some (ev_var rfl)) (eo_some (ev_var rfl))).is (by rw [cutD_map, cutD_nn])
    have hnil : ((wv.drop x.1).take (x.2.1 - x.1)).filter (fun a => decide (a ∈ (wv.drop x.2.1).take (x.2.2 - x.2.1))) = [] := by
      rw [List.filter_eq_nil_iff]
      intro a ha
      rw [decide_eq_false (hs.dis a ha)]
      exact Bool.false_ne_true
    refine t_ifF (EvT.is (et_test (ev_op (d1 := .lst []) (EvD.is (EvN.toD (en_lcF (l := (wv.drop x.1).take (x.2.1 - x.1)) (G := nD) (F := nD) (is := [8]) (fun a => decide (a ∈ (wv.drop x.2.1).take (x.2.2 - x.2.1))) (it_right (it_tup e1)) (by simp) .nil (by simp) (fun n a hx => ⟨_, gd_name, ?_, fun _ => ev_var rfl⟩) (by rw [List.length_take, List.length_drop]; omega))) (by rw [hnil]; rfl)) (EvN.toD (en_lst ea_nil (Nat.zero_le _))) (rd_neNil (by simp)))) rfl) ?_
    · refine (et_test (ev_op (d1 := nD a) (ev_var rfl) (ev_sliceT (K := K) (ds := wv.map nD) (lo := some (x.2.1 : Int)) (hi := some (x.2.2 : Int)) (ev_var rfl) (eo_some (ev_var rfl)) (eo_some (ev_var rfl))) ?_)).is rfl
      rw [cutD_map, cutD_nn]
      exact inD_tup
    refine t_next ?_
    refine t_seq ?_
    walk_at "n"
    refine t_asg (d := .lst (js.map jbD)) (ev_call (ea_cons (ev_var rfl) (ea_cons (ev_var rfl) ea_nil)) ⟨ss, wv, js, hwv, hl1, hl2, rfl, rfl⟩) ?_
    walk_at "n"
    have hsl : ∀ {mus : Mu} {a b : TE} {i j : Nat}, EvD a [some (mD W), some (ssD ss), some (wvD wv), some (swD x), some (nD x.1), some (nD x.2.1), some (nD x.2.2), some (.lst (js.map jbD)), none] mus (.int (i : Int)) → EvD b [some (mD W), some (ssD ss), some (wvD wv), some (swD x), some (nD x.1), some (nD x.2.1), some (nD x.2.2), some (.lst (js.map jbD)), none] mus (.int (j : Int)) →
        EvD (tSl (rSlX K) (tVar 7) (tPart a) (tPart b)) [some (mD W), some (ssD ss), some (wvD wv), some (swD x), some (nD x.1), some (nD x.2.1), some (nD x.2.2), some (.lst (js.map jbD)), none] mus (.lst (((js.drop i).take (j - i)).map jbD)) := fun ha hb =>
      (EvN.toD (en_sliceL (K := K) (ds := js.map jbD) (ev_var rfl) (eo_some ha) (eo_some hb))).is (by rw [cutD_map, cutD_nn])
    have hsh : ∀ {mus : Mu} {a b : TE} {i j : Nat}, EvD a [some (mD W), some (ssD ss), some (wvD wv), some (swD x), some (nD x.1), some (nD x.2.1), some (nD x.2.2), some (.lst (js.map jbD)), none] mus (.int (i : Int)) → EvD b [some (mD W), some (ssD ss), some (wvD wv), some (swD x), some (nD x.1), some (nD x.2.1), some (nD x.2.2), some (.lst (js.map jbD)), none] mus (.int (j : Int)) →
        EvD (tCall (SpD R_share) [] E0 (tCons (tVar 0) (tCons (tSl (rSlX K) (tVar 7) (tPart a) (tPart b)) tNil))) [some (mD W), some (ssD ss), some (wvD wv), some (swD x), some (nD x.1), some (nD x.2.1), some (nD x.2.2), some (.lst (js.map jbD)), none] mus (shD (shAt (js.map (pr W)) (i, j))) := fun {_ _ _ i j} ha hb => by
      rw [← shr_slice]
      exact ev_call (ea_cons (ev_var rfl) (ea_cons (hsl ha hb) ea_nil)) ⟨W, (js.drop i).take (j - i), false, hW, fun y hy => hj y (List.mem_of_mem_drop (List.mem_of_mem_take hy)), by rw [List.length_take, List.length_drop]; omega, rfl, rfl⟩
    refine t_ret (d := .bl true) ((ev_call (ea_cons (hsh (ev_var rfl) (ev_var rfl)) (ea_cons (hsh (ev_var rfl) (ev_var rfl)) ea_nil)) (less_sh (shAt_bound hW hj (by omega) _) (shAt_bound hW hj (by omega) _))).is (by rw [hs.les])) fun v F' H' g _ r => q v F' H' g r
end
end KB
namespace KB
open PySem PySem.Spec PyProof.Rows L2
local macro_rules | `(tactic| walk_at "at") => `(tactic| first | assumption | (exact atI_nat (j := 0) rfl) | (exact atI_nat (j := 1) rfl) | (exact atI_nat (j := 2) rfl) | (exact atI_nat (by assumption)) | (exact atI_map _ (by assumption)) | (exact atI_of (by assumption) (by omega)))
local macro_rules | `(tactic| walk_at "side") => `(tactic| first | assumption | decide | omega | (simp; done))
local macro_rules | `(tactic| walk_at "rd") => `(tactic| first
  | exact rd_addI | exact rd_i0 | exact rd_b0 | exact rd_eq | exact rd_ne | exact rd_neB
  | (refine' rd_xT ?ka; (case ka => walk_at "at")) | (refine' rd_xL ?ka; (case ka => walk_at "at")) | (refine' rd_xM ?kb ?ka; (case kb => simp; done); (case ka => walk_at "at"))
  | (refine' rd_mulI ?ka; (case ka => walk_at "side"))
  | (refine' rd_addT ?ka; (case ka => walk_at "side"))
  | (refine' rd_i ?ka; (case ka => walk_at "side"))
  | exact rd_isN | (exact rd_isN0 (by intro z; cases z)) | exact rd_notN | (exact rd_notN1 (by intro z; cases z)) | exact rd_inB | exact rd_inT)
local macro_rules | `(tactic| walk_at "rc") => `(tactic| first | exact rc_lenT | exact rc_lenL | (refine' rc_lenM ?ka; (case ka => simp; done)) | exact rc_sumXL | exact rc_sumXT | (refine' rc_sumXM ?ka; (case ka => simp; done)) | exact rc_tupL | (refine' rc_tupM ?ka; (case ka => simp; done)) | exact rc_int | exact rc_min2 | (exact rc_isi (by decide) (by decide +kernel)) | (exact rc_isiT (by decide) (by decide +kernel) (by decide +kernel)))
local macro_rules | `(tactic| walk_at "eo") => `(tactic| first | exact eo_none | (refine' eo_some ?ka; (case ka => walk_at "ev")))
local macro_rules | `(tactic| walk_at "ea") => `(tactic| first | exact ea_nil | (refine' ea_cons ?ka ?kb; (case ka => walk_at "ev"); (case kb => walk_at "ea")))
local macro_rules | `(tactic| walk_at "en") => `(tactic| first
  | (refine' en_lst ?ka ?kb; (case ka => walk_at "ea"); (case kb => walk_at "side"))
  | (refine' en_sliceL ?ka ?kb ?kc; (case ka => walk_at "ev"); (case kb => walk_at "eo"); (case kc => walk_at "eo"))
  | (refine' en_op ?ka ?kb ?kc; (case ka => walk_at "ev"); (case kb => walk_at "ev"); (case kc => first | (refine' rn_addL ?kd; (case kd => walk_at "side")) | (refine' rn_mulL ?kd ?ke ?kf; (case kd => walk_at "side"); (case ke => walk_at "side"); (case kf => walk_at "side")))))
local macro_rules | `(tactic| walk_at "ev") => `(tactic| first
  | exact ev_var rfl | exact ev_int | exact ev_bl | exact ev_non | exact ev_str | exact ev_ty | assumption
  | (refine' ev_op ?ka ?kb ?kc; (case ka => walk_at "ev"); (case kb => walk_at "ev"); (case kc => walk_at "rd"))
  | (refine' ev_un ?ka; (case ka => walk_at "ev"))
  | (refine' ev_tup ?ka ?kb; (case ka => walk_at "ea"); (case kb => walk_at "side"))
  | (refine' ev_cb ?ka ?kb; (case ka => walk_at "ea"); (case kb => walk_at "rc"))
  | (refine' ev_sliceT ?ka ?kb ?kc; (case ka => walk_at "ev"); (case kb => walk_at "eo"); (case kc => walk_at "eo"))
  | (refine' ev_notV ?ka; (case ka => walk_at "ev"))
  | (refine' EvN.toD ?ka; (case ka => walk_at "en")))
local macro_rules | `(tactic| walk_at "n") => `(tactic| dsimp only [List.set_cons_zero, List.set_cons_succ, List.map_cons, List.map_nil, List.cons_append, List.nil_append, List.length_cons, List.length_nil, Nat.add_sub_cancel, List.replicate])
section
variable {P : Program} {w : World} {K : PySem.W.Frag} {mg : Str → Option Value} {base : Heap}
/-- a parting of a weave -/
structure PaOk (W : List Int) (wv : List Nat) (js : List Jb) (ls : List Nat) : Prop where
  pos : ∀ l ∈ ls, 1 ≤ l
  sum : ls.sum = wv.length
  one : ∀ (i l : Nat), ls[i]? = some l → ∃ k, wv[(ls.take i).sum]? = some k ∧ ∀ y ∈ (wv.drop (ls.take i).sum).take l, y = k
  blk : ∀ b ∈ blocksOf js ls, IsBlk (b.map (pr W))
  fall : ∀ (n : Nat) x y, (shares W js ls)[n]? = some x → (shares W js ls)[n + 1]? = some y → lss x y = false
def R_isPart : List Dt → Dt → Prop := fun ds d => ∃ (W : List Int) (ss : List (List Jb)) (wv : List Nat) (js : List Jb) (ls : List Nat), WOk W ∧ (∀ j ∈ js, JOk W j) ∧ Wv ss wv js ∧ ss.length ≤ 1000 ∧ wv.length ≤ 1000 ∧ ls.length ≤ 1000 ∧ PaOk W wv js ls ∧ ds = [mD W, ssD ss, wvD wv, cutD2 ls] ∧ d = .bl true
/-- the share before -/
def befD (l : List (Int × Int)) : Dt := match l.getLast? with | some x => shD x | none => .non
theorem shares_len (W : List Int) (js : List Jb) (ls : List Nat) : (shares W js ls).length = ls.length := by
  unfold shares
  rw [List.length_map, blocksOf_len]
theorem shares_at {W : List Int} {js : List Jb} {ls : List Nat} {i l : Nat} (h : ls[i]? = some l) : (shares W js ls)[i]? = some (shr (((js.drop (ls.take i).sum).take l).map (pr W))) := by
  unfold shares
  rw [List.getElem?_map, blocksOf_at js ls i l h]
  rfl
abbrev s_L_is_parting : Stmt := topS 38
theorem sc_L_is_parting : FnScope ["_law_measure", "_law_strings", "_law_weave", "_law_value", "_law_jobs", "_law_place", "_law_before", "_law_length", "_law_block", "_law_whole", "_law_parts", "_law_one", "_law_k", "_law_part"] ["_law_measure", "_law_strings", "_law_weave", "_law_value"] (defScope s_L_is_parting) := ⟨rfl, rfl, rfl, by decide +kernel, rfl, by decide +kernel, by decide +kernel⟩
theorem ok_L_is_parting {f : Addr} {fd : FuncData} (F : Fun K "_law_is_parting" "_law_is_parting" s_L_is_parting f fd) (Z : Bz mg) (C_L_share : Cal P w K mg base 1 "_law_share" ["_law_measure", "_law_jobs"] (SpD R_share)) (C_L_is_less : Cal P w K mg base 1 "_law_is_less" ["_law_one", "_law_other"] (SpD R_less))
    (C_L_jobs_of : Cal P w K mg base 1 "_law_jobs_of" ["_law_strings", "_law_weave"] (SpD R_jobs)) (C_L_from : Cal P w K mg base 1 "_law_from" ["_law_value", "_law_low"] (SpD R_from)) : FnOk P w K mg base CX0 2 f fd ["_law_measure", "_law_strings", "_law_weave", "_law_value"] (SpD R_isPart) := by
  refine ok_pure F sc_L_is_parting (fun ds d h => ?_) fun cdv A outer s H E hr => ?_
  · obtain ⟨W, ss, wv, js, ls, _, _, _, _, _, _, _, rfl, _⟩ := h
    rfl
  · have nd := sc_L_is_parting.nd
    have hu := hu_of hr
    have hu64 := hu64_of hr
    refine ⟨_, (pss_cons (ps_if (PW.pt (pw_or (pt_not (pt_val (pe_callB (call_isiK' (K := K) rfl) (by rfl) Z.isinstance (by decide +kernel) (pa_cons (pv 3) (pa_cons (pe_bltn (v := .ty "tuple") (by rfl) Z.tuple (by decide +kernel) rfl) pa_nil))))) (pw_or (pt_cmpR (op_inK (K := K) rfl) pe_bl (pe_lc (own := [("_law_one", 11)]) (g := (gName 11)) (tt := tYes) rfl nd (pi_seq (pv 3)) (blkOk_by (N := ["_law_measure", "_law_strings", "_law_weave", "_law_value", "_law_jobs", "_law_place", "_law_before", "_law_length", "_law_block", "_law_whole", "_law_parts", "_law_one", "_law_k", "_law_part"]) (sc := defScope s_L_is_parting) (by decide +kernel)) (fun _ _ _ _ _ => (pg_name (i := 11) nd rfl (Or.inl rfl))) (fun _ _ _ _ _ => pts_nil) (fun _ _ _ _ _ => (pe_cal C_L_from hr (by decide) (by rfl) (pa_cons (pv 11) (pa_cons pe_int pa_nil))))) rfl) (pw_or1 (pt_cmpR op_ne (pe_callB (cr_sumXK (K := K) rfl rfl) (by rfl) Z.sum (by decide +kernel) (pa_cons (pv 3) pa_nil)) (pe_callB (call_lenK (K := K) rfl) (by rfl) Z.len (by decide +kernel) (pa_cons (pv 2) pa_nil)) (nomark _)))))) (pss_one (ps_ret pe_bl)) pss_nil)
      (pss_cons (ps_asg (pe_tup (pa_cons (pe_cal C_L_jobs_of hr (by decide) (by rfl) (pa_cons (pv 1) (pa_cons (pv 2) pa_nil))) (pa_cons pe_int (pa_cons pe_non pa_nil)))) (pg_tup rfl (pgs_cons (pg_name (i := 4) nd rfl (Or.inl rfl)) (pgs_cons (pg_name (i := 5) nd rfl (Or.inr rfl)) (pgs_cons (pg_name (i := 6) nd rfl (Or.inl rfl)) pgs_nil)))))
      (pss_cons (ps_for PassesOwn.never rfl (pi_seq (pv 3)) (pg_name (i := 7) nd rfl (Or.inl rfl)) (pss_cons (ps_set (i := 8) nd rfl (Or.inr rfl) (pe_slice (sl_XK (K := K) rfl) (pv 4) (po_some (pv 5)) (po_some (pe_op (op_addXK (K := K) rfl) (pv 5) (pv 7)))))
      (pss_cons (ps_set (i := 9) nd rfl (Or.inr rfl) (pe_cal C_L_share hr (by decide) (by rfl) (pa_cons (pv 0) (pa_cons (pv 8) pa_nil))))
      (pss_cons (ps_if (pt_cmpR (op_neDK (K := K) rfl hu64) (pe_lc (own := [("_law_one", 11)]) (g := (gName 11)) rfl nd (pi_seq (pe_slice (sl_XK (K := K) rfl) (pv 2) (po_some (pv 5)) (po_some (pe_op (op_addXK (K := K) rfl) (pv 5) (pv 7))))) (blkOk_by (N := ["_law_measure", "_law_strings", "_law_weave", "_law_value", "_law_jobs", "_law_place", "_law_before", "_law_length", "_law_block", "_law_whole", "_law_parts", "_law_one", "_law_k", "_law_part"]) (sc := defScope s_L_is_parting) (by decide +kernel)) (fun _ _ _ _ _ => (pg_name (i := 11) nd rfl (Or.inl rfl))) (fun _ _ _ _ _ => (pts_one (pt_cmpR op_ne (pv 11) (pe_ix (ix_seqK (K := K) rfl) (pv 2) (pv 5) (fun _ _ => rfl)) (nomark _)))) (fun _ _ _ _ _ => (pv 11))) (pe_lst pa_nil) (nomark _)) (pss_one (ps_ret pe_bl)) pss_nil)
      (pss_cons (ps_setLc (i := 10) (own := [("_law_k", 12)]) (g := (gName 12)) (tt := tYes) rfl nd rfl rfl (sw_true rfl rfl rfl (by decide +kernel)) (pi_range2 (by rfl) Z.range (pa_cons pe_int (pa_cons (pv 7) pa_nil))) (blkOk_by (N := ["_law_measure", "_law_strings", "_law_weave", "_law_value", "_law_jobs", "_law_place", "_law_before", "_law_length", "_law_block", "_law_whole", "_law_parts", "_law_one", "_law_k", "_law_part"]) (sc := defScope s_L_is_parting) (by decide +kernel)) (fun _ _ _ _ _ => (pg_name (i := 12) nd rfl (Or.inl rfl))) (fun _ _ _ _ _ => pts_nil) (fun _ _ _ _ _ => (pe_cal C_L_share hr (by decide) (by rfl) (pa_cons (pv 0) (pa_cons (pe_slice (sl_XK (K := K) rfl) (pv 8) po_none (po_some (pv 12))) pa_nil)))))
      (pss_cons (ps_if (pt_cmpR (op_inK (K := K) rfl) pe_bl (pe_lc (own := [("_law_part", 13)]) (g := (gName 13)) (tt := tYes) rfl nd (pi_seq (pv 10)) (blkOk_by (N := ["_law_measure", "_law_strings", "_law_weave", "_law_value", "_law_jobs", "_law_place", "_law_before", "_law_length", "_law_block", "_law_whole", "_law_parts", "_law_one", "_law_k", "_law_part"]) (sc := defScope s_L_is_parting) (by decide +kernel)) (fun _ _ _ _ _ => (pg_name (i := 13) nd rfl (Or.inl rfl))) (fun _ _ _ _ _ => pts_nil) (fun _ _ _ _ _ => (pe_cal C_L_is_less hr (by decide) (by rfl) (pa_cons (pv 9) (pa_cons (pv 13) pa_nil))))) rfl) (pss_one (ps_ret pe_bl)) pss_nil)
      (pss_cons (ps_if (PW.pt (pw_and (pt_cmpR op_notN (pv 6) pe_non (nomark _)) (pw_and1 (pt_val (pe_cal C_L_is_less hr (by decide) (by rfl) (pa_cons (pv 6) (pa_cons (pv 9) pa_nil))))))) (pss_one (ps_ret pe_bl)) pss_nil)
      (pss_one (ps_asg (pe_tup (pa_cons (pv 9) (pa_cons (pe_op (op_addXK (K := K) rfl) (pv 5) (pv 7)) pa_nil))) (pg_tup rfl (pgs_cons (pg_name (i := 6) nd rfl (Or.inl rfl)) (pgs_cons (pg_name (i := 5) nd rfl (Or.inr rfl)) pgs_nil))))))))))))
      (pss_one (ps_ret pe_bl))))), fun ds d h B F0 D q => ?_⟩
    obtain ⟨W, ss, wv, js, ls, hW, hj, hwv, hl1, hl2, hl3, hp, rfl, rfl⟩ := h
    show Tr B F0 F0 [some (mD W), some (ssD ss), some (wvD wv), some (cutD2 ls), none, none, none, none, none, none, none, none, none, none] [] _
    have hjl := hwv.len
    refine t_seq ?_
    walk_at "n"
    refine t_ifF (et_orFF (et_notT (et_isTup (ev_var rfl))) (et_orFF (et_noFrom (show 11 < 14 by decide) hl3 (ev_var rfl) fun l hl => by have := hp.pos l hl; omega) (et_neF (a := (ls.sum : Nat)) (b := ((wv.map nD).length : Nat)) (ev_cb (ea_cons (ev_var rfl) ea_nil) (rc_sumNT ls)) (ev_cb (ea_cons (ev_var rfl) ea_nil) rc_lenT) (by rw [hp.sum, List.length_map])))) ?_
    refine t_next ?_
    refine t_seq ?_
    walk_at "n"
    refine t_asgG (ev_tup (ea_cons (ev_call (ea_cons (ev_var rfl) (ea_cons (ev_var rfl) ea_nil)) ⟨ss, wv, js, hwv, hl1, hl2, rfl, rfl⟩) (ea_cons ev_int (ea_cons ev_non ea_nil))) (show 3 ≤ 100000 by decide)) gd_tup3 ?_
    walk_at "n"
    refine t_seq ?_
    refine t_for (it_right (it_tup (ds := ls.map nD) (ev_var rfl))) .nil (fun i env mus => ∃ (x1 x2 x3 x4 : Option Dt), env = [some (mD W), some (ssD ss), some (wvD wv), some (cutD2 ls), some (.lst (js.map jbD)), some (nD (ls.take i).sum), some (befD ((shares W js ls).take i)), x1, x2, x3, x4, none, none, none] ∧ mus = [])
      ⟨none, none, none, none, rfl, rfl⟩ (fun _ _ _ _ _ x hx => nomatch hx) ?_ ?_
    · rintro X' hX i d env mus hd ⟨x1, x2, x3, x4, rfl, rfl⟩
      rw [List.getElem?_map] at hd
      obtain ⟨l, hk, rfl⟩ := Option.map_eq_some_iff.mp hd
      have hb := blocksOf_at js ls i l hk
      have hsa := shares_at (W := W) (js := js) hk
      have hlm : l ∈ ls := List.mem_of_getElem? hk
      have hl1' := hp.pos l hlm
      obtain ⟨k, hwk, hone⟩ := hp.one i l hk
      generalize hpl : (ls.take i).sum = pl at *
      generalize hbe : (js.drop pl).take l = b at *
      have hbm := List.mem_of_getElem? hb
      have hbj : ∀ j ∈ b, JOk W j := fun j hjm => hj j (blocksOf_mem js ls b hbm j hjm)
      have hbl : b.length ≤ 1000 := by rw [← hbe, List.length_take, List.length_drop]; omega
      have hbl2 : b.length ≤ l := by rw [← hbe, List.length_take]; omega
      have hll : l ≤ 1000 := by
        have h1 : ∀ (xs : List Nat) (x : Nat), x ∈ xs → x ≤ xs.sum := fun xs => by
          induction xs with
          | nil => intro x hx; cases hx
          | cons a r ih =>
            intro x hx
            rw [List.sum_cons]
            rcases List.mem_cons.mp hx with z | z
            · omega
            · have := ih x z
              omega
        have := h1 ls l hlm
        have := hp.sum
        omega
      refine ⟨_, _, gd_name, ?_⟩
      walk_at "n"
      refine t_seq ?_
      have es : ∀ {env : Env_} {ta tb : TE}, EvD ta env [] (.int (pl : Int)) → EvD tb env [] (.int (l : Int)) → EvD (tOp (rAddX K) ta tb) env [] (.int ((pl + l : Nat) : Int)) := fun ha hb => (ev_op ha hb rd_addI).is (by congr 1)
      refine t_asg (d := .lst (b.map jbD)) ((EvN.toD (en_sliceL (K := K) (ds := js.map jbD) (ev_var rfl) (eo_some (ev_var (d := .int (pl : Int)) rfl)) (eo_some (es (ev_var rfl) (ev_var rfl))))).is (by rw [cutD_map, cutD_nn, Nat.add_sub_cancel_left, hbe])) ?_
      walk_at "n"
      refine t_seq ?_
      refine t_asg (d := shD (shr (b.map (pr W)))) (ev_call (ea_cons (ev_var rfl) (ea_cons (ev_var rfl) ea_nil)) ⟨W, b, false, hW, hbj, hbl, rfl, rfl⟩) ?_
      walk_at "n"
      refine t_seq ?_
      have hnil : ((wv.drop pl).take l).filter (fun a => !decide (a = k)) = [] := by
        rw [List.filter_eq_nil_iff]
        intro a ha
        rw [hone a ha, decide_eq_true rfl]
        exact Bool.false_ne_true
      refine t_ifF (EvT.is (et_test (ev_op (d1 := .lst []) (EvD.is (EvN.toD (en_lcF (l := (wv.drop pl).take l) (G := nD) (F := nD) (is := [11]) (fun a => !decide (a = k)) (it_right (it_tup ((ev_sliceT (K := K) (ds := wv.map nD) (ev_var rfl) (eo_some (ev_var (d := .int (pl : Int)) rfl)) (eo_some (es (ev_var rfl) (ev_var rfl)))).is (d2 := .tup (((wv.drop pl).take l).map nD)) (by rw [cutD_map, cutD_nn, Nat.add_sub_cancel_left])))) (by simp) .nil (by simp) (fun n a hx => ⟨_, gd_name, ?_, fun _ => ev_var rfl⟩) (by rw [List.length_take]; omega))) (by rw [hnil]; rfl)) (EvN.toD (en_lst ea_nil (Nat.zero_le _))) (rd_neNil (by simp)))) rfl) ?_
      · refine (et_test (ev_op (d1 := .int (a : Int)) (d2 := .int (k : Int)) (ev_var rfl) (ev_op (d2 := .int (pl : Int)) (ev_var rfl) (ev_var rfl) (rd_xT (d := nD k) (atI_map nD hwk))) rd_ne)).is ?_
        by_cases e : a = k
        · rw [e, decide_eq_true rfl, decide_eq_true rfl]
        · rw [decide_eq_false e, decide_eq_false (show ¬ ((a : Int) = (k : Int)) by omega)]
      refine t_next ?_
      refine t_seq ?_
      walk_at "n"
      refine t_asg (d := .lst ((List.range (l - 1)).map fun n => shD (shr ((b.take (n + 1)).map (pr W))))) (EvD.is (EvN.toD (en_lcI (is := [12]) (it_range2 (a := 1) (b := (l : Int)) (ea_cons ev_int (ea_cons (ev_var rfl) ea_nil)) (by omega) (by omega) (by omega) (by omega)) (by simp) .nil (by simp) (fun n => shD (shr ((b.take (n + 1)).map (pr W)))) (fun n d hd => ?_) ?_)) ?_) ?_
      · obtain ⟨rfl, hn⟩ := rgD_get hd
        refine ⟨_, gd_name, ?_⟩
        refine ev_call (ea_cons (ev_var rfl) (ea_cons ((EvN.toD (en_sliceL (K := K) (ds := b.map jbD) (hi := some ((n + 1 : Nat) : Int)) (ev_var rfl) eo_none (eo_some ((ev_var (d := .int (1 + (n : Nat))) rfl).is (by congr 1; omega))))).is (by rw [cutD_map, cutD_0n]; rfl)) ea_nil)) ⟨W, b.take (n + 1), false, hW, fun y hy => hbj y (List.mem_of_mem_take hy), by rw [List.length_take]; omega, rfl, rfl⟩
      · rw [rgD_len]
        omega
      · rw [rgD_len]
        congr 2
        congr 1
        omega
      walk_at "n"
      refine t_seq ?_
      have hsb := shr_bound hW hbj
      have hblk := hp.blk b hbm
      refine t_ifF (EvT.is (et_test (ev_op ev_bl (EvD.is (EvN.toD (en_lcI (is := [13]) (ds := (List.range (l - 1)).map fun n => shD (shr ((b.take (n + 1)).map (pr W)))) (it_left (it_list (ev_var rfl))) (by simp) .nil (by simp) (fun _ => Dt.bl false) (fun n d hd => ?_) ?_)) (by rw [allBl])) rd_inB)) ?_) ?_
      · rw [List.getElem?_map] at hd
        obtain ⟨n', hn', rfl⟩ := Option.map_eq_some_iff.mp hd
        have hs2 := shr_bound (js := b.take (n' + 1)) hW (fun j hj' => hbj j (List.mem_of_mem_take hj'))
        rw [List.length_take] at hs2
        refine ⟨_, gd_name, ?_⟩
        refine (ev_call (ea_cons (ev_var rfl) (ea_cons (ev_var rfl) ea_nil)) (less_sh (a := shr (b.map (pr W))) (b := shr ((b.take (n' + 1)).map (pr W))) ⟨hsb.1, by omega⟩ ⟨hs2.1, by omega⟩)).is ?_
        by_cases hlt : n' + 1 < b.length
        · have := hblk (n' + 1) (by omega) (by rw [List.length_map]; exact hlt)
          rw [← List.map_take] at this
          rw [this]
        · rw [List.take_of_length_le (by omega)]
          unfold lss
          rw [decide_eq_false (Int.lt_irrefl _)]
      · rw [List.length_map, List.length_range]
        omega
      · simp
      refine t_next ?_
      walk_at "n"
      refine t_seq ?_
      have hfin : ∀ {x3 x4 : Option Dt}, Tr B F0 X' [some (mD W), some (ssD ss), some (wvD wv), some (cutD2 ls), some (.lst (js.map jbD)), some (nD (pl + l)), some (shD (shr (b.map (pr W)))), some (nD l), some (.lst (b.map jbD)), x3, x4, none, none, none] []
          (asr B F0 X' fun env mus => ∃ (x1 x2 x3 x4 : Option Dt), env = [some (mD W), some (ssD ss), some (wvD wv), some (cutD2 ls), some (.lst (js.map jbD)), some (nD (ls.take (i + 1)).sum), some (befD ((shares W js ls).take (i + 1))), x1, x2, x3, x4, none, none, none] ∧ mus = []) := fun {x3 x4} => by
        refine tr_asr ⟨some (nD l), some (.lst (b.map jbD)), x3, x4, ?_, rfl⟩
        rw [take_succ_get hk, List.sum_append, List.sum_singleton, hpl, take_succ_get hsa]
        unfold befD
        rw [List.getLast?_concat]
      have hsi : ∀ {bd : Dt} {x4 : Option Dt}, EvT (tTest (tOp (fun x y H Q => y = .non ∧ Q (.bl (!decide (x = .non))) H) (tVar 6) (tC .non))) [some (mD W), some (ssD ss), some (wvD wv), some (cutD2 ls), some (.lst (js.map jbD)), some (nD pl), some bd, some (nD l), some (.lst (b.map jbD)), some (shD (shr (b.map (pr W)))), x4, none, none, none] [] true → True := fun _ => trivial
      have hbef : befD ((shares W js ls).take i) = .non ∨ ∃ x, befD ((shares W js ls).take i) = shD x ∧ (0 ≤ x.1 ∧ x.1 ≤ 9000) ∧ lss x (shr (b.map (pr W))) = false := by
        unfold befD
        cases i with
        | zero => exact .inl rfl
        | succ i =>
          refine .inr ?_
          have hil : i < (shares W js ls).length := by
            rw [shares_len]
            have := getlt hk
            omega
          have hx : (shares W js ls)[i]? = some (shares W js ls)[i] := List.getElem?_eq_getElem hil
          rw [take_succ_get hx, List.getLast?_concat]
          refine ⟨_, rfl, ?_, hp.fall i _ _ hx hsa⟩
          obtain ⟨b', hb', e⟩ := List.mem_map.mp (show (shares W js ls)[i] ∈ (blocksOf js ls).map fun b => shr (b.map (pr W)) from List.getElem_mem hil)
          rw [← e]
          have hb'j : ∀ j ∈ b', JOk W j := fun j hjm => hj j (blocksOf_mem js ls b' hb' j hjm)
          refine share_small hW hb'j ?_
          obtain ⟨i', hi'⟩ := List.mem_iff_getElem?.mp hb'
          have hil' : i' < ls.length := by
            rw [← blocksOf_len js ls]
            exact getlt hi'
          have h2 := blocksOf_at js ls i' _ (List.getElem?_eq_getElem hil')
          rw [hi'] at h2
          rw [Option.some.inj h2, List.length_take, List.length_drop]
          omega
      rcases hbef with z | ⟨x, z, hx1, hx2⟩
      · rw [z]
        refine t_ifF (et_and (a := false) (b := true) ((et_test (ev_op (ev_var rfl) ev_non rd_notN)).is rfl) fun z => nomatch z) ?_
        refine t_next ?_
        walk_at "n"
        refine t_asgG (ev_tup (ea_cons (ev_var rfl) (ea_cons (es (ev_var rfl) (ev_var rfl)) ea_nil)) (show 2 ≤ 100000 by decide)) gd_tup2 ?_
        walk_at "n"
        exact hfin
      · rw [z]
        refine t_ifF (et_and (a := true) (b := false) ((et_test (ev_op (ev_var rfl) ev_non (rd_notN1 (by intro z; cases z)))).is rfl) fun _ => et_B ((ev_call (ea_cons (ev_var rfl) (ea_cons (ev_var rfl) ea_nil)) (less_sh (a := x) (b := shr (b.map (pr W))) hx1 ⟨hsb.1, by omega⟩)).is (by rw [hx2]))) ?_
        refine t_next ?_
        walk_at "n"
        refine t_asgG (ev_tup (ea_cons (ev_var rfl) (ea_cons (es (ev_var rfl) (ev_var rfl)) ea_nil)) (show 2 ≤ 100000 by decide)) gd_tup2 ?_
        walk_at "n"
        exact hfin
    · rintro env mus ⟨x1, x2, x3, x4, rfl, rfl⟩
      exact t_ret ev_bl fun v F' H' g _ r => q v F' H' g r
end
end KB
namespace KB
open PySem PySem.Spec PyProof.Rows L2
local macro_rules | `(tactic| walk_at "at") => `(tactic| first | assumption | (exact atI_nat (j := 0) rfl) | (exact atI_nat (j := 1) rfl) | (exact atI_nat (j := 2) rfl) | (exact atI_nat (by assumption)) | (exact atI_map _ (by assumption)) | (exact atI_of (by assumption) (by omega)))
local macro_rules | `(tactic| walk_at "side") => `(tactic| first | assumption | decide | omega | (simp; done))
local macro_rules | `(tactic| walk_at "rd") => `(tactic| first
  | exact rd_addI | exact rd_i0 | exact rd_b0 | exact rd_eq | exact rd_ne | exact rd_neB
  | (refine' rd_xT ?ka; (case ka => walk_at "at")) | (refine' rd_xL ?ka; (case ka => walk_at "at")) | (refine' rd_xM ?kb ?ka; (case kb => simp; done); (case ka => walk_at "at"))
  | (refine' rd_mulI ?ka; (case ka => walk_at "side"))
  | (refine' rd_addT ?ka; (case ka => walk_at "side"))
  | (refine' rd_i ?ka; (case ka => walk_at "side"))
  | exact rd_isN | (exact rd_isN0 (by intro z; cases z)) | exact rd_notN | (exact rd_notN1 (by intro z; cases z)) | exact rd_inB | exact rd_inT)
local macro_rules | `(tactic| walk_at "rc") => `(tactic| first | exact rc_lenT | exact rc_lenL | (refine' rc_lenM ?ka; (case ka => simp; done)) | exact rc_sumXL | exact rc_sumXT | (refine' rc_sumXM ?ka; (case ka => simp; done)) | exact rc_tupL | (refine' rc_tupM ?ka; (case ka => simp; done)) | exact rc_int | exact rc_min2 | (exact rc_isi (by decide) (by decide +kernel)) | (exact rc_isiT (by decide) (by decide +kernel) (by decide +kernel)))
local macro_rules | `(tactic| walk_at "eo") => `(tactic| first | exact eo_none | (refine' eo_some ?ka; (case ka => walk_at "ev")))
local macro_rules | `(tactic| walk_at "ea") => `(tactic| first | exact ea_nil | (refine' ea_cons ?ka ?kb; (case ka => walk_at "ev"); (case kb => walk_at "ea")))
local macro_rules | `(tactic| walk_at "en") => `(tactic| first
  | (refine' en_lst ?ka ?kb; (case ka => walk_at "ea"); (case kb => walk_at "side"))
  | (refine' en_sliceL ?ka ?kb ?kc; (case ka => walk_at "ev"); (case kb => walk_at "eo"); (case kc => walk_at "eo"))
  | (refine' en_op ?ka ?kb ?kc; (case ka => walk_at "ev"); (case kb => walk_at "ev"); (case kc => first | (refine' rn_addL ?kd; (case kd => walk_at "side")) | (refine' rn_mulL ?kd ?ke ?kf; (case kd => walk_at "side"); (case ke => walk_at "side"); (case kf => walk_at "side")))))
local macro_rules | `(tactic| walk_at "ev") => `(tactic| first
  | exact ev_var rfl | exact ev_int | exact ev_bl | exact ev_non | exact ev_str | exact ev_ty | assumption
  | (refine' ev_op ?ka ?kb ?kc; (case ka => walk_at "ev"); (case kb => walk_at "ev"); (case kc => walk_at "rd"))
  | (refine' ev_un ?ka; (case ka => walk_at "ev"))
  | (refine' ev_tup ?ka ?kb; (case ka => walk_at "ea"); (case kb => walk_at "side"))
  | (refine' ev_cb ?ka ?kb; (case ka => walk_at "ea"); (case kb => walk_at "rc"))
  | (refine' ev_sliceT ?ka ?kb ?kc; (case ka => walk_at "ev"); (case kb => walk_at "eo"); (case kc => walk_at "eo"))
  | (refine' ev_notV ?ka; (case ka => walk_at "ev"))
  | (refine' EvN.toD ?ka; (case ka => walk_at "en")))
local macro_rules | `(tactic| walk_at "n") => `(tactic| dsimp only [List.set_cons_zero, List.set_cons_succ, List.map_cons, List.map_nil, List.cons_append, List.nil_append, List.length_cons, List.length_nil, Nat.add_sub_cancel, List.replicate])
section
variable {P : Program} {w : World} {K : PySem.W.Frag} {mg : Str → Option Value} {base : Heap}
def mn (a b : Int × Int) : Int := min (a.2 * b.1) (b.2 * a.1)
def crs (r1 r2 : List (Int × Int)) : Int := (r1.map fun a => (r2.map (mn a)).sum).sum
def crsAll : List (List (Int × Int)) → Int
  | [] => 0
  | r :: rs => (rs.map (crs r)).sum + crsAll rs
def allShares (W : List Int) (ss : List (List Jb)) (cs : List (List Nat)) : List (List (Int × Int)) := List.zipWith (shares W) ss cs
def floorV (W : List Int) (start : Int) (ss : List (List Jb)) (cs : List (List Nat)) : Int := (ss.map fun s => val start (s.map (pr W))).sum + crsAll (allShares W ss cs)
def rwD (r : List (Int × Int)) : Dt := .lst (r.map shD)
def R_floor : List Dt → Dt → Prop := fun ds d => ∃ (W : List Int) (ss : List (List Jb)) (start : Int) (cs : List (List Nat)), WOk W ∧ CutsOk W ss cs ∧ ds = [mD W, ssD ss, .int start, .tup (cs.map cutD2)] ∧ d = .int (floorV W start ss cs)
theorem shares_small {W : List Int} {st : List Jb} {ls : List Nat} (hW : WOk W) (hcu : CutOk W st ls) : ∀ x ∈ shares W st ls, 0 ≤ x.1 ∧ x.1 ≤ 9000 := fun x hx => by
  obtain ⟨b, hb, rfl⟩ := List.mem_map.mp hx
  obtain ⟨b1, b2⟩ := block_facts hcu hb
  exact share_small hW b1 b2
theorem shares_D (W : List Int) (st : List Jb) (ls : List Nat) : (blocksOf st ls).map (fun b => shD (shr (b.map (pr W)))) = (shares W st ls).map shD := by
  unfold shares
  rw [List.map_map]
  rfl
theorem sum_ints {α : Type} (l : List α) (g : α → Int) : l.map (fun b => Dt.int (g b)) = (l.map g).map Dt.int := by
  rw [List.map_map]
  rfl
abbrev s_L_floor : Stmt := topS 32
theorem sc_L_floor : FnScope ["_law_measure", "_law_strings", "_law_start", "_law_cuts", "_law_total_cost", "_law_rows", "_law_string", "_law_lengths", "_law_hour", "_law_job", "_law_k", "_law_row", "_law_later", "_law_one", "_law_block", "_law_two"] ["_law_measure", "_law_strings", "_law_start", "_law_cuts"] (defScope s_L_floor) := ⟨rfl, rfl, rfl, by decide +kernel, rfl, by decide +kernel, by decide +kernel⟩
theorem ok_L_floor {f : Addr} {fd : FuncData} (F : Fun K "_law_floor" "_law_floor" s_L_floor f fd) (Z : Bz mg) (C_L_blocks : Cal P w K mg base 1 "_law_blocks" ["_law_string", "_law_lengths"] (SpD R_blocksOf)) (C_L_share : Cal P w K mg base 1 "_law_share" ["_law_measure", "_law_jobs"] (SpD R_share)) : FnOk P w K mg base CX0 2 f fd ["_law_measure", "_law_strings", "_law_start", "_law_cuts"] (SpD R_floor) := by
  refine ok_pure F sc_L_floor (fun ds d h => ?_) fun cdv A outer s H E hr => ?_
  · obtain ⟨W, ss, start, cs, _, _, rfl, _⟩ := h
    rfl
  · have nd := sc_L_floor.nd
    refine ⟨_, (pss_cons (ps_par (i := 4) (j := 5) rfl nd rfl rfl (by decide) rfl rfl (pa_cons pe_int (pa_cons (pe_lst pa_nil) pa_nil)) rfl)
      (pss_cons (ps_for PassesOwn.never rfl (RZ.pi_zipA (by rfl) Z.zip (pa_cons (pv 1) (pa_cons (pv 3) pa_nil))) (pg_tup rfl (pgs_cons (pg_name (i := 6) nd rfl (Or.inl rfl)) (pgs_cons (pg_name (i := 7) nd rfl (Or.inl rfl)) pgs_nil))) (pss_cons (ps_set (i := 8) nd rfl (Or.inl rfl) (pv 2))
      (pss_cons (ps_for PassesOwn.never rfl (pi_seq (pv 6)) (pg_name (i := 9) nd rfl (Or.inl rfl)) (pss_cons (ps_set (i := 8) nd rfl (Or.inl rfl) (pe_op (op_addXK (K := K) rfl) (pv 8) (pe_ix (ix_seqK (K := K) rfl) (pv 9) pe_int (fun _ _ => rfl))))
      (pss_one (ps_set (i := 4) nd rfl (Or.inl rfl) (pe_op (op_addXK (K := K) rfl) (pv 4) (pe_op (op_mulXK (K := K) rfl) (pe_ix (ix_seqK (K := K) rfl) (pe_ix (ix_seqK (K := K) rfl) (pe_ix (ix_seqK (K := K) rfl) (pe_ix (ix_seqK (K := K) rfl) (pv 0) pe_int (fun _ _ => rfl)) (pe_ix (ix_seqK (K := K) rfl) (pv 9) pe_int (fun _ _ => rfl)) (fun _ _ => rfl)) pe_int (fun _ _ => rfl)) pe_int (fun _ _ => rfl)) (pv 8)))))))
      (pss_one (ps_expr (pe_bm PySem.F.plainAttrs_list PySem.F.slot_list_append PySem.F.type_list_append mt_append (pv 5) (pa_cons (pe_lc (own := [("_law_block", 14)]) (g := (gName 14)) (tt := tYes) rfl nd (pi_seq (pe_cal C_L_blocks hr (by decide) (by rfl) (pa_cons (pv 6) (pa_cons (pv 7) pa_nil)))) (blkOk_by (N := ["_law_measure", "_law_strings", "_law_start", "_law_cuts", "_law_total_cost", "_law_rows", "_law_string", "_law_lengths", "_law_hour", "_law_job", "_law_k", "_law_row", "_law_later", "_law_one", "_law_block", "_law_two"]) (sc := defScope s_L_floor) (by decide +kernel)) (fun _ _ _ _ _ => (pg_name (i := 14) nd rfl (Or.inl rfl))) (fun _ _ _ _ _ => pts_nil) (fun _ _ _ _ _ => (pe_cal C_L_share hr (by decide) (by rfl) (pa_cons (pv 0) (pa_cons (pv 14) pa_nil))))) pa_nil)))))))
      (pss_cons (ps_for PassesOwn.never rfl (pi_or (pi_enum (by rfl) Z.enumerate (pa_cons (pv 5) pa_nil)) (pi_enumT (by rfl) Z.enumerate (pa_cons (pv 5) pa_nil))) (pg_tup rfl (pgs_cons (pg_name (i := 10) nd rfl (Or.inl rfl)) (pgs_cons (pg_name (i := 11) nd rfl (Or.inl rfl)) pgs_nil))) (pss_one (ps_for PassesOwn.never rfl (pi_seq (pe_slice (sl_XK (K := K) rfl) (pv 5) (po_some (pe_op (op_addXK (K := K) rfl) (pv 10) pe_int)) po_none)) (pg_name (i := 12) nd rfl (Or.inl rfl)) (pss_one (ps_for PassesOwn.never rfl (pi_seq (pv 11)) (pg_name (i := 13) nd rfl (Or.inr rfl)) (pss_one (ps_set (i := 4) nd rfl (Or.inl rfl) (pe_op (op_addXK (K := K) rfl) (pv 4) (pe_callB (cr_sumXK (K := K) rfl rfl) (by rfl) Z.sum (by decide +kernel) (pa_cons (pe_lc (own := [("_law_two", 15)]) (g := (gName 15)) (tt := tYes) rfl nd (pi_seq (pv 12)) (blkOk_by (N := ["_law_measure", "_law_strings", "_law_start", "_law_cuts", "_law_total_cost", "_law_rows", "_law_string", "_law_lengths", "_law_hour", "_law_job", "_law_k", "_law_row", "_law_later", "_law_one", "_law_block", "_law_two"]) (sc := defScope s_L_floor) (by decide +kernel)) (fun _ _ _ _ _ => (pg_name (i := 15) nd rfl (Or.inl rfl))) (fun _ _ _ _ _ => pts_nil) (fun _ _ _ _ _ => (pe_callB (call_min2 rfl) (by rfl) Z.min (by decide +kernel) (pa_cons (pe_op (op_mulXK (K := K) rfl) (pe_ix (ix_seqK (K := K) rfl) (pv 13) pe_int (fun _ _ => rfl)) (pe_ix (ix_seqK (K := K) rfl) (pv 15) pe_int (fun _ _ => rfl))) (pa_cons (pe_op (op_mulXK (K := K) rfl) (pe_ix (ix_seqK (K := K) rfl) (pv 15) pe_int (fun _ _ => rfl)) (pe_ix (ix_seqK (K := K) rfl) (pv 13) pe_int (fun _ _ => rfl))) pa_nil))))) pa_nil))))))))))
      (pss_one (ps_ret (pv 4)))))), fun ds d h B F0 D q => ?_⟩
    obtain ⟨W, ss, start, cs, hW, hc, rfl, rfl⟩ := h
    show Tr B F0 F0 [some (mD W), some (ssD ss), some (.int start), some (.tup (cs.map cutD2)), none, none, none, none, none, none, none, none, none, none, none, none] [] _
    have hlen := hc.len
    have hsl := hc.slen
    refine t_seq ?_
    walk_at "n"
    refine t_parDN ev_int (en_lst ea_nil (Nat.zero_le _)) fun p => ?_
    walk_at "n"
    refine t_seq ?_
    generalize hT0 : (ss.map fun s => val start (s.map (pr W))).sum = T0
    generalize hRS : allShares W ss cs = rs
    have hrl : rs.length = ss.length := by
      rw [← hRS]
      unfold allShares
      rw [List.length_zipWith, hlen, Nat.min_self]
    have hrs : ∀ i st ls, ss[i]? = some st → cs[i]? = some ls → rs[i]? = some (shares W st ls) := fun i st ls h1 h2 => by
      rw [← hRS]
      unfold allShares
      rw [List.getElem?_zipWith, h1, h2]
    refine t_for (ds := zpD (ss.map sD) (cs.map cutD2)) (it_zipAT (ea_cons (ev_var rfl) (ea_cons (ev_var rfl) ea_nil))) .nil (fun i env mus => ∃ (t : Int) (x1 x2 x3 x4 : Option Dt), env = [some (mD W), some (ssD ss), some (.int start), some (.tup (cs.map cutD2)), some (.int t), some (.ptr p), x1, x2, x3, x4, none, none, none, none, none, none] ∧
        mus = [(p, .lst ((rs.take i).map rwD))] ∧ t + ((ss.drop i).map fun s => val start (s.map (pr W))).sum = T0)
      ⟨0, none, none, none, none, rfl, rfl, by rw [← hT0, List.drop_zero, Int.zero_add]⟩ (fun _ _ _ _ _ x hx => nomatch hx) ?_ ?_
    · rintro X' hX i d env mus hd ⟨t, x1, x2, x3, x4, rfl, rfl, ht⟩
      obtain ⟨a, b, ea, eb, rfl⟩ := zpD_get hd
      rw [List.getElem?_map] at ea eb
      obtain ⟨st, hst, rfl⟩ := Option.map_eq_some_iff.mp ea
      obtain ⟨ls, hls, rfl⟩ := Option.map_eq_some_iff.mp eb
      have hcu := hc.at_ i st ls hst hls
      have hri := hrs i st ls hst hls
      refine ⟨_, _, gd_tup2, ?_⟩
      walk_at "n"
      refine t_seq ?_
      refine t_asg (ev_var rfl) ?_
      walk_at "n"
      refine t_seq ?_
      rw [drop_get hst, List.map_cons, List.sum_cons] at ht
      refine t_for (it_right (it_tup (ds := st.map jbD) (ev_var rfl))) .nil (fun n env mus => ∃ (u ho : Int) (y1 : Option Dt), env = [some (mD W), some (ssD ss), some (.int start), some (.tup (cs.map cutD2)), some (.int u), some (.ptr p), some (sD st), some (cutD2 ls), some (.int ho), y1, none, none, none, none, none, none] ∧
          mus = [(p, .lst ((rs.take i).map rwD))] ∧ u + (val ho ((st.drop n).map (pr W)) + ((ss.drop (i + 1)).map fun s => val start (s.map (pr W))).sum) = T0)
        ⟨t, start, x4, rfl, rfl, by rw [List.drop_zero]; exact ht⟩ (fun _ _ _ _ _ x hx => nomatch hx) ?_ ?_
      · rintro X2 hX2 n d env mus hd ⟨u, ho, y1, rfl, rfl, hu⟩
        rw [List.getElem?_map] at hd
        obtain ⟨j, hj, rfl⟩ := Option.map_eq_some_iff.mp hd
        have jok := hcu.jok j (List.mem_of_getElem? hj)
        have hwb := jok.wb hW
        have a4 := jok.at_
        refine ⟨_, _, gd_name, ?_⟩
        walk_at "n"
        refine t_seq ?_
        refine t_asg (d := .int (ho + tm j)) ?_ ?_
        rotate_left 1
        walk_at "n"
        refine t_asg (d := .int (u + wt W j * (ho + tm j))) ?_ ?_
        rotate_left 1
        refine tr_asr ⟨u + wt W j * (ho + tm j), ho + tm j, some (jbD j), rfl, rfl, ?_⟩
        · rw [drop_get hj, List.map_cons] at hu
          rw [← hu]
          show _ = u + (wt W j * (ho + tm j) + val (ho + tm j) _ + _)
          omega
        · unfold jbD
          exact ev_op (d1 := .int ho) (d2 := .int (tm j)) (ev_var rfl) (ev_op (ev_var rfl) ev_int (rd_xT (atI_nat (j := 1) rfl))) rd_addI
        · have m1 : CMul (wt W j) (ho + tm j) := .inl ⟨by omega, by omega⟩
          unfold mD jbD
          walk_at "ev"
      · rintro env mus ⟨u, ho, y1, rfl, rfl, hu⟩
        rw [List.length_map, List.drop_length, List.map_nil] at hu
        walk_at "n"
        have hbl : (blocksOf st ls).length ≤ 1000 := by rw [blocksOf_len]; exact hcu.len
        refine t_append (j := 0) (d := rwD (shares W st ls)) rfl (ev_var rfl) (EvD.is (EvN.toD (en_lcM (l := blocksOf st ls) (G := sD) (F := fun b => shD (shr (b.map (pr W)))) (is := [14]) (it_left (it_list (ev_call (ea_cons (ev_var rfl) (ea_cons (ev_var rfl) ea_nil)) ⟨st, ls, hcu.len, rfl, rfl⟩))) (by simp) .nil (by simp) (fun n b hb => ⟨_, gd_name, ?_⟩) (by omega))) (by rw [shares_D]; rfl)) (by rw [List.length_map, List.length_take]; omega) ?_
        · obtain ⟨b1, b2⟩ := block_facts hcu (List.mem_of_getElem? hb)
          exact ev_call (ea_cons (ev_var rfl) (ea_cons (ev_var rfl) ea_nil)) ⟨W, b, true, hW, b1, b2, rfl, rfl⟩
        refine tr_asr ⟨u, _, _, _, _, rfl, ?_, ?_⟩
        · rw [take_succ_get hri, List.map_append]
          rfl
        · rw [← hu]
          show _ = u + (0 + _)
          omega
    · rintro env mus ⟨t, x1, x2, x3, x4, rfl, rfl, ht⟩
      have hzl : (zpD (ss.map sD) (cs.map cutD2)).length = rs.length := by rw [zpD_len, List.length_map, List.length_map, hlen, Nat.min_self, hrl]
      rw [hzl, List.take_length]
      rw [hzl, hrl, List.drop_length, List.map_nil, List.sum_nil, Int.add_zero] at ht
      subst ht
      refine t_freeze (i := 5) (j := 0) rfl rfl ?_
      walk_at "n"
      refine t_seq ?_
      have hsm : ∀ r ∈ rs, (∀ x ∈ r, 0 ≤ x.1 ∧ x.1 ≤ 9000) ∧ r.length ≤ 1000 := fun r hr => by
        obtain ⟨i, hi⟩ := List.mem_iff_getElem?.mp hr
        have h1 : i < rs.length := getlt hi
        have h2 : ss[i]? = some (ss[i]'(by omega)) := List.getElem?_eq_getElem (by omega)
        have h3 : cs[i]? = some (cs[i]'(by omega)) := List.getElem?_eq_getElem (by omega)
        have h4 := hrs i _ _ h2 h3
        rw [hi] at h4
        rw [Option.some.inj h4]
        exact ⟨shares_small hW (hc.at_ i _ _ h2 h3), by rw [shares_len]; exact (hc.at_ i _ _ h2 h3).len⟩
      refine t_for (it_left (it_enumL (ds := rs.map rwD) (ea_cons (ev_var rfl) ea_nil))) .nil (fun i env mus => ∃ (u : Int) (y1 y2 y3 y4 : Option Dt), env = [some (mD W), some (ssD ss), some (.int start), some (.tup (cs.map cutD2)), some (.int u), some (.lst (rs.map rwD)), x1, x2, x3, x4, y1, y2, y3, y4, none, none] ∧ mus = [] ∧ u + crsAll (rs.drop i) = t + crsAll rs)
        ⟨t, none, none, none, none, rfl, rfl, by rw [List.drop_zero]⟩ (fun _ _ _ _ _ x hx => nomatch hx) ?_ ?_
      · rintro X' hX i d env mus hd ⟨u, y1, y2, y3, y4, rfl, rfl, hu⟩
        obtain ⟨d0, e0, rfl⟩ := enD_get hd
        rw [List.getElem?_map] at e0
        obtain ⟨r, hr', rfl⟩ := Option.map_eq_some_iff.mp e0
        obtain ⟨hr1, hr2⟩ := hsm r (List.mem_of_getElem? hr')
        refine ⟨_, _, gd_tup2, ?_⟩
        walk_at "n"
        rw [drop_get hr'] at hu
        have hu2 : u + (((rs.drop (i + 1)).map (crs r)).sum + crsAll (rs.drop (i + 1))) = t + crsAll rs := hu
        refine t_for (it_left (it_list (ds := (rs.drop (i + 1)).map rwD) ((EvN.toD (en_sliceL (K := K) (ds := rs.map rwD) (lo := some ((i + 1 : Nat) : Int)) (hi := none) (ev_var rfl) (eo_some ((ev_op (d1 := .int (i : Int)) (d2 := .int 1) (ev_var rfl) ev_int rd_addI).is (by congr 1))) eo_none)).is (by rw [cutD_map, cutD_n0])))) .nil (fun n env mus => ∃ (v : Int) (y3 y4 : Option Dt), env = [some (mD W), some (ssD ss), some (.int start), some (.tup (cs.map cutD2)), some (.int v), some (.lst (rs.map rwD)), x1, x2, x3, x4, some (.int (i : Int)), some (rwD r), y3, y4, none, none] ∧ mus = [] ∧
            v + ((((rs.drop (i + 1)).drop n).map (crs r)).sum + crsAll (rs.drop (i + 1))) = t + crsAll rs)
          ⟨u, y3, y4, rfl, rfl, by rw [List.drop_zero]; exact hu2⟩ (fun _ _ _ _ _ x hx => nomatch hx) ?_ ?_
        · rintro X2 hX2 n d env mus hd ⟨v, y3, y4, rfl, rfl, hv⟩
          rw [List.getElem?_map] at hd
          obtain ⟨r2, hr2', rfl⟩ := Option.map_eq_some_iff.mp hd
          obtain ⟨hs1, hs2⟩ := hsm r2 (List.mem_of_mem_drop (List.mem_of_getElem? hr2'))
          refine ⟨_, _, gd_name, ?_⟩
          walk_at "n"
          rw [drop_get hr2', List.map_cons, List.sum_cons] at hv
          refine t_for (it_left (it_list (ds := r.map shD) (ev_var rfl))) .nil (fun m env mus => ∃ (z : Int) (y4 : Option Dt), env = [some (mD W), some (ssD ss), some (.int start), some (.tup (cs.map cutD2)), some (.int z), some (.lst (rs.map rwD)), x1, x2, x3, x4, some (.int (i : Int)), some (rwD r), some (rwD r2), y4, none, none] ∧ mus = [] ∧
              z + (((r.drop m).map fun a => (r2.map (mn a)).sum).sum + ((((rs.drop (i + 1)).drop (n + 1)).map (crs r)).sum + crsAll (rs.drop (i + 1)))) = t + crsAll rs)
            ⟨v, y4, rfl, rfl, by rw [List.drop_zero]; rw [← hv]; show v + (crs r r2 + _) = _; omega⟩ (fun _ _ _ _ _ x hx => nomatch hx) ?_ ?_
          · rintro X3 hX3 m d env mus hd ⟨z, y4, rfl, rfl, hz⟩
            rw [List.getElem?_map] at hd
            obtain ⟨a, ha, rfl⟩ := Option.map_eq_some_iff.mp hd
            have hab := hr1 a (List.mem_of_getElem? ha)
            refine ⟨_, _, gd_name, ?_⟩
            walk_at "n"
            refine t_asg (d := .int (z + (r2.map (mn a)).sum)) (ev_op (d1 := .int z) (ev_var rfl) (ev_cb (ea_cons (EvD.is (EvN.toD (en_lcM (l := r2) (G := shD) (F := fun b => .int (mn a b)) (is := [15]) (it_left (it_list (ev_var rfl))) (by simp) .nil (by simp) (fun n b hb => ⟨_, gd_name, ?_⟩) (by omega))) (by rw [sum_ints])) ea_nil) rc_sumXL) rd_addI) ?_
            · have hbb := hs1 b (List.mem_of_getElem? hb)
              have m1 : CMul a.2 b.1 := .inr ⟨by omega, by omega⟩
              have m2 : CMul b.2 a.1 := .inr ⟨by omega, by omega⟩
              have g0 : ∀ {x : Int × Int}, L2.atI [Dt.int x.1, Dt.int x.2] 0 = some (.int x.1) := rfl
              have g1 : ∀ {x : Int × Int}, L2.atI [Dt.int x.1, Dt.int x.2] 1 = some (.int x.2) := rfl
              exact ev_cb (ea_cons (ev_op (d1 := .int a.2) (d2 := .int b.1) (ev_op (d1 := shD a) (d2 := .int 1) (ev_var rfl) ev_int (rd_xT g1)) (ev_op (d1 := shD b) (d2 := .int 0) (ev_var rfl) ev_int (rd_xT g0)) (rd_mulI m1)) (ea_cons (ev_op (d1 := .int b.2) (d2 := .int a.1) (ev_op (d1 := shD b) (d2 := .int 1) (ev_var rfl) ev_int (rd_xT g1)) (ev_op (d1 := shD a) (d2 := .int 0) (ev_var rfl) ev_int (rd_xT g0)) (rd_mulI m2)) ea_nil)) rc_min2
            refine tr_asr ⟨z + (r2.map (mn a)).sum, some (shD a), rfl, rfl, ?_⟩
            rw [drop_get ha, List.map_cons, List.sum_cons] at hz
            omega
          · rintro env mus ⟨z, y4, rfl, rfl, hz⟩
            rw [List.length_map, List.drop_length, List.map_nil, List.sum_nil, Int.zero_add] at hz
            exact tr_asr ⟨z, some (rwD r2), y4, rfl, rfl, hz⟩
        · rintro env mus ⟨v, y3, y4, rfl, rfl, hv⟩
          rw [List.length_map, List.drop_length, List.map_nil, List.sum_nil, Int.zero_add] at hv
          exact tr_asr ⟨v, some (.int (i : Int)), some (rwD r), y3, y4, rfl, rfl, hv⟩
      · rintro env mus ⟨u, y1, y2, y3, y4, rfl, rfl, hu⟩
        have hel : (enD (rs.map rwD)).length = rs.length := by rw [enD_len, List.length_map]
        rw [hel, List.drop_length] at hu
        refine t_ret (d := .int u) (ev_var rfl) fun v F' H' g _ r => q v F' H' g ?_
        have e : floorV W start ss cs = u := by
          unfold floorV
          rw [hT0, hRS, ← hu]
          show u + 0 = u
          omega
        rw [e]
        exact r
end
end KB
namespace KB
open PySem PySem.Spec PyProof.Rows L2
local macro_rules | `(tactic| walk_at "at") => `(tactic| first | assumption | (exact atI_nat (j := 0) rfl) | (exact atI_nat (j := 1) rfl) | (exact atI_nat (j := 2) rfl) | (exact atI_nat (by assumption)) | (exact atI_map _ (by assumption)) | (exact atI_of (by assumption) (by omega)))
local macro_rules | `(tactic| walk_at "side") => `(tactic| first | assumption | decide | omega | (simp; done))
local macro_rules | `(tactic| walk_at "rd") => `(tactic| first
  | exact rd_addI | exact rd_i0 | exact rd_b0 | exact rd_eq | exact rd_ne | exact rd_neB
  | (refine' rd_xT ?ka; (case ka => walk_at "at")) | (refine' rd_xL ?ka; (case ka => walk_at "at")) | (refine' rd_xM ?kb ?ka; (case kb => simp; done); (case ka => walk_at "at"))
  | (refine' rd_mulI ?ka; (case ka => walk_at "side"))
  | (refine' rd_addT ?ka; (case ka => walk_at "side"))
  | (refine' rd_i ?ka; (case ka => walk_at "side"))
  | exact rd_isN | (exact rd_isN0 (by intro z; cases z)) | exact rd_notN | (exact rd_notN1 (by intro z; cases z)) | exact rd_inB | exact rd_inT)
local macro_rules | `(tactic| walk_at "rc") => `(tactic| first | exact rc_lenT | exact rc_lenL | (refine' rc_lenM ?ka; (case ka => simp; done)) | exact rc_sumXL | exact rc_sumXT | (refine' rc_sumXM ?ka; (case ka => simp; done)) | exact rc_tupL | (refine' rc_tupM ?ka; (case ka => simp; done)) | exact rc_int | exact rc_min2 | (exact rc_isi (by decide) (by decide +kernel)) | (exact rc_isiT (by decide) (by decide +kernel) (by decide +kernel)))
local macro_rules | `(tactic| walk_at "eo") => `(tactic| first | exact eo_none | (refine' eo_some ?ka; (case ka => walk_at "ev")))
local macro_rules | `(tactic| walk_at "ea") => `(tactic| first | exact ea_nil | (refine' ea_cons ?ka ?kb; (case ka => walk_at "ev"); (case kb => walk_at "ea")))
local macro_rules | `(tactic| walk_at "en") => `(tactic| first
  | (refine' en_lst ?ka ?kb; (case ka => walk_at "ea"); (case kb => walk_at "side"))
  | (refine' en_sliceL ?ka ?kb ?kc; (case ka => walk_at "ev"); (case kb => walk_at "eo"); (case kc => walk_at "eo"))
  | (refine' en_op ?ka ?kb ?kc; (case ka => walk_at "ev"); (case kb => walk_at "ev"); (case kc => first | (refine' rn_addL ?kd; (case kd => walk_at "side")) | (refine' rn_mulL ?kd ?ke ?kf; (case kd => walk_at "side"); (case ke => walk_at "side"); (case kf => walk_at "side")))))
local macro_rules | `(tactic| walk_at "ev") => `(tactic| first
  | exact ev_var rfl | exact ev_int | exact ev_bl | exact ev_non | exact ev_str | exact ev_ty | assumption
  | (refine' ev_op ?ka ?kb ?kc; (case ka => walk_at "ev"); (case kb => walk_at "ev"); (case kc => walk_at "rd"))
  | (refine' ev_un ?ka; (case ka => walk_at "ev"))
  | (refine' ev_tup ?ka ?kb; (case ka => walk_at "ea"); (case kb => walk_at "side"))
  | (refine' ev_cb ?ka ?kb; (case ka => walk_at "ea"); (case kb => walk_at "rc"))
  | (refine' ev_sliceT ?ka ?kb ?kc; (case ka => walk_at "ev"); (case kb => walk_at "eo"); (case kc => walk_at "eo"))
  | (refine' ev_notV ?ka; (case ka => walk_at "ev"))
  | (refine' EvN.toD ?ka; (case ka => walk_at "en")))
local macro_rules | `(tactic| walk_at "n") => `(tactic| dsimp only [List.set_cons_zero, List.set_cons_succ, List.map_cons, List.map_nil, List.cons_append, List.nil_append, List.length_cons, List.length_nil, Nat.add_sub_cancel, List.replicate])
section
variable {P : Program} {w : World} {K : PySem.W.Frag} {mg : Str → Option Value} {base : Heap}
/-! ### the greedy cut -/
abbrev T3 := Int × Int × Nat
def tpD (x : T3) : Dt := .tup [.int x.1, .int x.2.1, nD x.2.2]
def lss3 (x y : T3) : Bool := lss (x.1, x.2.1) (y.1, y.2.1)
def add3 (x y : T3) : T3 := (x.1 + y.1, x.2.1 + y.2.1, x.2.2 + y.2.2)
def colF : Nat → List T3 → List T3
  | n + 1, y :: x :: r => if lss3 x y = true then colF n (add3 x y :: r) else y :: x :: r
  | _, st => st
def fcN (ps : List (Int × Int)) : Nat → List T3
  | 0 => []
  | n + 1 => match ps[n]? with
    | some p => colF (fcN ps n).length ((p.1, p.2, 1) :: fcN ps n)
    | none => []
def fallCut (ps : List (Int × Int)) : List Nat := (fcN ps ps.length).reverse.map (·.2.2)
structure F3 (n : Nat) (st : List T3) : Prop where
  b : ∀ x ∈ st, 0 ≤ x.1 ∧ x.1 ≤ 9 * x.2.2 ∧ 1 ≤ x.2.2
  s : (st.map (·.2.2)).sum = n
theorem F3.join {n : Nat} {x y : T3} {r : List T3} (h : F3 n (y :: x :: r)) : F3 n (add3 x y :: r) := by
  refine ⟨fun z hz => ?_, ?_⟩
  · rcases List.mem_cons.mp hz with e | e
    · subst e
      have h1 := h.b x (by simp)
      have h2 := h.b y (by simp)
      unfold add3
      refine ⟨?_, ?_, ?_⟩ <;> dsimp only <;> omega
    · exact h.b z (by simp [e])
  · have := h.s
    simp only [List.map_cons, List.sum_cons] at this ⊢
    unfold add3
    dsimp only
    omega
theorem F3.col : ∀ (k : Nat) {n : Nat} {st : List T3}, F3 n st → F3 n (colF k st)
  | 0, n, st, h => by
    have e : colF 0 st = st := by cases st with | nil => rfl | cons y r => cases r <;> rfl
    rw [e]
    exact h
  | k + 1, n, [], h => h
  | k + 1, n, [x], h => h
  | k + 1, n, y :: x :: r, h => by
    show F3 n (if lss3 x y = true then colF k (add3 x y :: r) else y :: x :: r)
    split
    · exact F3.col k h.join
    · exact h
theorem F3.len {n : Nat} {st : List T3} (h : F3 n st) : st.length ≤ n := by
  have hb := h.b
  have hs := h.s
  clear h
  induction st generalizing n with
  | nil => exact Nat.zero_le _
  | cons x r ih =>
    rw [List.map_cons, List.sum_cons] at hs
    have h1 := hb x (List.mem_cons_self ..)
    have h2 := ih (n := n - x.2.2) (fun z hz => hb z (List.mem_cons_of_mem _ hz)) (by omega)
    rw [List.length_cons]
    omega
theorem F3.push {n : Nat} {st : List T3} (h : F3 n st) {a b : Int} (ha : 0 ≤ a ∧ a ≤ 9) : F3 (n + 1) ((a, b, 1) :: st) := by
  refine ⟨fun z hz => ?_, ?_⟩
  · rcases List.mem_cons.mp hz with e | e
    · subst e
      refine ⟨?_, ?_, ?_⟩ <;> dsimp only <;> omega
    · exact h.b z e
  · rw [List.map_cons, List.sum_cons, h.s]
    dsimp only
    omega
theorem fcN_ok {ps : List (Int × Int)} (hp : ∀ p ∈ ps, 0 ≤ p.1 ∧ p.1 ≤ 9) : ∀ n, n ≤ ps.length → F3 n (fcN ps n)
  | 0, _ => ⟨fun x hx => (nomatch hx), rfl⟩
  | n + 1, h => by
    have ih := fcN_ok hp n (by omega)
    have e : ps[n]? = some (ps[n]'(by omega)) := List.getElem?_eq_getElem (by omega)
    show F3 (n + 1) (match ps[n]? with | some p => colF (fcN ps n).length ((p.1, p.2, 1) :: fcN ps n) | none => [])
    rw [e]
    exact F3.col _ (ih.push (hp _ (List.getElem_mem _)))
def R_fcut : List Dt → Dt → Prop := fun ds d => ∃ (W : List Int) (st : List Jb), WOk W ∧ (∀ j ∈ st, JOk W j) ∧ st.length ≤ 1000 ∧ ds = [mD W, sD st] ∧ d = cutD2 (fallCut (st.map (pr W)))
theorem colF_0 (st : List T3) : colF 0 st = st := by cases st with | nil => rfl | cons y r => cases r <;> rfl
abbrev s_L_falling_cut : Stmt := topS 40
theorem sc_L_falling_cut : FnScope ["_law_measure", "_law_string", "_law_found", "_law_job", "_law_turn", "_law_one", "_law_other", "_law_both", "_law_a", "_law_b"] ["_law_measure", "_law_string"] (defScope s_L_falling_cut) := ⟨rfl, rfl, rfl, by decide +kernel, rfl, by decide +kernel, by decide +kernel⟩
theorem ok_L_falling_cut {f : Addr} {fd : FuncData} (F : Fun K "_law_falling_cut" "_law_falling_cut" s_L_falling_cut f fd) (Z : Bz mg) (C_L_is_less : Cal P w K mg base 1 "_law_is_less" ["_law_one", "_law_other"] (SpD R_less)) : FnOk P w K mg base CX0 2 f fd ["_law_measure", "_law_string"] (SpD R_fcut) := by
  refine ok_pure F sc_L_falling_cut (fun ds d h => ?_) fun cdv A outer s H E hr => ?_
  · obtain ⟨W, st, _, _, _, rfl, _⟩ := h
    rfl
  · have nd := sc_L_falling_cut.nd
    refine ⟨_, (pss_cons (ps_set (i := 2) nd rfl (Or.inl rfl) (pe_lst pa_nil))
      (pss_cons (ps_for PassesOwn.never rfl (pi_seq (pv 1)) (pg_name (i := 3) nd rfl (Or.inl rfl)) (pss_cons (ps_expr (pe_bm PySem.F.plainAttrs_list PySem.F.slot_list_append PySem.F.type_list_append mt_append (pv 2) (pa_cons (pe_tup (pa_cons (pe_ix (ix_seqK (K := K) rfl) (pe_ix (ix_seqK (K := K) rfl) (pe_ix (ix_seqK (K := K) rfl) (pe_ix (ix_seqK (K := K) rfl) (pv 0) pe_int (fun _ _ => rfl)) (pe_ix (ix_seqK (K := K) rfl) (pv 3) pe_int (fun _ _ => rfl)) (fun _ _ => rfl)) pe_int (fun _ _ => rfl)) pe_int (fun _ _ => rfl)) (pa_cons (pe_ix (ix_seqK (K := K) rfl) (pv 3) pe_int (fun _ _ => rfl)) (pa_cons pe_int pa_nil)))) pa_nil)))
      (pss_one (ps_for PassesOwn.never rfl (pi_range1 (by rfl) Z.range (pa_cons (pe_op op_sub (pe_callB (call_lenK (K := K) rfl) (by rfl) Z.len (by decide +kernel) (pa_cons (pv 2) pa_nil)) pe_int) pa_nil)) (pg_name (i := 4) nd rfl (Or.inl rfl)) (pss_cons (ps_par (i := 5) (j := 6) rfl nd rfl rfl (by decide) rfl rfl (pa_cons (pe_ix (ix_seqK (K := K) rfl) (pv 2) (pe_op op_sub (pe_callB (call_lenK (K := K) rfl) (by rfl) Z.len (by decide +kernel) (pa_cons (pv 2) pa_nil)) pe_int) (fun _ _ => rfl)) (pa_cons (pe_ix (ix_seqK (K := K) rfl) (pv 2) (pe_op op_sub (pe_callB (call_lenK (K := K) rfl) (by rfl) Z.len (by decide +kernel) (pa_cons (pv 2) pa_nil)) pe_int) (fun _ _ => rfl)) pa_nil)) rfl)
      (pss_one (ps_if (pt_val (pe_cal C_L_is_less hr (by decide) (by rfl) (pa_cons (pv 5) (pa_cons (pv 6) pa_nil)))) (pss_cons (ps_set (i := 7) nd rfl (Or.inl rfl) (pe_callTy (call_tupK (K := K) rfl) (by rfl) Z.tuple (by decide +kernel) (pa_cons (pe_lc (own := [("_law_a", 8), ("_law_b", 9)]) (g := (gTup K 2 (gCons (gName 8) (gCons (gName 9) gNil)))) (tt := tYes) rfl nd (RZ.pi_zipA (by rfl) Z.zip (pa_cons (pv 5) (pa_cons (pv 6) pa_nil))) (blkOk_by (N := ["_law_measure", "_law_string", "_law_found", "_law_job", "_law_turn", "_law_one", "_law_other", "_law_both", "_law_a", "_law_b"]) (sc := defScope s_L_falling_cut) (by decide +kernel)) (fun _ _ _ _ _ => (pg_tup rfl (pgs_cons (pg_name (i := 8) nd rfl (Or.inl rfl)) (pgs_cons (pg_name (i := 9) nd rfl (Or.inl rfl)) pgs_nil)))) (fun _ _ _ _ _ => pts_nil) (fun _ _ _ _ _ => (pe_op (op_addXK (K := K) rfl) (pv 8) (pv 9)))) pa_nil)))
      (pss_one (ps_set (i := 2) nd rfl (Or.inl rfl) (pe_op (op_addXK (K := K) rfl) (pe_slice (sl_XK (K := K) rfl) (pv 2) po_none (po_some (pe_op op_sub (pe_callB (call_lenK (K := K) rfl) (by rfl) Z.len (by decide +kernel) (pa_cons (pv 2) pa_nil)) pe_int))) (pe_lst (pa_cons (pv 7) pa_nil)))))) (pss_one ps_break))))))))
      (pss_one (ps_ret (pe_callTy (call_tupK (K := K) rfl) (by rfl) Z.tuple (by decide +kernel) (pa_cons (pe_lc (own := [("_law_one", 5)]) (g := (gName 5)) (tt := tYes) rfl nd (pi_seq (pv 2)) (blkOk_by (N := ["_law_measure", "_law_string", "_law_found", "_law_job", "_law_turn", "_law_one", "_law_other", "_law_both", "_law_a", "_law_b"]) (sc := defScope s_L_falling_cut) (by decide +kernel)) (fun _ _ _ _ _ => (pg_name (i := 5) nd rfl (Or.inl rfl))) (fun _ _ _ _ _ => pts_nil) (fun _ _ _ _ _ => (pe_ix (ix_seqK (K := K) rfl) (pv 5) pe_int (fun _ _ => rfl)))) pa_nil)))))), fun ds d h B F0 D q => ?_⟩
    obtain ⟨W, st, hW, hj, hl, rfl, rfl⟩ := h
    show Tr B F0 F0 [some (mD W), some (sD st), none, none, none, none, none, none, none, none] [] _
    have hps : ∀ p ∈ st.map (pr W), 0 ≤ p.1 ∧ p.1 ≤ 9 := fun p hp => by
      obtain ⟨j, hjm, rfl⟩ := List.mem_map.mp hp
      exact (hj j hjm).wb hW
    refine t_seq ?_
    walk_at "n"
    refine t_asgN (en_lst ea_nil (Nat.zero_le _)) fun p => ?_
    walk_at "n"
    refine t_seq ?_
    refine t_for (it_right (it_tup (ds := st.map jbD) (ev_var rfl))) .nil (fun i env mus => ∃ (p : Addr) (x1 x2 x3 x4 x5 : Option Dt), env = [some (mD W), some (sD st), some (.ptr p), x1, x2, x3, x4, x5, none, none] ∧ mus = [(p, .lst ((fcN (st.map (pr W)) i).reverse.map tpD))])
      ⟨p, none, none, none, none, none, rfl, rfl⟩ (fun _ _ _ _ _ x hx => nomatch hx) ?_ ?_
    · rintro X' hX i d env mus hd ⟨p, x1, x2, x3, x4, x5, rfl, rfl⟩
      rw [List.getElem?_map] at hd
      obtain ⟨j, hji, rfl⟩ := Option.map_eq_some_iff.mp hd
      have jok := hj j (List.mem_of_getElem? hji)
      have hwb := jok.wb hW
      have a4 := jok.at_
      have hil := getlt hji
      have hf := fcN_ok hps i (by rw [List.length_map]; omega)
      have hfl := hf.len
      refine ⟨_, _, gd_name, ?_⟩
      walk_at "n"
      refine t_seq ?_
      refine t_append (j := 0) (d := tpD (wt W j, tm j, 1)) rfl (ev_var rfl) ?_ (by rw [List.length_map, List.length_reverse]; omega) ?_
      · unfold mD jbD
        refine ev_tup (ds := [.int (wt W j), .int (tm j), .int 1]) (ea_cons ?_ (ea_cons ?_ (ea_cons ev_int ea_nil))) (show 3 ≤ 100000 by decide)
        · walk_at "ev"
        · exact ev_op (d2 := .int 1) (ev_var rfl) ev_int (rd_xT (atI_nat (j := 1) rfl))
      walk_at "n"
      have hpi : (st.map (pr W))[i]? = some (wt W j, tm j) := by rw [List.getElem?_map, hji]; rfl
      have hnext : fcN (st.map (pr W)) (i + 1) = colF (fcN (st.map (pr W)) i).length ((wt W j, tm j, 1) :: fcN (st.map (pr W)) i) := by
        rw [fcN, hpi]
      generalize hA : fcN (st.map (pr W)) i = A0 at *
      have hpush : F3 (i + 1) ((wt W j, tm j, 1) :: A0) := hf.push hwb
      refine t_for (it_range1 (n := (((A0.reverse.map tpD ++ [tpD (wt W j, tm j, 1)]).length : Nat) : Int) - 1) (ea_cons (ev_op (d2 := .int 1) (ev_cb (ea_cons (ev_var rfl) ea_nil) (rc_lenM (by simp))) ev_int rd_i0) ea_nil) ?_ ?_) .nil (fun n env mus => ∃ (p : Addr) (y2 y3 y4 y5 : Option Dt) (sk : List T3), env = [some (mD W), some (sD st), some (.ptr p), some (jbD j), y2, y3, y4, y5, none, none] ∧ mus = [(p, .lst (sk.reverse.map tpD))] ∧ F3 (i + 1) sk ∧ sk.length + n = A0.length + 1 ∧ colF (sk.length - 1) sk = fcN (st.map (pr W)) (i + 1))
        ⟨p, x2, x3, x4, x5, (wt W j, tm j, 1) :: A0, rfl, ?_, hpush, by rw [List.length_cons], ?_⟩ (fun _ _ _ _ _ x hx => nomatch hx) ?_ ?_
      · rw [List.length_append, List.length_singleton, List.length_map, List.length_reverse]
        omega
      · rw [List.length_append, List.length_singleton, List.length_map, List.length_reverse]
        omega
      · rw [List.reverse_cons, List.map_append]
        rfl
      · rw [List.length_cons, Nat.add_sub_cancel, hnext]
      · rintro X2 hX2 n d env mus hd ⟨p, y2, y3, y4, y5, sk, rfl, rfl, hsk, hskn, hcol⟩
        obtain ⟨rfl, hn⟩ := rgD_get hd
        rw [List.length_append, List.length_singleton, List.length_map, List.length_reverse] at hn
        refine ⟨_, _, gd_name, ?_⟩
        walk_at "n"
        have hskl := hsk.len
        match sk, hsk, hskn, hcol, hskl with
        | [], hsk, hskn, hcol, hskl => exact absurd hskn (by simp; omega)
        | [x], hsk, hskn, hcol, hskl => exact absurd hskn (by simp; omega)
        | y :: x :: r, hsk, hskn, hcol, hskl =>
          have el : (y :: x :: r).reverse.map tpD = r.reverse.map tpD ++ [tpD x, tpD y] := by simp
          have hrl : (r.reverse.map tpD).length = r.length := by simp
          have hll : (r.reverse.map tpD ++ [tpD x, tpD y]).length = r.length + 2 := by simp
          rw [el]
          simp only [List.length_cons] at hskn hskl
          have hlen : ∀ {env : Env_} {z : Int}, env[2]? = some (some (.ptr p)) → EvD (tOp (rI0 fun i j => .int (i - j)) (tCB (rLenS K) (tCons (tVar 2) tNil)) (tC (.int z))) env [(p, .lst (r.reverse.map tpD ++ [tpD x, tpD y]))] (.int (((r.length + 2 : Nat) : Int) - z)) := fun {env z} he =>
            (ev_op (d2 := .int z) (ev_cb (ea_cons (ev_var he) ea_nil) (rc_lenM (List.mem_cons_self ..))) ev_int rd_i0).is (by rw [hll])
          refine t_seq ?_
          refine t_parDD (d1 := tpD x) (d2 := tpD y) (ev_op (ev_var rfl) (hlen rfl) (rd_xM (List.mem_cons_self ..) (atI_of (i := r.length) ?_ ?_))) (ev_op (ev_var rfl) (hlen rfl) (rd_xM (List.mem_cons_self ..) (atI_of (i := r.length + 1) ?_ ?_))) ?_
          · rw [List.getElem?_append_right (by omega), hrl, Nat.sub_self]
            rfl
          · omega
          · rw [List.getElem?_append_right (by omega), hrl, Nat.add_sub_cancel_left]
            rfl
          · omega
          walk_at "n"
          have hx := hsk.b x (by simp)
          have hy := hsk.b y (by simp)
          have hxs : x.2.2 ≤ i + 1 ∧ y.2.2 ≤ i + 1 := by
            have := hsk.s
            simp only [List.map_cons, List.sum_cons] at this
            omega
          have hcall : ∀ {env : Env_} {mus : Mu}, env[5]? = some (some (tpD x)) → env[6]? = some (some (tpD y)) → EvT (tB (tCall (SpD R_less) [] E0 (tCons (tVar 5) (tCons (tVar 6) tNil)))) env mus (lss3 x y) := fun h5 h6 =>
            et_B (ev_call (ea_cons (ev_var h5) (ea_cons (ev_var h6) ea_nil)) ⟨x.1, x.2.1, y.1, y.2.1, [nD x.2.2], [nD y.2.2], by omega, by omega, rfl, rfl⟩)
          have hcol2 : colF ((r.length + 1 + 1) - 1) (y :: x :: r) = fcN (st.map (pr W)) (i + 1) := hcol
          rw [Nat.add_sub_cancel] at hcol2
          have hcol3 : (if lss3 x y = true then colF r.length (add3 x y :: r) else y :: x :: r) = fcN (st.map (pr W)) (i + 1) := hcol2
          refine t_if (hcall rfl rfl) (fun hb => ?_) (fun hb => ?_)
          · rw [if_pos hb] at hcol3
            refine t_seq ?_
            refine t_asg (d := tpD (add3 x y)) (EvD.is (ev_cb (ea_cons (EvN.toD (en_lcI (is := [8, 9]) (ds := zpD [.int x.1, .int x.2.1, nD x.2.2] [.int y.1, .int y.2.1, nD y.2.2]) (it_zipAT (ea_cons (ev_var rfl) (ea_cons (ev_var rfl) ea_nil))) (by simp) .nil (by simp) (fun i => [Dt.int (x.1 + y.1), .int (x.2.1 + y.2.1), nD (x.2.2 + y.2.2)].getD i .non) (fun i d hd => ?_) (show 3 ≤ 100000 by decide))) ea_nil) rc_tupL) rfl) ?_
            · match i, hd with
              | 0, hd =>
                have e : Dt.tup [.int x.1, .int y.1] = d := Option.some.inj hd
                rw [← e]
                exact ⟨_, gd_tup2, ev_op (ev_var rfl) (ev_var rfl) rd_addI⟩
              | 1, hd =>
                have e : Dt.tup [.int x.2.1, .int y.2.1] = d := Option.some.inj hd
                rw [← e]
                exact ⟨_, gd_tup2, ev_op (ev_var rfl) (ev_var rfl) rd_addI⟩
              | 2, hd =>
                have e : Dt.tup [nD x.2.2, nD y.2.2] = d := Option.some.inj hd
                rw [← e]
                exact ⟨_, gd_tup2, (ev_op (d1 := .int (x.2.2 : Int)) (d2 := .int (y.2.2 : Int)) (ev_var rfl) (ev_var rfl) rd_addI).is (by show _ = nD (x.2.2 + y.2.2); unfold nD; congr 1)⟩
              | i + 3, hd => exact absurd hd (by simp [zpD])
            walk_at "n"
            refine t_asgN (en_op (EvN.toD (en_sliceM (K := K) (ds := r.reverse.map tpD ++ [tpD x, tpD y]) (hi := some ((r.length : Nat) : Int)) (List.mem_cons_self ..) (ev_var rfl) eo_none (eo_some ((hlen rfl).is (by congr 1; omega))))) (EvN.toD (en_lst (ea_cons (ev_var rfl) ea_nil) (show 1 ≤ 100000 by decide))) (rn_addL ?_)) fun p2 => ?_
            · rw [cutD_0n, List.length_take, hll]
              show min r.length _ + 1 ≤ 100000
              omega
            walk_at "n"
            refine t_drop (mus' := [(p2, .lst (cutD (r.reverse.map tpD ++ [tpD x, tpD y]) none (some ((r.length : Nat) : Int)) ++ [tpD (add3 x y)]))]) (by simp) ?_
            refine tr_asr ⟨p2, _, _, _, _, add3 x y :: r, rfl, ?_, hsk.join, by rw [List.length_cons]; omega, ?_⟩
            · rw [cutD_0n, List.take_left' hrl, List.reverse_cons, List.map_append]
              rfl
            · rw [List.length_cons, Nat.add_sub_cancel]
              exact hcol3
          · rw [if_neg (by rw [hb]; exact Bool.false_ne_true)] at hcol3
            refine t_break ?_
            walk_at "n"
            refine Tr.less ?_ hX2
            refine tr_asr ⟨p, _, _, _, _, _, rfl, ?_⟩
            rw [← hcol3, el]
      · rintro env mus ⟨p, y2, y3, y4, y5, sk, rfl, rfl, hsk, hskn, hcol⟩
        have hle : (rgD 0 ((((A0.reverse.map tpD ++ [tpD (wt W j, tm j, 1)]).length : Nat) : Int) - 1).toNat).length = A0.length := by
          rw [rgD_len, List.length_append, List.length_singleton, List.length_map, List.length_reverse]
          omega
        rw [hle] at hskn
        have h1 : sk.length - 1 = 0 := by omega
        rw [h1, colF_0] at hcol
        rw [hcol]
        exact tr_asr ⟨p, _, _, _, _, _, rfl, rfl⟩
    · rintro env mus ⟨p, x1, x2, x3, x4, x5, rfl, rfl⟩
      rw [List.length_map]
      have hf := fcN_ok hps st.length (by rw [List.length_map]; exact Nat.le_refl _)
      have hfl := hf.len
      refine t_freeze (i := 2) (j := 0) rfl rfl ?_
      walk_at "n"
      refine t_ret (d := cutD2 (fallCut (st.map (pr W)))) (EvD.is (ev_cb (ea_cons (EvN.toD (en_lcM (l := (fcN (st.map (pr W)) st.length).reverse) (G := tpD) (F := fun x => nD x.2.2) (is := [5]) (it_left (it_list (ev_var rfl))) (by simp) .nil (by simp) (fun n x hx => ⟨_, gd_name, ev_op (d1 := tpD x) (d2 := .int 2) (ev_var rfl) ev_int (rd_xT (atI_nat (j := 2) rfl))⟩) (by rw [List.length_reverse]; omega))) ea_nil) rc_tupL) ?_) fun v F' H' g _ r => q v F' H' g r
      unfold cutD2 fallCut
      rw [List.map_map, List.length_map]
      rfl
end
end KB
namespace KB
open PySem PySem.Spec PyProof.Rows L2
local macro_rules | `(tactic| walk_at "at") => `(tactic| first | assumption | (exact atI_nat (j := 0) rfl) | (exact atI_nat (j := 1) rfl) | (exact atI_nat (j := 2) rfl) | (exact atI_nat (by assumption)) | (exact atI_map _ (by assumption)) | (exact atI_of (by assumption) (by omega)))
local macro_rules | `(tactic| walk_at "side") => `(tactic| first | assumption | decide | omega | (simp; done))
local macro_rules | `(tactic| walk_at "rd") => `(tactic| first
  | exact rd_addI | exact rd_i0 | exact rd_b0 | exact rd_eq | exact rd_ne | exact rd_neB
  | (refine' rd_xT ?ka; (case ka => walk_at "at")) | (refine' rd_xL ?ka; (case ka => walk_at "at")) | (refine' rd_xM ?kb ?ka; (case kb => simp; done); (case ka => walk_at "at"))
  | (refine' rd_mulI ?ka; (case ka => walk_at "side"))
  | (refine' rd_addT ?ka; (case ka => walk_at "side"))
  | (refine' rd_i ?ka; (case ka => walk_at "side"))
  | exact rd_isN | (exact rd_isN0 (by intro z; cases z)) | exact rd_notN | (exact rd_notN1 (by intro z; cases z)) | exact rd_inB | exact rd_inT)
local macro_rules | `(tactic| walk_at "rc") => `(tactic| first | exact rc_lenT | exact rc_lenL | (refine' rc_lenM ?ka; (case ka => simp; done)) | exact rc_sumXL | exact rc_sumXT | (refine' rc_sumXM ?ka; (case ka => simp; done)) | exact rc_tupL | (refine' rc_tupM ?ka; (case ka => simp; done)) | exact rc_int | exact rc_min2 | (exact rc_isi (by decide) (by decide +kernel)) | (exact rc_isiT (by decide) (by decide +kernel) (by decide +kernel)))
local macro_rules | `(tactic| walk_at "eo") => `(tactic| first | exact eo_none | (refine' eo_some ?ka; (case ka => walk_at "ev")))
local macro_rules | `(tactic| walk_at "ea") => `(tactic| first | exact ea_nil | (refine' ea_cons ?ka ?kb; (case ka => walk_at "ev"); (case kb => walk_at "ea")))
local macro_rules | `(tactic| walk_at "en") => `(tactic| first
  | (refine' en_lst ?ka ?kb; (case ka => walk_at "ea"); (case kb => walk_at "side"))
  | (refine' en_sliceL ?ka ?kb ?kc; (case ka => walk_at "ev"); (case kb => walk_at "eo"); (case kc => walk_at "eo"))
  | (refine' en_op ?ka ?kb ?kc; (case ka => walk_at "ev"); (case kb => walk_at "ev"); (case kc => first | (refine' rn_addL ?kd; (case kd => walk_at "side")) | (refine' rn_mulL ?kd ?ke ?kf; (case kd => walk_at "side"); (case ke => walk_at "side"); (case kf => walk_at "side")))))
local macro_rules | `(tactic| walk_at "ev") => `(tactic| first
  | exact ev_var rfl | exact ev_int | exact ev_bl | exact ev_non | exact ev_str | exact ev_ty | assumption
  | (refine' ev_op ?ka ?kb ?kc; (case ka => walk_at "ev"); (case kb => walk_at "ev"); (case kc => walk_at "rd"))
  | (refine' ev_un ?ka; (case ka => walk_at "ev"))
  | (refine' ev_tup ?ka ?kb; (case ka => walk_at "ea"); (case kb => walk_at "side"))
  | (refine' ev_cb ?ka ?kb; (case ka => walk_at "ea"); (case kb => walk_at "rc"))
  | (refine' ev_sliceT ?ka ?kb ?kc; (case ka => walk_at "ev"); (case kb => walk_at "eo"); (case kc => walk_at "eo"))
  | (refine' ev_notV ?ka; (case ka => walk_at "ev"))
  | (refine' EvN.toD ?ka; (case ka => walk_at "en")))
local macro_rules | `(tactic| walk_at "n") => `(tactic| dsimp only [List.set_cons_zero, List.set_cons_succ, List.map_cons, List.map_nil, List.cons_append, List.nil_append, List.length_cons, List.length_nil, Nat.add_sub_cancel, List.replicate])
section
variable {P : Program} {w : World} {K : PySem.W.Frag} {mg : Str → Option Value} {base : Heap}
/-! ### the greedy weave -/
def bestN (parts : List (List T3)) : Nat → Option Nat
  | 0 => none
  | n + 1 => match parts[n]? with
    | some (x :: _) => match bestN parts n with
      | none => some n
      | some b => if lss3 ((parts.getD b []).headD (0, 0, 0)) x = true then some n else some b
    | _ => bestN parts n
def wvStep (s : List (List T3) × List Nat) : List (List T3) × List Nat := match bestN s.1 s.1.length with
  | some b => match s.1.getD b [] with
    | x :: r => (s.1.set b r, s.2 ++ List.replicate x.2.2 b)
    | [] => s
  | none => s
def wvN (p0 : List (List T3)) : Nat → List (List T3) × List Nat
  | 0 => (p0, [])
  | n + 1 => wvStep (wvN p0 n)
def bl3 (W : List Int) (b : List Jb) : T3 := ((shr (b.map (pr W))).1, (shr (b.map (pr W))).2, b.length)
def parts0 (W : List Int) (ss : List (List Jb)) (cs : List (List Nat)) : List (List T3) := List.zipWith (fun st ls => (blocksOf st ls).map (bl3 W)) ss cs
def wovenW (W : List Int) (ss : List (List Jb)) (cs : List (List Nat)) : List Nat := (wvN (parts0 W ss cs) (cs.map List.length).sum).2
theorem bestN_some {parts : List (List T3)} : ∀ {n b : Nat}, bestN parts n = some b → b < n ∧ ∃ x r, parts[b]? = some (x :: r)
  | 0, b, h => nomatch h
  | n + 1, b, h => by
    rw [bestN] at h
    split at h
    · rename_i x r hx
      split at h
      · rw [← Option.some.inj h]
        exact ⟨Nat.lt_succ_self _, x, r, hx⟩
      · rename_i b' hb
        split at h
        · rw [← Option.some.inj h]
          exact ⟨Nat.lt_succ_self _, x, r, hx⟩
        · rw [← Option.some.inj h]
          obtain ⟨h1, h2⟩ := bestN_some hb
          exact ⟨Nat.lt_succ_of_lt h1, h2⟩
    · obtain ⟨h1, h2⟩ := bestN_some h
      exact ⟨Nat.lt_succ_of_lt h1, h2⟩
theorem bestN_none {parts : List (List T3)} : ∀ {n : Nat}, bestN parts n = none → ∀ k r, k < n → parts[k]? = some r → r = []
  | 0, h, k, r, hk, _ => absurd hk (Nat.not_lt_zero _)
  | n + 1, h, k, r, hk, hr => by
    rw [bestN] at h
    split at h
    · split at h
      · exact absurd h (by simp)
      · split at h <;> exact absurd h (by simp)
    · rename_i hne
      rcases Nat.lt_succ_iff_lt_or_eq.mp hk with z | z
      · exact bestN_none h k r z hr
      · subst z
        cases r with
        | nil => rfl
        | cons x r => exact absurd hr (hne x r)
def cnt (parts : List (List T3)) : Nat := (parts.map List.length).sum
def tot (parts : List (List T3)) : Nat := (parts.map fun r => (r.map (·.2.2)).sum).sum
theorem sum_set {f : List T3 → Nat} {a b : List T3} : ∀ {parts : List (List T3)} {k : Nat}, parts[k]? = some a → ((parts.set k b).map f).sum + f a = (parts.map f).sum + f b
  | [], k, h => by simp at h
  | p :: r, 0, h => by
    have e : p = a := Option.some.inj h
    subst e
    simp only [List.set_cons_zero, List.map_cons, List.sum_cons]
    omega
  | p :: r, k + 1, h => by
    have := sum_set (f := f) (b := b) (parts := r) (k := k) h
    simp only [List.set_cons_succ, List.map_cons, List.sum_cons]
    omega
theorem sum_pos_ex : ∀ {parts : List (List T3)}, 0 < cnt parts → ∃ (k : Nat) (x : T3) (r : List T3), parts[k]? = some (x :: r)
  | [], h => absurd h (Nat.lt_irrefl 0)
  | [] :: r, h => by
    have h2 : 0 < cnt r := by
      unfold cnt at h ⊢
      simp only [List.map_cons, List.sum_cons, List.length_nil] at h
      omega
    obtain ⟨k, x, r', e⟩ := sum_pos_ex h2
    exact ⟨k + 1, x, r', e⟩
  | (x :: l) :: r, _ => ⟨0, x, l, rfl⟩
structure WSt (ss : List (List Jb)) (n : Nat) (s : List (List T3) × List Nat) : Prop where
  len : s.1.length = ss.length
  cnt : cnt s.1 = n
  tot : s.2.length + tot s.1 ≤ 1000
  bnd : ∀ r ∈ s.1, ∀ x ∈ r, 0 ≤ x.1 ∧ x.1 ≤ 9000 ∧ x.2.2 ≤ 1000
theorem WSt.best {ss : List (List Jb)} {n : Nat} {s : List (List T3) × List Nat} (h : WSt ss (n + 1) s) : ∃ b x r, bestN s.1 s.1.length = some b ∧ s.1[b]? = some (x :: r) ∧ wvStep s = (s.1.set b r, s.2 ++ List.replicate x.2.2 b) ∧ WSt ss n (wvStep s) := by
  obtain ⟨k, x0, r0, h0⟩ := sum_pos_ex (parts := s.1) (by rw [h.cnt]; omega)
  cases hb : bestN s.1 s.1.length with
  | none => exact absurd (bestN_none hb k _ (getlt h0) h0) (by simp)
  | some b =>
    obtain ⟨h1, x, r, h2⟩ := bestN_some hb
    have e : wvStep s = (s.1.set b r, s.2 ++ List.replicate x.2.2 b) := by
      unfold wvStep
      rw [hb]
      dsimp only
      rw [List.getD_eq_getElem?_getD, h2]
      rfl
    refine ⟨b, x, r, rfl, h2, e, ?_⟩
    rw [e]
    have s1 := sum_set (f := List.length) (b := r) h2
    have s2 := sum_set (f := fun r => (r.map (·.2.2)).sum) (b := r) h2
    have hc := h.cnt
    have ht := h.tot
    unfold KB.cnt at hc
    unfold KB.tot at ht
    simp only [List.length_cons, List.map_cons, List.sum_cons] at s1 s2
    refine ⟨by rw [List.length_set]; exact h.len, ?_, ?_, ?_⟩
    · unfold KB.cnt
      dsimp only
      omega
    · unfold KB.tot
      dsimp only
      rw [List.length_append, List.length_replicate]
      omega
    · intro r' hr'
      rcases List.mem_or_eq_of_mem_set hr' with z | z
      · exact h.bnd r' z
      · rw [z]
        intro y hy
        exact h.bnd _ (List.mem_of_getElem? h2) y (List.mem_cons_of_mem _ hy)
structure WvIn (W : List Int) (ss : List (List Jb)) (cs : List (List Nat)) : Prop where
  w : WOk W
  len : cs.length = ss.length
  slen : ss.length ≤ 100
  jok : ∀ s ∈ ss, ∀ j ∈ s, JOk W j
  sum : (ss.map List.length).sum ≤ 1000
  at_ : ∀ (i : Nat) st ls, ss[i]? = some st → cs[i]? = some ls → ls.sum = st.length ∧ ls.length ≤ st.length
def R_woven : List Dt → Dt → Prop := fun ds d => ∃ (W : List Int) (ss : List (List Jb)) (cs : List (List Nat)), WvIn W ss cs ∧ ds = [mD W, ssD ss, .tup (cs.map cutD2)] ∧ d = wvD (wovenW W ss cs)
theorem le_sum_of_mem : ∀ {xs : List Nat} {x : Nat}, x ∈ xs → x ≤ xs.sum
  | [], x, h => nomatch h
  | a :: r, x, h => by
    rw [List.sum_cons]
    rcases List.mem_cons.mp h with z | z
    · omega
    · have := le_sum_of_mem z
      omega
theorem blocksOf_sum {α : Type} : ∀ (s : List α) (ls : List Nat), ls.sum ≤ s.length → ((blocksOf s ls).map List.length).sum = ls.sum
  | s, [], _ => rfl
  | s, l :: r, h => by
    rw [List.sum_cons] at h
    show ((s.take l).length + ((blocksOf (s.drop l) r).map List.length).sum) = _
    rw [blocksOf_sum (s.drop l) r (by rw [List.length_drop]; omega), List.length_take, List.sum_cons]
    omega
theorem parts0_tot {W : List Int} : ∀ {ss : List (List Jb)} {cs : List (List Nat)}, cs.length = ss.length → (∀ (i : Nat) st ls, ss[i]? = some st → cs[i]? = some ls → ls.sum = st.length) → tot (parts0 W ss cs) = (ss.map List.length).sum
  | [], cs, h, _ => by
    cases cs with
    | nil => rfl
    | cons _ _ => cases h
  | s :: ss, [], h, _ => by cases h
  | s :: ss, c :: cs, h, ha => by
    have ih := parts0_tot (W := W) (ss := ss) (cs := cs) (Nat.succ.inj h) fun i st ls h1 h2 => ha (i + 1) st ls h1 h2
    have h0 := ha 0 s c rfl rfl
    have e : (((blocksOf s c).map (bl3 W)).map (·.2.2)) = (blocksOf s c).map List.length := by
      rw [List.map_map]
      rfl
    show ((((blocksOf s c).map (bl3 W)).map (·.2.2)).sum + tot (parts0 W ss cs)) = _
    rw [ih, e, blocksOf_sum s c (by omega), List.map_cons, List.sum_cons, h0]
theorem parts0_cnt {W : List Int} : ∀ {ss : List (List Jb)} {cs : List (List Nat)}, cs.length = ss.length → cnt (parts0 W ss cs) = (cs.map List.length).sum
  | [], cs, h => by
    cases cs with
    | nil => rfl
    | cons _ _ => cases h
  | s :: ss, [], h => by cases h
  | s :: ss, c :: cs, h => by
    have ih := parts0_cnt (W := W) (ss := ss) (cs := cs) (Nat.succ.inj h)
    show ((blocksOf s c).map (bl3 W)).length + cnt (parts0 W ss cs) = _
    rw [ih, List.length_map, blocksOf_len, List.map_cons, List.sum_cons]
theorem WvIn.blk {W : List Int} {ss : List (List Jb)} {cs : List (List Nat)} (h : WvIn W ss cs) {st : List Jb} {ls : List Nat} {i : Nat} (h1 : ss[i]? = some st) (h2 : cs[i]? = some ls) : st.length ≤ 1000 ∧ ls.length ≤ 1000 ∧ ∀ b ∈ blocksOf st ls, (∀ j ∈ b, JOk W j) ∧ b.length ≤ 1000 := by
  have hm := List.mem_of_getElem? h1
  have hl : st.length ≤ 1000 := Nat.le_trans (le_sum_of_mem (List.mem_map.mpr ⟨st, hm, rfl⟩)) h.sum
  have ha := h.at_ i st ls h1 h2
  refine ⟨hl, by omega, fun b hb => ⟨fun j hj => h.jok st hm j (blocksOf_mem st ls b hb j hj), ?_⟩⟩
  obtain ⟨n, hn⟩ := List.mem_iff_getElem?.mp hb
  have hnl : n < ls.length := by
    rw [← blocksOf_len st ls]
    exact getlt hn
  have e := blocksOf_at st ls n _ (List.getElem?_eq_getElem hnl)
  rw [hn] at e
  rw [Option.some.inj e, List.length_take, List.length_drop]
  omega
theorem WvIn.st {W : List Int} {ss : List (List Jb)} {cs : List (List Nat)} (h : WvIn W ss cs) : WSt ss (cs.map List.length).sum (parts0 W ss cs, []) := by
  refine ⟨?_, parts0_cnt h.len, ?_, ?_⟩
  · show (List.zipWith _ ss cs).length = _
    rw [List.length_zipWith, h.len, Nat.min_self]
  · show 0 + tot (parts0 W ss cs) ≤ 1000
    rw [parts0_tot h.len fun i st ls h1 h2 => (h.at_ i st ls h1 h2).1]
    have := h.sum
    omega
  · intro r hr x hx
    obtain ⟨i, hi⟩ := List.mem_iff_getElem?.mp hr
    rw [show (parts0 W ss cs, ([] : List Nat)).1 = List.zipWith _ ss cs from rfl, List.getElem?_zipWith] at hi
    cases h1 : ss[i]? with
    | none => rw [h1] at hi; cases hi
    | some st =>
      cases h2 : cs[i]? with
      | none => rw [h1, h2] at hi; cases hi
      | some ls =>
        rw [h1, h2] at hi
        rw [← Option.some.inj hi] at hx
        obtain ⟨b, hb, rfl⟩ := List.mem_map.mp hx
        obtain ⟨h3, h4⟩ := (h.blk h1 h2).2.2 b hb
        have h5 := shr_bound h.w h3
        refine ⟨h5.1, ?_, h4⟩
        show (shr _).1 ≤ 9000
        omega
theorem WvIn.nth {W : List Int} {ss : List (List Jb)} {cs : List (List Nat)} (h : WvIn W ss cs) : ∀ n, n ≤ (cs.map List.length).sum → WSt ss ((cs.map List.length).sum - n) (wvN (parts0 W ss cs) n)
  | 0, _ => h.st
  | n + 1, hn => by
    have ih := h.nth n (by omega)
    rw [show (cs.map List.length).sum - n = ((cs.map List.length).sum - (n + 1)) + 1 by omega] at ih
    obtain ⟨b, x, r, _, _, _, e⟩ := ih.best
    exact e
def prtD (r : List T3) : Dt := .lst (r.map tpD)
def bstD : Option Nat → Dt
  | none => .int (-1)
  | some b => nD b
theorem flat_tp (r : List T3) : ∀ d ∈ r.map tpD, ∃ p, Flat2 d p := fun d hd => by
  obtain ⟨x, _, rfl⟩ := List.mem_map.mp hd
  exact ⟨_, .tup [x.1, x.2.1, (x.2.2 : Int)]⟩
abbrev s_L_woven : Stmt := topS 33
theorem sc_L_woven : FnScope ["_law_measure", "_law_strings", "_law_cuts", "_law_parts", "_law_found", "_law_string", "_law_lengths", "_law_turn", "_law_best", "_law_k", "_law_row", "_law_block"] ["_law_measure", "_law_strings", "_law_cuts"] (defScope s_L_woven) := ⟨rfl, rfl, rfl, by decide +kernel, rfl, by decide +kernel, by decide +kernel⟩
theorem ok_L_woven {f : Addr} {fd : FuncData} (F : Fun K "_law_woven" "_law_woven" s_L_woven f fd) (Z : Bz mg) (C_L_blocks : Cal P w K mg base 1 "_law_blocks" ["_law_string", "_law_lengths"] (SpD R_blocksOf)) (C_L_share : Cal P w K mg base 1 "_law_share" ["_law_measure", "_law_jobs"] (SpD R_share)) (C_L_is_less : Cal P w K mg base 1 "_law_is_less" ["_law_one", "_law_other"] (SpD R_less)) : FnOk P w K mg base CX0 2 f fd ["_law_measure", "_law_strings", "_law_cuts"] (SpD R_woven) := by
  refine ok_pure F sc_L_woven (fun ds d h => ?_) fun cdv A outer s H E hr => ?_
  · obtain ⟨W, ss, cs, _, rfl, _⟩ := h
    rfl
  · have nd := sc_L_woven.nd
    have hu := hu_of hr
    have hu64 := hu64_of hr
    refine ⟨_, (pss_cons (ps_par (i := 3) (j := 4) rfl nd rfl rfl (by decide) rfl rfl (pa_cons (pe_lst pa_nil) (pa_cons (pe_tup pa_nil) pa_nil)) rfl)
      (pss_cons (ps_for PassesOwn.never rfl (RZ.pi_zipA (by rfl) Z.zip (pa_cons (pv 1) (pa_cons (pv 2) pa_nil))) (pg_tup rfl (pgs_cons (pg_name (i := 5) nd rfl (Or.inl rfl)) (pgs_cons (pg_name (i := 6) nd rfl (Or.inl rfl)) pgs_nil))) (pss_one (ps_expr (pe_bm PySem.F.plainAttrs_list PySem.F.slot_list_append PySem.F.type_list_append mt_append (pv 3) (pa_cons (pe_lc (own := [("_law_block", 11)]) (g := (gName 11)) (tt := tYes) rfl nd (pi_seq (pe_cal C_L_blocks hr (by decide) (by rfl) (pa_cons (pv 5) (pa_cons (pv 6) pa_nil)))) (blkOk_by (N := ["_law_measure", "_law_strings", "_law_cuts", "_law_parts", "_law_found", "_law_string", "_law_lengths", "_law_turn", "_law_best", "_law_k", "_law_row", "_law_block"]) (sc := defScope s_L_woven) (by decide +kernel)) (fun _ _ _ _ _ => (pg_name (i := 11) nd rfl (Or.inl rfl))) (fun _ _ _ _ _ => pts_nil) (fun _ _ _ _ _ => (pe_op (op_addXK (K := K) rfl) (pe_cal C_L_share hr (by decide) (by rfl) (pa_cons (pv 0) (pa_cons (pv 11) pa_nil))) (pe_tup (pa_cons (pe_callB (call_lenK (K := K) rfl) (by rfl) Z.len (by decide +kernel) (pa_cons (pv 11) pa_nil)) pa_nil))))) pa_nil)))))
      (pss_cons (ps_for PassesOwn.never rfl (pi_range1 (by rfl) Z.range (pa_cons (pe_callB (cr_sumXK (K := K) rfl rfl) (by rfl) Z.sum (by decide +kernel) (pa_cons (pe_lc (own := [("_law_lengths", 6)]) (g := (gName 6)) (tt := tYes) rfl nd (pi_seq (pv 2)) (blkOk_by (N := ["_law_measure", "_law_strings", "_law_cuts", "_law_parts", "_law_found", "_law_string", "_law_lengths", "_law_turn", "_law_best", "_law_k", "_law_row", "_law_block"]) (sc := defScope s_L_woven) (by decide +kernel)) (fun _ _ _ _ _ => (pg_name (i := 6) nd rfl (Or.inl rfl))) (fun _ _ _ _ _ => pts_nil) (fun _ _ _ _ _ => (pe_callB (call_lenK (K := K) rfl) (by rfl) Z.len (by decide +kernel) (pa_cons (pv 6) pa_nil)))) pa_nil)) pa_nil)) (pg_name (i := 7) nd rfl (Or.inl rfl)) (pss_cons (ps_set (i := 8) nd rfl (Or.inl rfl) (pe_un un_neg pe_int))
      (pss_cons (ps_for PassesOwn.never rfl (pi_or (pi_enum (by rfl) Z.enumerate (pa_cons (pv 3) pa_nil)) (pi_enumT (by rfl) Z.enumerate (pa_cons (pv 3) pa_nil))) (pg_tup rfl (pgs_cons (pg_name (i := 9) nd rfl (Or.inl rfl)) (pgs_cons (pg_name (i := 10) nd rfl (Or.inl rfl)) pgs_nil))) (pss_one (ps_if (PW.pt (pw_and (pt_cmpR (op_neDK (K := K) rfl hu64) (pv 10) (pe_lst pa_nil) (nomark _)) (pw_and1 (PW.pt (pw_or (pt_cmpR op_lt (pv 8) pe_int (nomark _)) (pw_or1 (pt_val (pe_cal C_L_is_less hr (by decide) (by rfl) (pa_cons (pe_ix (ix_seqK (K := K) rfl) (pe_ix (ix_seqK (K := K) rfl) (pv 3) (pv 8) (fun _ _ => rfl)) pe_int (fun _ _ => rfl)) (pa_cons (pe_ix (ix_seqK (K := K) rfl) (pv 10) pe_int (fun _ _ => rfl)) pa_nil)))))))))) (pss_one (ps_set (i := 8) nd rfl (Or.inl rfl) (pv 9))) pss_nil)))
      (pss_cons (ps_set (i := 4) nd rfl (Or.inl rfl) (pe_op (op_addXK (K := K) rfl) (pv 4) (pe_op (op_mulXK (K := K) rfl) (pe_tup (pa_cons (pv 8) pa_nil)) (pe_ix (ix_seqK (K := K) rfl) (pe_ix (ix_seqK (K := K) rfl) (pe_ix (ix_seqK (K := K) rfl) (pv 3) (pv 8) (fun _ _ => rfl)) pe_int (fun _ _ => rfl)) pe_int (fun _ _ => rfl)))))
      (pss_one (ps_asg (pe_slice (sl_XK (K := K) rfl) (pe_ix (ix_seqK (K := K) rfl) (pv 3) (pv 8) (fun _ _ => rfl)) (po_some pe_int) po_none) (pg_sub (pv 3) (pv 8) set_list)))))))
      (pss_one (ps_ret (pv 4)))))), fun ds d h B F0 D q => ?_⟩
    obtain ⟨W, ss, cs, hI, rfl, rfl⟩ := h
    show Tr B F0 F0 [some (mD W), some (ssD ss), some (.tup (cs.map cutD2)), none, none, none, none, none, none, none, none, none] [] _
    have hlen := hI.len
    have hsl := hI.slen
    have hW := hI.w
    refine t_seq ?_
    walk_at "n"
    refine t_parND (en_lst ea_nil (Nat.zero_le _)) (ev_tup ea_nil (Nat.zero_le _)) fun p => ?_
    walk_at "n"
    refine t_seq ?_
    refine t_for (ds := zpD (ss.map sD) (cs.map cutD2)) (it_zipAT (ea_cons (ev_var rfl) (ea_cons (ev_var rfl) ea_nil))) .nil (fun i env mus => ∃ (x5 x6 : Option Dt), env = [some (mD W), some (ssD ss), some (.tup (cs.map cutD2)), some (.ptr p), some (.tup []), x5, x6, none, none, none, none, none] ∧ mus = [(p, .lst (((parts0 W ss cs).take i).map prtD))])
      ⟨none, none, rfl, rfl⟩ (fun _ _ _ _ _ x hx => nomatch hx) ?_ ?_
    · rintro X' hX i d env mus hd ⟨x5, x6, rfl, rfl⟩
      obtain ⟨a, b, ea, eb, rfl⟩ := zpD_get hd
      rw [List.getElem?_map] at ea eb
      obtain ⟨st, hst, rfl⟩ := Option.map_eq_some_iff.mp ea
      obtain ⟨ls, hls, rfl⟩ := Option.map_eq_some_iff.mp eb
      obtain ⟨h1, h2, h3⟩ := hI.blk hst hls
      have hpi : (parts0 W ss cs)[i]? = some ((blocksOf st ls).map (bl3 W)) := by
        unfold parts0
        rw [List.getElem?_zipWith, hst, hls]
      have hpl : (parts0 W ss cs).length = ss.length := hI.st.len
      refine ⟨_, _, gd_tup2, ?_⟩
      walk_at "n"
      refine t_append (j := 0) (d := prtD ((blocksOf st ls).map (bl3 W))) rfl (ev_var rfl) (EvD.is (EvN.toD (en_lcM (l := blocksOf st ls) (G := sD) (F := fun b => tpD (bl3 W b)) (is := [11]) (it_left (it_list (ev_call (ea_cons (ev_var rfl) (ea_cons (ev_var rfl) ea_nil)) ⟨st, ls, h2, rfl, rfl⟩))) (by simp) .nil (by simp) (fun n b hb => ⟨_, gd_name, ?_⟩) (by rw [blocksOf_len]; omega))) (by unfold prtD; rw [List.map_map]; rfl)) (by rw [List.length_map, List.length_take]; omega) ?_
      · obtain ⟨b1, b2⟩ := h3 b (List.mem_of_getElem? hb)
        refine (ev_op (d1 := .tup [.int (shr (b.map (pr W))).1, .int (shr (b.map (pr W))).2]) (ev_call (ea_cons (ev_var rfl) (ea_cons (ev_var rfl) ea_nil)) ⟨W, b, true, hW, b1, b2, rfl, rfl⟩) (ev_tup (ds := [.int ((b.map jbD).length : Nat)]) (ea_cons (ev_cb (ea_cons (ev_var (d := .tup (b.map jbD)) rfl) ea_nil) rc_lenT) ea_nil) (show 1 ≤ 100000 by decide)) (rd_addT (show 2 + 1 ≤ 100000 by decide))).is ?_
        rw [List.length_map]
        rfl
      refine tr_asr ⟨_, _, rfl, ?_⟩
      rw [take_succ_get hpi, List.map_append]
      rfl
    · rintro env mus ⟨x5, x6, rfl, rfl⟩
      have hzl : (zpD (ss.map sD) (cs.map cutD2)).length = (parts0 W ss cs).length := by rw [zpD_len, List.length_map, List.length_map, hlen, Nat.min_self, hI.st.len]
      rw [hzl, List.take_length]
      walk_at "n"
      refine t_seq ?_
      have hct : (cs.map List.length).sum ≤ 1000 := by
        have h1 : ∀ {ss : List (List Jb)} {cs : List (List Nat)}, cs.length = ss.length → (∀ (i : Nat) st ls, ss[i]? = some st → cs[i]? = some ls → ls.sum = st.length ∧ ls.length ≤ st.length) → (cs.map List.length).sum ≤ (ss.map List.length).sum := fun {ss} => by
          induction ss with
          | nil =>
            intro cs h _
            cases cs with
            | nil => exact Nat.le_refl _
            | cons _ _ => cases h
          | cons s ss ih =>
            intro cs h ha
            cases cs with
            | nil => cases h
            | cons c cs =>
              have := ih (cs := cs) (Nat.succ.inj h) fun i st ls h1 h2 => ha (i + 1) st ls h1 h2
              have h0 := ha 0 s c rfl rfl
              simp only [List.map_cons, List.sum_cons]
              omega
        have := h1 hlen hI.at_
        have := hI.sum
        omega
      refine t_for (it_range1 (n := (((cs.map List.length).sum : Nat) : Int)) (ea_cons (ev_cb (ea_cons (EvD.is (EvN.toD (en_lcM (l := cs) (G := cutD2) (F := fun c => nD c.length) (is := [6]) (it_right (it_tup (ev_var rfl))) (by simp) .nil (by simp) (fun n c hc => ⟨_, gd_name, ?_⟩) (by omega))) (d2 := .lst ((cs.map List.length).map nD)) (by rw [List.map_map]; rfl)) ea_nil) (rc_sumNL _)) ea_nil) (by omega) (by omega)) .nil (fun i env mus => ∃ (x7 x8 x9 x10 : Option Dt), env = [some (mD W), some (ssD ss), some (.tup (cs.map cutD2)), some (.ptr p), some (wvD (wvN (parts0 W ss cs) i).2), x5, x6, x7, x8, x9, x10, none] ∧ mus = [(p, .lst ((wvN (parts0 W ss cs) i).1.map prtD))])
        ⟨none, none, none, none, rfl, rfl⟩ (fun _ _ _ _ _ x hx => nomatch hx) ?_ ?_
      · exact (ev_cb (ea_cons (ev_var (d := .tup (c.map nD)) rfl) ea_nil) rc_lenT).is (by rw [List.length_map]; rfl)
      · rintro X' hX i d env mus hd ⟨x7, x8, x9, x10, rfl, rfl⟩
        obtain ⟨rfl, hn⟩ := rgD_get hd
        rw [Int.toNat_natCast] at hn
        have hst := hI.nth i (by omega)
        rw [show (cs.map List.length).sum - i = ((cs.map List.length).sum - (i + 1)) + 1 by omega] at hst
        obtain ⟨b, x, r, hb, hbx, hstep, hnext⟩ := hst.best
        have estep : wvN (parts0 W ss cs) (i + 1) = wvStep (wvN (parts0 W ss cs) i) := rfl
        rw [estep, hstep]
        clear estep
        generalize wvN (parts0 W ss cs) i = s at *
        obtain ⟨parts, found⟩ := s
        dsimp only at hb hbx hstep hnext ⊢
        refine ⟨_, _, gd_name, ?_⟩
        walk_at "n"
        refine t_seq ?_
        refine t_asg (ev_un (g := fun i => -i) ev_int) ?_
        walk_at "n"
        refine t_seq ?_
        have hpl : parts.length = ss.length := hst.len
        have hbd := hst.bnd
        dsimp only at hbd
        refine t_for (it_left (it_enumM (p := p) (ds := parts.map prtD) (by simp) (ea_cons (ev_var rfl) ea_nil))) (by simp) (fun n env mus => ∃ (y9 y10 : Option Dt), env = [some (mD W), some (ssD ss), some (.tup (cs.map cutD2)), some (.ptr p), some (wvD found), x5, x6, some (.int (0 + (i : Nat))), some (bstD (bestN parts n)), y9, y10, none] ∧ mus = [(p, .lst (parts.map prtD))])
          ⟨x9, x10, rfl, rfl⟩ (fun n e m _ hm x hx => by obtain ⟨_, _, _, rfl⟩ := hm; exact hx) ?_ ?_
        · rintro X2 hX2 n d env mus hd ⟨y9, y10, rfl, rfl⟩
          obtain ⟨d0, e0, rfl⟩ := enD_get hd
          rw [List.getElem?_map] at e0
          obtain ⟨row, hrow, rfl⟩ := Option.map_eq_some_iff.mp e0
          refine ⟨_, _, gd_tup2, ?_⟩
          walk_at "n"
          cases row with
          | nil =>
            have ebn : bestN parts (n + 1) = bestN parts n := by rw [bestN, hrow]
            refine t_ifF (et_and (a := false) (b := true) ((et_test (ev_op (d1 := .lst (([] : List T3).map tpD)) (ev_var rfl) (EvN.toD (en_lst ea_nil (Nat.zero_le _))) (rd_neNil (flat_tp [])))).is rfl) fun z => nomatch z) ?_
            refine t_next ?_
            walk_at "n"
            refine tr_asr ⟨some (.int (n : Nat)), some (prtD []), ?_, rfl⟩
            rw [ebn]
          | cons y row =>
            have hy := hbd _ (List.mem_of_getElem? hrow) y (List.mem_cons_self ..)
            cases hbn : bestN parts n with
            | none =>
              have ebn : bestN parts (n + 1) = some n := by rw [bestN, hrow]; dsimp only; rw [hbn]
              refine t_ifT (et_and (a := true) (b := true) ((et_test (ev_op (d1 := .lst ((y :: row).map tpD)) (ev_var rfl) (EvN.toD (en_lst ea_nil (Nat.zero_le _))) (rd_neNil (flat_tp _)))).is rfl) fun _ => ?_) ?_
              · exact et_or (a := true) (b := true) ((et_test (ev_op (d1 := .int (-1)) (d2 := .int 0) (ev_var rfl) ev_int rd_b0)).is rfl) fun z => nomatch z
              refine t_asg (ev_var rfl) ?_
              walk_at "n"
              refine tr_asr ⟨some (.int (n : Nat)), some (prtD (y :: row)), ?_, rfl⟩
              rw [ebn]
              rfl
            | some b0 =>
              obtain ⟨_, x0, r0, hb0⟩ := bestN_some hbn
              have hx0 := hbd _ (List.mem_of_getElem? hb0) x0 (List.mem_cons_self ..)
              have ebn : bestN parts (n + 1) = if lss3 x0 y = true then some n else some b0 := by
                rw [bestN, hrow]
                dsimp only
                rw [hbn]
                dsimp only
                rw [List.getD_eq_getElem?_getD, hb0]
                rfl
              refine t_if (b := lss3 x0 y) ((et_and (a := true) (b := lss3 x0 y) ((et_test (ev_op (d1 := .lst ((y :: row).map tpD)) (ev_var rfl) (EvN.toD (en_lst ea_nil (Nat.zero_le _))) (rd_neNil (flat_tp _)))).is rfl) fun _ => ?_).is (by simp)) (fun hb => ?_) fun hb => ?_
              · refine (et_or (a := false) (b := lss3 x0 y) ((et_test (ev_op (d1 := .int (b0 : Int)) (d2 := .int 0) (ev_var rfl) ev_int rd_b0)).is (by rw [decide_eq_false (by omega)])) fun _ => ?_).is (by simp)
                refine et_B (ev_call (ea_cons (d := tpD x0) (ev_op (d1 := prtD (x0 :: r0)) (d2 := .int 0) (ev_op (d2 := .int (b0 : Int)) (ev_var rfl) (ev_var rfl) (rd_xM (List.mem_cons_self ..) (atI_map prtD hb0))) ev_int (rd_xL (atI_nat (j := 0) rfl))) (ea_cons (d := tpD y) (ev_op (d1 := prtD (y :: row)) (d2 := .int 0) (ev_var rfl) ev_int (rd_xL (atI_nat (j := 0) rfl))) ea_nil)) ⟨x0.1, x0.2.1, y.1, y.2.1, [nD x0.2.2], [nD y.2.2], by omega, by omega, rfl, rfl⟩)
              · rw [if_pos hb] at ebn
                refine t_asg (ev_var rfl) ?_
                walk_at "n"
                refine tr_asr ⟨some (.int (n : Nat)), some (prtD (y :: row)), ?_, rfl⟩
                rw [ebn]
                rfl
              · rw [if_neg (by rw [hb]; exact Bool.false_ne_true)] at ebn
                refine t_next ?_
                walk_at "n"
                refine tr_asr ⟨some (.int (n : Nat)), some (prtD (y :: row)), ?_, rfl⟩
                rw [ebn]
        · rintro env mus ⟨y9, y10, rfl, rfl⟩
          have hel : (enD (parts.map prtD)).length = parts.length := by rw [enD_len, List.length_map]
          rw [hel, hb]
          walk_at "n"
          refine t_seq ?_
          have hx := hbd _ (List.mem_of_getElem? hbx) x (List.mem_cons_self ..)
          have htt := hst.tot
          have hs2 := sum_set (f := fun r => (r.map (·.2.2)).sum) (b := r) hbx
          have hpb : ∀ {mus : Mu} {y9 y10 : Option Dt} {fd : Dt}, (p, MO.lst (parts.map prtD)) ∈ mus → EvD (tOp (rIx K) (tVar 3) (tVar 8)) [some (mD W), some (ssD ss), some (.tup (cs.map cutD2)), some (.ptr p), some fd, x5, x6, some (.int (0 + (i : Nat))), some (bstD (some b)), y9, y10, none] mus (prtD (x :: r)) := fun hm =>
            ev_op (d2 := .int (b : Int)) (ev_var rfl) (ev_var rfl) (rd_xM hm (atI_map prtD hbx))
          refine t_asg (d := wvD (found ++ List.replicate x.2.2 b)) ((ev_op (d1 := .tup (found.map nD)) (ev_var rfl) (ev_op (ev_tup (ds := [nD b]) (ea_cons (ev_var rfl) ea_nil) (show 1 ≤ 100000 by decide)) (ev_op (d1 := tpD x) (d2 := .int 2) (ev_op (d2 := .int 0) (hpb (List.mem_cons_self ..)) ev_int (rd_xL (atI_nat (j := 0) rfl))) ev_int (rd_xT (atI_nat (j := 2) rfl))) (rd_mulT (k := (x.2.2 : Int)) (by simp) (by omega) (by omega) (show 1 ≤ 1000 by decide))) (rd_addT ?_)).is ?_) ?_
          · rw [rep_flat, List.length_map, List.length_replicate]
            unfold tot at htt
            dsimp only at htt
            simp only [List.map_cons, List.sum_cons] at hs2
            omega
          · rw [rep_flat, Int.toNat_natCast]
            unfold wvD
            rw [List.map_append, List.map_replicate]
          walk_at "n"
          refine t_setitem (j := 0) (d := prtD r) (n := b) (z := (b : Int)) rfl ((EvN.toD (en_sliceL (K := K) (ds := (x :: r).map tpD) (lo := some ((1 : Nat) : Int)) (hi := none) (hpb (List.mem_cons_self ..)) (eo_some ev_int) eo_none)).is (by rw [cutD_map, cutD_n0]; rfl)) (ev_var rfl) (ev_var rfl) (ixN_nat (by rw [List.length_map]; exact getlt hbx)) ?_
          refine tr_asr ⟨_, _, _, _, rfl, ?_⟩
          rw [List.map_set]
          rfl
      · rintro env mus ⟨x7, x8, x9, x10, rfl, rfl⟩
        rw [rgD_len, Int.toNat_natCast]
        exact t_ret (ev_var rfl) fun v F' H' g _ r => q v F' H' g r
end
end KB
namespace KB
open PySem PySem.Spec PyProof.Rows L2
local macro_rules | `(tactic| walk_at "at") => `(tactic| first | assumption | (exact atI_nat (j := 0) rfl) | (exact atI_nat (j := 1) rfl) | (exact atI_nat (j := 2) rfl) | (exact atI_nat (by assumption)) | (exact atI_map _ (by assumption)) | (exact atI_of (by assumption) (by omega)))
local macro_rules | `(tactic| walk_at "side") => `(tactic| first | assumption | decide | omega | (simp; done))
local macro_rules | `(tactic| walk_at "rd") => `(tactic| first
  | exact rd_addI | exact rd_i0 | exact rd_b0 | exact rd_eq | exact rd_ne | exact rd_neB
  | (refine' rd_xT ?ka; (case ka => walk_at "at")) | (refine' rd_xL ?ka; (case ka => walk_at "at")) | (refine' rd_xM ?kb ?ka; (case kb => simp; done); (case ka => walk_at "at"))
  | (refine' rd_mulI ?ka; (case ka => walk_at "side"))
  | (refine' rd_addT ?ka; (case ka => walk_at "side"))
  | (refine' rd_i ?ka; (case ka => walk_at "side"))
  | exact rd_isN | (exact rd_isN0 (by intro z; cases z)) | exact rd_notN | (exact rd_notN1 (by intro z; cases z)) | exact rd_inB | exact rd_inT)
local macro_rules | `(tactic| walk_at "rc") => `(tactic| first | exact rc_lenT | exact rc_lenL | (refine' rc_lenM ?ka; (case ka => simp; done)) | exact rc_sumXL | exact rc_sumXT | (refine' rc_sumXM ?ka; (case ka => simp; done)) | exact rc_tupL | (refine' rc_tupM ?ka; (case ka => simp; done)) | exact rc_int | exact rc_min2 | (exact rc_isi (by decide) (by decide +kernel)) | (exact rc_isiT (by decide) (by decide +kernel) (by decide +kernel)))
local macro_rules | `(tactic| walk_at "eo") => `(tactic| first | exact eo_none | (refine' eo_some ?ka; (case ka => walk_at "ev")))
local macro_rules | `(tactic| walk_at "ea") => `(tactic| first | exact ea_nil | (refine' ea_cons ?ka ?kb; (case ka => walk_at "ev"); (case kb => walk_at "ea")))
local macro_rules | `(tactic| walk_at "en") => `(tactic| first
  | (refine' en_lst ?ka ?kb; (case ka => walk_at "ea"); (case kb => walk_at "side"))
  | (refine' en_sliceL ?ka ?kb ?kc; (case ka => walk_at "ev"); (case kb => walk_at "eo"); (case kc => walk_at "eo"))
  | (refine' en_op ?ka ?kb ?kc; (case ka => walk_at "ev"); (case kb => walk_at "ev"); (case kc => first | (refine' rn_addL ?kd; (case kd => walk_at "side")) | (refine' rn_mulL ?kd ?ke ?kf; (case kd => walk_at "side"); (case ke => walk_at "side"); (case kf => walk_at "side")))))
local macro_rules | `(tactic| walk_at "ev") => `(tactic| first
  | exact ev_var rfl | exact ev_int | exact ev_bl | exact ev_non | exact ev_str | exact ev_ty | assumption
  | (refine' ev_op ?ka ?kb ?kc; (case ka => walk_at "ev"); (case kb => walk_at "ev"); (case kc => walk_at "rd"))
  | (refine' ev_un ?ka; (case ka => walk_at "ev"))
  | (refine' ev_tup ?ka ?kb; (case ka => walk_at "ea"); (case kb => walk_at "side"))
  | (refine' ev_cb ?ka ?kb; (case ka => walk_at "ea"); (case kb => walk_at "rc"))
  | (refine' ev_sliceT ?ka ?kb ?kc; (case ka => walk_at "ev"); (case kb => walk_at "eo"); (case kc => walk_at "eo"))
  | (refine' ev_notV ?ka; (case ka => walk_at "ev"))
  | (refine' EvN.toD ?ka; (case ka => walk_at "en")))
local macro_rules | `(tactic| walk_at "n") => `(tactic| dsimp only [List.set_cons_zero, List.set_cons_succ, List.map_cons, List.map_nil, List.cons_append, List.nil_append, List.length_cons, List.length_nil, Nat.add_sub_cancel, List.replicate])
section
variable {P : Program} {w : World} {K : PySem.W.Frag} {mg : Str → Option Value} {base : Heap}
/-- the same value on both sides: a whole number, or a tuple -/
def R_sameS (R0 : List Dt → Dt → Prop) : List Dt → Dt → Prop := fun ds d => d = .bl true ∧ ((∃ z : Int, ds = [.int z, .int z]) ∨ (∃ l : List Dt, ds = [.tup l, .tup l] ∧ l.length ≤ 1000 ∧ ∀ e ∈ l, R0 [e, e] (.bl true)))
theorem no_cal {f : Addr} {fd : FuncData} {x : Str} {ps : List Str} (m : mg x = some (.ref f)) (kp : PySem.W.keepIn K (.ref f) = true) (b : Binds K fd ps []) : Cal P w K mg base 0 x ps (SpD fun _ _ => False) :=
  Cal.of ⟨fun vs H Q E h => by obtain ⟨_, _, _, _, _, h, _⟩ := h; exact h.elim, fun A outer s H args us vs Q E _ _ _ _ h => by obtain ⟨_, _, _, _, _, h, _⟩ := h; exact h.elim⟩ m kp b
section
variable {env : Env_} {mus : Mu} {te ta tb : TE}
theorem ei_int {t : String} {z : Int} {b : Bool} (he : EvD te env mus (.int z)) (h2 : kitB "int" t = some b) : EvD (tCB (rIsi K) (tCons te (tCons (tC (.ty t)) tNil))) env mus (.bl b) := ev_cb (ea_cons he (ea_cons ev_ty ea_nil)) (rc_isi (show "int" ≠ "?" by decide) h2)
theorem ei_tup {t : String} {l : List Dt} {b : Bool} (he : EvD te env mus (.tup l)) (h2 : kitB "tuple" t = some b) : EvD (tCB (rIsi K) (tCons te (tCons (tC (.ty t)) tNil))) env mus (.bl b) := ev_cb (ea_cons he (ea_cons ev_ty ea_nil)) (rc_isi (show "tuple" ≠ "?" by decide) h2)
theorem ei2_int {z : Int} (he : EvD te env mus (.int z)) : EvD (tCB (rIsiT K) (tCons te (tCons (tTup (tCons (tC (.ty "int")) (tCons (tC (.ty "str")) tNil))) tNil))) env mus (.bl true) := ev_cb (ea_cons he (ea_cons (ev_tup (ea_cons ev_ty (ea_cons ev_ty ea_nil)) (show 2 ≤ 100000 by decide)) ea_nil)) (rc_isiT (b1 := true) (b2 := false) (show "int" ≠ "?" by decide) (show kitB "int" "int" = some true by decide +kernel) (show kitB "int" "str" = some false by decide +kernel))
theorem ei2_tup {l : List Dt} (he : EvD te env mus (.tup l)) : EvD (tCB (rIsiT K) (tCons te (tCons (tTup (tCons (tC (.ty "int")) (tCons (tC (.ty "str")) tNil))) tNil))) env mus (.bl false) := ev_cb (ea_cons he (ea_cons (ev_tup (ea_cons ev_ty (ea_cons ev_ty ea_nil)) (show 2 ≤ 100000 by decide)) ea_nil)) (rc_isiT (b1 := false) (b2 := false) (show "tuple" ≠ "?" by decide) (show kitB "tuple" "int" = some false by decide +kernel) (show kitB "tuple" "str" = some false by decide +kernel))
theorem et_isN0 {d : Dt} (h : EvD te env mus d) (hd : d ≠ .non) : EvT (tTest (tOp (fun x y H Q => y = .non ∧ Q (.bl (decide (x = .non))) H) te (tC .non))) env mus false := (et_test (ev_op h ev_non (rd_isN0 hd))).is rfl
theorem et_neBF {a : Bool} (ha : EvD ta env mus (.bl a)) (hb : EvD tb env mus (.bl a)) : EvT (tTest (tOp rNe ta tb)) env mus false := (et_test (ev_op ha hb rd_neB)).is (by cases a <;> rfl)
end
abbrev s_L_same : Stmt := topS 18
theorem sc_L_same : FnScope ["_law_found", "_law_due", "_law_one", "_law_other"] ["_law_found", "_law_due"] (defScope s_L_same) := ⟨rfl, rfl, rfl, by decide +kernel, rfl, by decide +kernel, by decide +kernel⟩
theorem ok_L_same {k : Nat} {R0 : List Dt → Dt → Prop} {f : Addr} {fd : FuncData} (F : Fun K "_law_same" "_law_same" s_L_same f fd) (Z : Bz mg) (C_L_same : Cal P w K mg base k "_law_same" ["_law_found", "_law_due"] (SpD R0)) : FnOk P w K mg base CX0 (k + 1) f fd ["_law_found", "_law_due"] (SpD (R_sameS R0)) := by
  refine ok_pure F sc_L_same (fun ds d h => ?_) fun cdv A outer s H E hr => ?_
  · obtain ⟨_, ⟨z, rfl⟩ | ⟨l, rfl, _⟩⟩ := h <;> rfl
  · have nd := sc_L_same.nd
    refine ⟨_, (pss_cons (ps_if (PW.pt (pw_or (pt_cmpR op_isN (pv 1) pe_non (nomark _)) (pw_or1 (pt_cmpR op_isN (pv 0) pe_non (nomark _))))) (pss_one (ps_ret (pe_and (pe_cmpR op_isN (pv 1) pe_non (nomark _)) (pe_one (pe_cmpR op_isN (pv 0) pe_non (nomark _)))))) pss_nil)
      (pss_cons (ps_if (PW.pt (pw_or (pt_val (pe_callB (call_isiK' (K := K) rfl) (by rfl) Z.isinstance (by decide +kernel) (pa_cons (pv 1) (pa_cons (pe_bltn (v := .ty "bool") (by rfl) Z.bool (by decide +kernel) rfl) pa_nil)))) (pw_or1 (pt_val (pe_callB (call_isiK' (K := K) rfl) (by rfl) Z.isinstance (by decide +kernel) (pa_cons (pv 0) (pa_cons (pe_bltn (v := .ty "bool") (by rfl) Z.bool (by decide +kernel) rfl) pa_nil))))))) (pss_one (ps_ret (pe_and (pe_callB (call_isiK' (K := K) rfl) (by rfl) Z.isinstance (by decide +kernel) (pa_cons (pv 1) (pa_cons (pe_bltn (v := .ty "bool") (by rfl) Z.bool (by decide +kernel) rfl) pa_nil))) (pe_and (pe_callB (call_isiK' (K := K) rfl) (by rfl) Z.isinstance (by decide +kernel) (pa_cons (pv 0) (pa_cons (pe_bltn (v := .ty "bool") (by rfl) Z.bool (by decide +kernel) rfl) pa_nil))) (pe_one (pe_cmpR op_eq (pv 0) (pv 1) (nomark _))))))) pss_nil)
      (pss_cons (ps_if (pt_val (pe_callB (call_isiTK (K := K) rfl) (by rfl) Z.isinstance (by decide +kernel) (pa_cons (pv 1) (pa_cons (pe_tup (pa_cons (pe_bltn (v := .ty "int") (by rfl) Z.int (by decide +kernel) rfl) (pa_cons (pe_bltn (v := .ty "str") (by rfl) Z.str (by decide +kernel) rfl) pa_nil))) pa_nil)))) (pss_cons (ps_if (pt_cmpR op_ne (pe_callB (call_isiK' (K := K) rfl) (by rfl) Z.isinstance (by decide +kernel) (pa_cons (pv 0) (pa_cons (pe_bltn (v := .ty "int") (by rfl) Z.int (by decide +kernel) rfl) pa_nil))) (pe_callB (call_isiK' (K := K) rfl) (by rfl) Z.isinstance (by decide +kernel) (pa_cons (pv 1) (pa_cons (pe_bltn (v := .ty "int") (by rfl) Z.int (by decide +kernel) rfl) pa_nil))) (nomark _)) (pss_one (ps_ret pe_bl)) pss_nil)
      (pss_one (ps_ret (pe_and (pe_callB (call_isiTK (K := K) rfl) (by rfl) Z.isinstance (by decide +kernel) (pa_cons (pv 0) (pa_cons (pe_tup (pa_cons (pe_bltn (v := .ty "int") (by rfl) Z.int (by decide +kernel) rfl) (pa_cons (pe_bltn (v := .ty "str") (by rfl) Z.str (by decide +kernel) rfl) pa_nil))) pa_nil))) (pe_one (pe_cmpR op_eq (pv 0) (pv 1) (nomark _))))))) pss_nil)
      (pss_cons (ps_if (PW.pt (pw_or (pt_cmpR op_ne (pe_callB (call_isiK' (K := K) rfl) (by rfl) Z.isinstance (by decide +kernel) (pa_cons (pv 1) (pa_cons (pe_bltn (v := .ty "tuple") (by rfl) Z.tuple (by decide +kernel) rfl) pa_nil))) (pe_callB (call_isiK' (K := K) rfl) (by rfl) Z.isinstance (by decide +kernel) (pa_cons (pv 0) (pa_cons (pe_bltn (v := .ty "tuple") (by rfl) Z.tuple (by decide +kernel) rfl) pa_nil))) (nomark _)) (pw_or1 (pt_cmpR op_ne (pe_callB (call_isiK' (K := K) rfl) (by rfl) Z.isinstance (by decide +kernel) (pa_cons (pv 1) (pa_cons (pe_bltn (v := .ty "list") (by rfl) Z.list (by decide +kernel) rfl) pa_nil))) (pe_callB (call_isiK' (K := K) rfl) (by rfl) Z.isinstance (by decide +kernel) (pa_cons (pv 0) (pa_cons (pe_bltn (v := .ty "list") (by rfl) Z.list (by decide +kernel) rfl) pa_nil))) (nomark _))))) (pss_one (ps_ret pe_bl)) pss_nil)
      (pss_cons (ps_if (pt_cmpR op_ne (pe_callB (call_lenK (K := K) rfl) (by rfl) Z.len (by decide +kernel) (pa_cons (pv 0) pa_nil)) (pe_callB (call_lenK (K := K) rfl) (by rfl) Z.len (by decide +kernel) (pa_cons (pv 1) pa_nil)) (nomark _)) (pss_one (ps_ret pe_bl)) pss_nil)
      (pss_one (ps_ret (pe_cmpR (op_notInK (K := K) rfl) pe_bl (pe_lc (own := [("_law_one", 2), ("_law_other", 3)]) (g := (gTup K 2 (gCons (gName 2) (gCons (gName 3) gNil)))) (tt := tYes) rfl nd (RZ.pi_zipA (by rfl) Z.zip (pa_cons (pv 0) (pa_cons (pv 1) pa_nil))) (blkOk_by (N := ["_law_found", "_law_due", "_law_one", "_law_other"]) (sc := defScope s_L_same) (by decide +kernel)) (fun _ _ _ _ _ => (pg_tup rfl (pgs_cons (pg_name (i := 2) nd rfl (Or.inl rfl)) (pgs_cons (pg_name (i := 3) nd rfl (Or.inl rfl)) pgs_nil)))) (fun _ _ _ _ _ => pts_nil) (fun _ _ _ _ _ => (pe_cal C_L_same hr (Nat.le_refl _) (by rfl) (pa_cons (pv 2) (pa_cons (pv 3) pa_nil))))) rfl)))))))), fun ds d h B F0 D q => ?_⟩
    obtain ⟨rfl, ⟨z, rfl⟩ | ⟨l, rfl, hl, hR⟩⟩ := h
    · show Tr B F0 F0 [some (.int z), some (.int z), none, none] [] _
      refine t_seq ?_
      walk_at "n"
      refine t_ifF (et_orFF (et_isN0 (ev_var rfl) (by intro z; cases z)) (et_isN0 (ev_var rfl) (by intro z; cases z))) ?_
      refine t_next ?_
      walk_at "n"
      refine t_seq ?_
      refine t_ifF (et_orFF (et_B (ei_int (ev_var rfl) (by decide +kernel))) (et_B (ei_int (ev_var rfl) (by decide +kernel)))) ?_
      refine t_next ?_
      walk_at "n"
      refine t_seq ?_
      refine t_ifT (et_B (ei2_int (ev_var rfl))) ?_
      refine t_seq ?_
      refine t_ifF (et_neBF (ei_int (ev_var rfl) (b := true) (by decide +kernel)) (ei_int (ev_var rfl) (b := true) (by decide +kernel))) ?_
      refine t_next ?_
      refine t_ret (d := .bl true) (EvD.is (ev_andV (a := true) (b := true) (ei2_int (ev_var rfl)) fun _ => (ev_op (d1 := .int z) (d2 := .int z) (ev_var rfl) (ev_var rfl) rd_eq).is ?_) rfl) fun v F' H' g _ r => q v F' H' g r
      rw [decide_eq_true rfl]
    · show Tr B F0 F0 [some (.tup l), some (.tup l), none, none] [] _
      refine t_seq ?_
      walk_at "n"
      refine t_ifF (et_orFF (et_isN0 (ev_var rfl) (by intro z; cases z)) (et_isN0 (ev_var rfl) (by intro z; cases z))) ?_
      refine t_next ?_
      walk_at "n"
      refine t_seq ?_
      refine t_ifF (et_orFF (et_B (ei_tup (ev_var rfl) (by decide +kernel))) (et_B (ei_tup (ev_var rfl) (by decide +kernel)))) ?_
      refine t_next ?_
      walk_at "n"
      refine t_seq ?_
      refine t_ifF (et_B (ei2_tup (ev_var rfl))) ?_
      refine t_next ?_
      walk_at "n"
      refine t_seq ?_
      refine t_ifF (et_orFF (et_neBF (ei_tup (ev_var rfl) (b := true) (by decide +kernel)) (ei_tup (ev_var rfl) (b := true) (by decide +kernel))) (et_neBF (ei_tup (ev_var rfl) (b := false) (by decide +kernel)) (ei_tup (ev_var rfl) (b := false) (by decide +kernel)))) ?_
      refine t_next ?_
      walk_at "n"
      refine t_seq ?_
      refine t_ifF (et_neF (ev_cb (ea_cons (ev_var rfl) ea_nil) rc_lenT) (ev_cb (ea_cons (ev_var rfl) ea_nil) rc_lenT) rfl) ?_
      refine t_next ?_
      walk_at "n"
      refine t_ret (d := .bl true) (EvD.is (ev_op ev_bl (EvD.is (EvN.toD (en_lcI (is := [2, 3]) (ds := zpD l l) (it_zipAT (ea_cons (ev_var rfl) (ea_cons (ev_var rfl) ea_nil))) (by simp) .nil (by simp) (fun _ => Dt.bl true) (fun i d hd => ?_) ?_)) (by rw [allBl])) rd_inB) ?_) fun v F' H' g _ r => q v F' H' g r
      · obtain ⟨a, b, ea, eb, rfl⟩ := zpD_get hd
        rw [ea] at eb
        have e := Option.some.inj eb
        subst e
        exact ⟨_, gd_tup2, ev_call (ea_cons (ev_var rfl) (ea_cons (ev_var rfl) ea_nil)) (hR a (List.mem_of_getElem? ea))⟩
      · rw [zpD_len]
        omega
      · simp
end
end KB
namespace KB
open PySem PySem.Spec PyProof.Rows L2
/-! ### dicts whose keys are tuples of ints, in plain Lean -/
section
variable {κ : Type} [DecidableEq κ]
def getT : List (κ × Int) → κ → Option Int
  | [], _ => none
  | p :: r, k => if p.1 = k then some p.2 else getT r k
def putT : List (κ × Int) → κ → Int → List (κ × Int)
  | [], k, v => [(k, v)]
  | p :: r, k, v => if p.1 = k then (k, v) :: r else p :: putT r k v
theorem getT_none {k : κ} : ∀ {kvs : List (κ × Int)}, getT kvs k = none ↔ k ∉ kvs.map (·.1)
  | [] => by simp [getT]
  | p :: r => by
    rw [getT]
    by_cases e : p.1 = k
    · rw [if_pos e]
      simp [e]
    · rw [if_neg e, getT_none (kvs := r), List.map_cons, List.mem_cons, not_or]
      exact ⟨fun h => ⟨fun z => e z.symm, h⟩, fun h => h.2⟩
theorem getT_put {k j : κ} {v : Int} : ∀ {kvs : List (κ × Int)}, getT (putT kvs k v) j = if k = j then some v else getT kvs j
  | [] => by
    simp [putT, getT]
  | p :: r => by
    rw [putT]
    by_cases e : p.1 = k
    · rw [if_pos e, getT, getT]
      by_cases e2 : k = j
      · rw [if_pos e2, if_pos e2]
      · rw [if_neg e2, if_neg e2, if_neg (fun z => e2 (e.symm.trans z))]
    · rw [if_neg e, getT, getT, getT_put (kvs := r)]
      by_cases e2 : p.1 = j
      · rw [if_pos e2, if_neg (fun z => e (e2.trans z.symm)), if_pos e2]
      · rw [if_neg e2, if_neg e2]
theorem putT_keys {k : κ} {v : Int} : ∀ {kvs : List (κ × Int)} (x : κ), x ∈ (putT kvs k v).map (·.1) ↔ x = k ∨ x ∈ kvs.map (·.1)
  | [], x => by simp [putT]
  | p :: r, x => by
    rw [putT]
    by_cases e : p.1 = k
    · rw [if_pos e, List.map_cons, List.map_cons, List.mem_cons, List.mem_cons, e]
      constructor
      · rintro (h | h)
        · exact .inl h
        · exact .inr (.inr h)
      · rintro (h | h | h)
        · exact .inl h
        · exact .inl h
        · exact .inr h
    · rw [if_neg e, List.map_cons, List.map_cons, List.mem_cons, List.mem_cons, putT_keys (kvs := r) x]
      constructor
      · rintro (h | h | h)
        · exact .inr (.inl h)
        · exact .inl h
        · exact .inr (.inr h)
      · rintro (h | h | h)
        · exact .inr (.inl h)
        · exact .inl h
        · exact .inr (.inr h)
theorem putT_nodup {k : κ} {v : Int} : ∀ {kvs : List (κ × Int)}, (kvs.map (·.1)).Nodup → ((putT kvs k v).map (·.1)).Nodup
  | [], _ => by simp [putT]
  | p :: r, h => by
    rw [List.map_cons, List.nodup_cons] at h
    rw [putT]
    by_cases e : p.1 = k
    · rw [if_pos e, List.map_cons, List.nodup_cons]
      rw [e] at h
      exact h
    · rw [if_neg e, List.map_cons, List.nodup_cons]
      refine ⟨fun z => ?_, putT_nodup h.2⟩
      rcases (putT_keys p.1).mp z with z | z
      · exact e z
      · exact h.1 z
theorem getT_mem {k : κ} {v : Int} : ∀ {kvs : List (κ × Int)}, (kvs.map (·.1)).Nodup → (k, v) ∈ kvs → getT kvs k = some v
  | [], _, h => nomatch h
  | p :: r, hn, h => by
    rw [List.map_cons, List.nodup_cons] at hn
    rw [getT]
    rcases List.mem_cons.mp h with e | e
    · rw [← e, if_pos rfl]
    · rw [if_neg (fun z => hn.1 (by rw [z]; exact List.mem_map.mpr ⟨_, e, rfl⟩)), getT_mem hn.2 e]
end
theorem inl_inj : ∀ {a b : List Int}, a.map (Sum.inl : Int → Key) = b.map Sum.inl → a = b
  | [], [], _ => rfl
  | [], _ :: _, h => by cases h
  | _ :: _, [], h => by cases h
  | x :: a, y :: b, h => by
    rw [List.map_cons, List.map_cons] at h
    obtain ⟨h1, h2⟩ := List.cons.inj h
    rw [Sum.inl.inj h1, inl_inj h2]
theorem valV_dTof (k : List Int) : ∀ kvs : List (List Int × Int), valV (dTof kvs) (k.map (Sum.inl : Int → Key)) = (getT kvs k).map V.int
  | [] => rfl
  | p :: r => by
    have ih := valV_dTof k r
    rw [getT]
    show valV ((p.1.map Sum.inl, V.int p.2) :: dTof r) _ = _
    by_cases e : p.1 = k
    · rw [if_pos e, valV_pos (by rw [e])]
      rfl
    · rw [if_neg e, valV_neg (fun z => e (inl_inj z)), ih]
theorem putK_cons_pos {k : List Key} {v : V} {p : List Key × V} {r : List (List Key × V)} (e : p.1 = k) (hn : ∀ q ∈ r, ¬ q.1 = k) : putK (p :: r) k v = (k, v) :: r := by
  unfold putK
  rw [if_pos (by simp [e]), List.map_cons, if_pos e, e]
  congr 1
  conv => rhs; rw [← List.map_id r]
  refine List.map_congr_left fun q hq => ?_
  rw [if_neg (hn q hq)]
  rfl
theorem putK_cons_neg {k : List Key} {v : V} {p : List Key × V} {r : List (List Key × V)} (e : ¬ p.1 = k) : putK (p :: r) k v = p :: putK r k v := by
  unfold putK
  rw [List.any_cons, decide_eq_false e, Bool.false_or]
  by_cases h : (r.any fun kv => decide (kv.1 = k)) = true
  · rw [if_pos h, if_pos h, List.map_cons, if_neg e]
  · rw [if_neg h, if_neg h, List.cons_append]
theorem putK_dTof (k : List Int) (v : Int) : ∀ kvs : List (List Int × Int), (kvs.map (·.1)).Nodup → putK (dTof kvs) (k.map (Sum.inl : Int → Key)) (V.int v) = dTof (putT kvs k v)
  | [], _ => rfl
  | p :: r, h => by
    rw [List.map_cons, List.nodup_cons] at h
    have ih := putK_dTof k v r h.2
    rw [putT]
    show putK ((p.1.map Sum.inl, V.int p.2) :: dTof r) _ _ = _
    by_cases e : p.1 = k
    · rw [if_pos e, putK_cons_pos (by rw [e]) fun q hq z => ?_]
      · rfl
      · obtain ⟨q', hq', rfl⟩ := List.mem_map.mp hq
        refine h.1 ?_
        rw [e, ← inl_inj z]
        exact List.mem_map.mpr ⟨q', hq', rfl⟩
    · rw [if_neg e, putK_cons_neg (fun z => e (inl_inj z)), ih]
      rfl

/-! ### the dict rules -/
section
variable {B F0 X : Hp} {env : Env_} {mus : Mu} {ta tb te td ty tx tv : TE} {d d2 : Dt} {ds es : List Dt} {D : Ends} {i j k : Nat} {t1 t2 ts : TS} {tc : TT} {K : PySem.W.Frag} {kvs : List (List Int × Int)} {ks : List Int} {v z : Int} {p : Addr}
theorem key_at {F H : Hp} (hf : Same F H) {y : V} (h : Rp F (.tup (ks.map Dt.int)) y) : ∃ b, y = .ref b ∧ H b = some (.tup ((ks.map (Sum.inl : Int → Key)).map kV)) := by
  obtain ⟨b, xs, rfl, hb, hx⟩ := rp_tup.mp h
  refine ⟨b, rfl, ?_⟩
  rw [hf _ _ hb, RpL.ints hx, List.map_map]
  rfl
def DicIn (mus : Mu) (p : Addr) (kvs : List (List Int × Int)) : Prop := (p, MO.dic kvs) ∈ mus ∨ ∃ o, (p, MO.frz o kvs) ∈ mus
theorem DicIn.rd {F H : Hp} (hm : DicIn mus p kvs) (M : MS mus F H) : Rd H p (.dT (dTof kvs)) := by
  rcases hm with h | ⟨o, h⟩
  · obtain ⟨_, u, e, r⟩ := M.mu _ h
    exact .inl (by rw [e]; exact congrArg some r)
  · obtain ⟨_, u, e, r⟩ := M.mu _ h
    exact .inr ⟨o, by rw [e]; exact congrArg some r⟩
theorem ev_dget (hm : DicIn mus p kvs) (hd : EvD td env mus (.ptr p)) (hy : EvD ty env mus (.tup (ks.map Dt.int))) (hg : getT kvs ks = some v) : EvD (tDGet td ty) env mus (.int v) := fun F σ H M E Q q =>
  hd F σ H M E _ fun x F1 H1 g1 r1 => hy F1 σ H1 (M.grow g1) (E.mono g1.ff) _ fun y F2 H2 g2 r2 => by
    have M2 := (M.grow g1).grow g2
    obtain ⟨b, rfl, hb⟩ := key_at M2.fh r2
    refine ⟨p, .int v, rp_ptr.mp r1, .inr ⟨dTof kvs, ks.map Sum.inl, b, hm.rd M2, rfl, hb, ?_⟩, q _ F2 H2 (g1.trans g2) (rp_int.mpr rfl)⟩
    rw [valV_dTof, hg]
    rfl
theorem ev_dget2 (hm : DicIn mus p kvs) (hd : EvD td env mus (.ptr p)) (hy : EvD ty env mus (.tup (ks.map Dt.int))) (hx : EvD tx env mus (.int z)) : EvD (tDGet2 td ty tx) env mus (.int ((getT kvs ks).getD z)) := fun F σ H M E Q q =>
  hd F σ H M E _ fun x F1 H1 g1 r1 => ⟨p, rp_ptr.mp r1, .inr ⟨_, hm.rd (M.grow g1)⟩, hy F1 σ H1 (M.grow g1) (E.mono g1.ff) _ fun y F2 H2 g2 r2 => hx F2 σ H2 ((M.grow g1).grow g2) ((E.mono g1.ff).mono g2.ff) _ fun z' F3 H3 g3 r3 => by
    have M3 := ((M.grow g1).grow g2).grow g3
    obtain ⟨b, rfl, hb⟩ := key_at M3.fh (r2.mono g3.ff)
    refine ⟨_, .inr ⟨dTof kvs, ks.map Sum.inl, b, hm.rd M3, rfl, hb, rfl⟩, ?_⟩
    rw [valV_dTof, rp_int.mp r3]
    have e : ((getT kvs ks).map V.int).getD (.int z) = .int ((getT kvs ks).getD z) := by cases getT kvs ks <;> rfl
    rw [e]
    exact q _ F3 H3 ((g1.trans g2).trans g3) (rp_int.mpr rfl)⟩
/-- found = {} -/
theorem t_asgDic (k : ∀ p, Tr B F0 X (env.set i (some (.ptr p))) ((p, .dic []) :: mus) D.nx) : Tr B F0 X env mus (tAsg tDNewT (gName i) D) := fun σ H a => by
  obtain ⟨F, g0, M, E, hB⟩ := a
  intro p hp
  obtain ⟨b0, hne⟩ := newkey g0 M hp
  have g1 : Gr H F F (upd H p (.dT [])) := Gr.newM M.fh hp
  have n1 : F p = none := M.fh.free hp
  have M1 := (M.grow g1).cons (m := .dic []) n1 upd_same rfl hne
  refine k p _ _ ⟨F, g0.trans g1, M1, (E.mono g1.ff).set (rp_ptr.mpr rfl), fun m hm => ?_⟩
  rcases List.mem_cons.mp hm with z | z
  · rw [z]; exact b0
  · exact hB m z
/-- found[key] = number -/
theorem t_dput (hj : mus[j]? = some (p, .dic kvs)) (hn : (kvs.map (·.1)).Nodup) (hl : kvs.length < 100000) (hv : EvD tv env mus (.int v)) (hd : EvD td env mus (.ptr p)) (hy : EvD ty env mus (.tup (ks.map Dt.int)))
    (k : Tr B F0 X env (mus.set j (p, .dic (putT kvs ks v))) D.nx) : Tr B F0 X env mus (sDPut td ty tv D) := fun σ H a => by
  obtain ⟨F, g0, M, E, hB⟩ := a
  refine hv F σ H M E _ fun x F1 H1 g1 r1 => hd F1 σ H1 (M.grow g1) (E.mono g1.ff) _ fun y F2 H2 g2 r2 => hy F2 σ H2 ((M.grow g1).grow g2) ((E.mono g1.ff).mono g2.ff) _ fun kk F3 H3 g3 r3 => ?_
  have M3 := ((M.grow g1).grow g2).grow g3
  obtain ⟨b, rfl, hb⟩ := key_at M3.fh r3
  obtain ⟨_, o, e, ro⟩ := M3.mu _ (List.mem_of_getElem? hj)
  have e2 : H3 p = some (.dT (dTof kvs)) := by rw [e]; exact congrArg some ro
  refine ⟨p, upd H3 p (.dT (dTof (putT kvs ks v))), rp_ptr.mp r2, .inr ⟨dTof kvs, ks.map Sum.inl, b, e2, rfl, hb, ?_, ?_⟩, k _ _ ?_⟩
  · rw [sizeLine_eq]
    unfold dTof
    rw [List.length_map]
    omega
  · rw [rp_int.mp r1, putK_dTof ks v kvs hn]
  · exact AS.put (((g0.trans g1).trans g2).trans g3) M3 (((E.mono g1.ff).mono g2.ff).mono g3.ff) hB hj rfl
/-- for key in found: the walk's lock -/
theorem t_lock {t : TS} (hj : mus[j]? = some (p, .dic kvs))
    (k : ∀ o, Tr B F0 X env (mus.set j (p, .frz o kvs)) (t ⟨fun σ' H' => H' p = some (.frz o (.dT (dTof kvs))) ∧ D.nx σ' (upd H' p (.dT (dTof kvs))), fun v H' => H' p = some (.frz o (.dT (dTof kvs))) ∧ D.rt v (upd H' p (.dT (dTof kvs))), fun σ' H' => H' p = some (.frz o (.dT (dTof kvs))) ∧ D.bk σ' (upd H' p (.dT (dTof kvs))), fun σ' H' => H' p = some (.frz o (.dT (dTof kvs))) ∧ D.ct σ' (upd H' p (.dT (dTof kvs)))⟩)) :
    Tr B F0 X env mus (tLock t D) := fun σ H a => by
  obtain ⟨F, g0, M, E, hB⟩ := a
  obtain ⟨_, o, e, ro⟩ := M.mu _ (List.mem_of_getElem? hj)
  have e2 : H p = some (.dT (dTof kvs)) := by rw [e]; exact congrArg some ro
  exact ⟨p, _, e2, trivial, fun od => k od _ _ (AS.put g0 M E hB hj rfl)⟩
theorem t_unlock {o : Obj} {T : L2.St → Hp → Prop} (hj : mus[j]? = some (p, .frz o kvs)) (k : Tr B F0 X env (mus.set j (p, .dic kvs)) T) :
    Tr B F0 X env mus (fun σ' H' => H' p = some (.frz o (.dT (dTof kvs))) ∧ T σ' (upd H' p (.dT (dTof kvs)))) := fun σ H a => by
  obtain ⟨F, g0, M, E, hB⟩ := a
  obtain ⟨_, u, e, ro⟩ := M.mu _ (List.mem_of_getElem? hj)
  exact ⟨by rw [e]; exact congrArg some ro, k _ _ (AS.put g0 M E hB hj rfl)⟩
/-- the keys of a dict -/
theorem it_keys {o : Obj} (hm : (p, MO.frz o kvs) ∈ mus) (h : EvD td env mus (.ptr p)) : ItL (iKeys td) env mus [(p, .frz o kvs)] (kvs.map fun kv => .tup (kv.1.map Dt.int)) := fun F σ H M E R q =>
  h F σ H M E _ fun x F1 H1 g1 r1 => by
    have look : ∀ {mus : Mu} {F H : Hp}, MS mus F H → (p, MO.frz o kvs) ∈ mus → H p = some (.frz o (.dT (dTof kvs))) := fun M hm => by
      obtain ⟨_, u, e, ro⟩ := M.mu _ hm
      rw [e]
      exact congrArg some ro
    have hl : (dTof kvs).length = (kvs.map fun kv => Dt.tup (kv.1.map Dt.int)).length := by
      unfold dTof
      rw [List.length_map, List.length_map]
    refine ⟨p, o, rp_ptr.mp r1, .inr ⟨dTof kvs, look (M.grow g1) hm, q _ F1 H1 g1 ⟨fun i F2 H2 hi s m => ⟨look m (List.mem_singleton.mpr rfl), ?_⟩, fun F2 H2 s m => ⟨look m (List.mem_singleton.mpr rfl), ?_⟩, fun i d F2 H2 x H3 hd s m y => ?_⟩⟩⟩
    · rw [hl]; exact hi
    · rw [hl]; exact Nat.le_refl _
    · obtain ⟨rfl, kk, vv, q', hk, rfl, hq⟩ := y
      unfold dTof at hk
      rw [List.getElem?_map] at hk hd
      obtain ⟨kv, hkv, e⟩ := Option.map_eq_some_iff.mp hk
      rw [hkv] at hd
      have ed : Dt.tup (kv.1.map Dt.int) = d := Option.some.inj hd
      have ek : kv.1.map Sum.inl = kk := congrArg Prod.fst e
      rw [← ek, List.map_map] at hq
      have hq2 : H3 q' = some (.tup (kv.1.map V.int)) := hq
      rw [← ed]
      by_cases hf : F2 q' = none
      · refine ⟨upd F2 q' (.tup (kv.1.map V.int)), ⟨same_new hf, fun b x e => ?_, Same.refl H3, fun a u e n => upd_ne fun z => ?_⟩, rp_tup.mpr ⟨q', _, rfl, upd_same, RpL.ofInts _⟩⟩
        · by_cases hb : b = q'
          · subst hb
            rw [upd_same] at e
            rw [hq2, ← e]
          · rw [upd_ne hb] at e
            exact m.fh b x e
        · rw [z, hq2] at e
          exact n _ (Option.some.inj e).symm
      · cases hfv : F2 q' with
        | none => exact absurd hfv hf
        | some u =>
          have := m.fh _ _ hfv
          rw [hq2] at this
          refine ⟨F2, Gr.refl m.fh, rp_tup.mpr ⟨q', _, rfl, ?_, RpL.ofInts _⟩⟩
          rw [hfv, ← this]
end
end KB
namespace KB
open PySem PySem.Spec PyProof.Rows L2
local macro_rules | `(tactic| walk_at "at") => `(tactic| first | assumption | (exact atI_nat (j := 0) rfl) | (exact atI_nat (j := 1) rfl) | (exact atI_nat (j := 2) rfl) | (exact atI_nat (by assumption)) | (exact atI_map _ (by assumption)) | (exact atI_of (by assumption) (by omega)))
local macro_rules | `(tactic| walk_at "side") => `(tactic| first | assumption | decide | omega | (simp; done))
local macro_rules | `(tactic| walk_at "rd") => `(tactic| first
  | exact rd_addI | exact rd_i0 | exact rd_b0 | exact rd_eq | exact rd_ne | exact rd_neB
  | (refine' rd_xT ?ka; (case ka => walk_at "at")) | (refine' rd_xL ?ka; (case ka => walk_at "at")) | (refine' rd_xM ?kb ?ka; (case kb => simp; done); (case ka => walk_at "at"))
  | (refine' rd_mulI ?ka; (case ka => walk_at "side"))
  | (refine' rd_addT ?ka; (case ka => walk_at "side"))
  | (refine' rd_i ?ka; (case ka => walk_at "side"))
  | exact rd_isN | (exact rd_isN0 (by intro z; cases z)) | exact rd_notN | (exact rd_notN1 (by intro z; cases z)) | exact rd_inB | exact rd_inT)
local macro_rules | `(tactic| walk_at "rc") => `(tactic| first | exact rc_lenT | exact rc_lenL | (refine' rc_lenM ?ka; (case ka => simp; done)) | exact rc_sumXL | exact rc_sumXT | (refine' rc_sumXM ?ka; (case ka => simp; done)) | exact rc_tupL | (refine' rc_tupM ?ka; (case ka => simp; done)) | exact rc_int | exact rc_min2 | (exact rc_isi (by decide) (by decide +kernel)) | (exact rc_isiT (by decide) (by decide +kernel) (by decide +kernel)))
local macro_rules | `(tactic| walk_at "eo") => `(tactic| first | exact eo_none | (refine' eo_some ?ka; (case ka => walk_at "ev")))
local macro_rules | `(tactic| walk_at "ea") => `(tactic| first | exact ea_nil | (refine' ea_cons ?ka ?kb; (case ka => walk_at "ev"); (case kb => walk_at "ea")))
local macro_rules | `(tactic| walk_at "en") => `(tactic| first
  | (refine' en_lst ?ka ?kb; (case ka => walk_at "ea"); (case kb => walk_at "side"))
  | (refine' en_sliceL ?ka ?kb ?kc; (case ka => walk_at "ev"); (case kb => walk_at "eo"); (case kc => walk_at "eo"))
  | (refine' en_op ?ka ?kb ?kc; (case ka => walk_at "ev"); (case kb => walk_at "ev"); (case kc => first | (refine' rn_addL ?kd; (case kd => walk_at "side")) | (refine' rn_mulL ?kd ?ke ?kf; (case kd => walk_at "side"); (case ke => walk_at "side"); (case kf => walk_at "side")))))
local macro_rules | `(tactic| walk_at "ev") => `(tactic| first
  | exact ev_var rfl | exact ev_int | exact ev_bl | exact ev_non | exact ev_str | exact ev_ty | assumption
  | (refine' ev_op ?ka ?kb ?kc; (case ka => walk_at "ev"); (case kb => walk_at "ev"); (case kc => walk_at "rd"))
  | (refine' ev_un ?ka; (case ka => walk_at "ev"))
  | (refine' ev_tup ?ka ?kb; (case ka => walk_at "ea"); (case kb => walk_at "side"))
  | (refine' ev_cb ?ka ?kb; (case ka => walk_at "ea"); (case kb => walk_at "rc"))
  | (refine' ev_sliceT ?ka ?kb ?kc; (case ka => walk_at "ev"); (case kb => walk_at "eo"); (case kc => walk_at "eo"))
  | (refine' ev_notV ?ka; (case ka => walk_at "ev"))
  | (refine' EvN.toD ?ka; (case ka => walk_at "en")))
local macro_rules | `(tactic| walk_at "n") => `(tactic| dsimp only [List.set_cons_zero, List.set_cons_succ, List.map_cons, List.map_nil, List.cons_append, List.nil_append, List.length_cons, List.length_nil, Nat.add_sub_cancel, List.replicate])
section
variable {P : Program} {w : World} {K : PySem.W.Frag} {mg : Str → Option Value} {base : Heap}
/-! ### the table of least values, in plain Lean -/
abbrev Tbl := List (List Nat × Int)
def hrs : List (List Jb) → List Nat → Int
  | s :: ss, m :: ms => ((s.take m).map tm).sum + hrs ss ms
  | _, _ => 0
def stepLe (W : List Int) (ss : List (List Jb)) (fv hr : Int) (at_ : List Nat) (n : Nat) (later : Tbl) : Tbl :=
  match ss[n]?, at_[n]? with
  | some s, some m => match s[m]? with
    | some j => putT later (at_.set n (m + 1)) (min ((getT later (at_.set n (m + 1))).getD (fv + wt W j * (hr + tm j))) (fv + wt W j * (hr + tm j)))
    | none => later
  | _, _ => later
def rowLe (W : List Int) (ss : List (List Jb)) (fv hr : Int) (at_ : List Nat) (later : Tbl) : Nat → Tbl
  | 0 => later
  | n + 1 => stepLe W ss fv hr at_ n (rowLe W ss fv hr at_ later n)
def turnLe (W : List Int) (ss : List (List Jb)) (start : Int) (found : Tbl) : Nat → Tbl
  | 0 => []
  | i + 1 => match found[i]? with
    | some p => rowLe W ss p.2 (start + hrs ss p.1) p.1 (turnLe W ss start found i) ss.length
    | none => turnLe W ss start found i
def leastN (W : List Int) (ss : List (List Jb)) (start : Int) : Nat → Tbl
  | 0 => [(List.replicate ss.length 0, 0)]
  | t + 1 => turnLe W ss start (leastN W ss start t) (leastN W ss start t).length
inductive InB : List (List Jb) → List Nat → Prop
  | nil : InB [] []
  | cons {s : List Jb} {ss : List (List Jb)} {m : Nat} {ms : List Nat} : m ≤ s.length → InB ss ms → InB (s :: ss) (m :: ms)
theorem InB.len {ss : List (List Jb)} {ms : List Nat} (h : InB ss ms) : ms.length = ss.length := by
  induction h with
  | nil => rfl
  | cons _ _ ih => rw [List.length_cons, List.length_cons, ih]
theorem InB.get {ss : List (List Jb)} {ms : List Nat} (h : InB ss ms) : ∀ {n m : Nat} {s : List Jb}, ss[n]? = some s → ms[n]? = some m → m ≤ s.length := by
  induction h with
  | nil => intro n m s h1; simp at h1
  | cons h1 _ ih =>
    intro n m s h2 h3
    cases n with
    | zero => rw [← Option.some.inj h2, ← Option.some.inj h3]; exact h1
    | succ n => exact ih h2 h3
theorem InB.set {ss : List (List Jb)} {ms : List Nat} (h : InB ss ms) : ∀ {n m : Nat} {s : List Jb}, ss[n]? = some s → m ≤ s.length → InB ss (ms.set n m) := by
  induction h with
  | nil => intro n m s h1; simp at h1
  | cons h1 h2 ih =>
    intro n m s h3 h4
    cases n with
    | zero => exact .cons (by rw [Option.some.inj h3]; exact h4) h2
    | succ n => exact .cons h1 (ih h3 h4)
theorem InB.zero : ∀ ss : List (List Jb), InB ss (List.replicate ss.length 0)
  | [] => .nil
  | s :: r => .cons (Nat.zero_le _) (InB.zero r)
def boxL : List (List Jb) → List (List Nat)
  | [] => [[]]
  | s :: r => (List.range (s.length + 1)).flatMap fun i => (boxL r).map (i :: ·)
def boxN : List (List Jb) → Nat
  | [] => 1
  | s :: r => (s.length + 1) * boxN r
theorem InB.mem {ss : List (List Jb)} {ms : List Nat} (h : InB ss ms) : ms ∈ boxL ss := by
  induction h with
  | nil => exact List.mem_singleton.mpr rfl
  | cons h1 _ ih => exact List.mem_flatMap.mpr ⟨_, List.mem_range.mpr (Nat.lt_succ_of_le h1), List.mem_map.mpr ⟨_, ih, rfl⟩⟩
theorem flatMap_const {α β : Type} (f : α → List β) (c : Nat) : ∀ l : List α, (∀ x ∈ l, (f x).length = c) → (l.flatMap f).length = l.length * c
  | [], _ => by simp
  | a :: r, h => by
    rw [List.flatMap_cons, List.length_append, flatMap_const f c r fun x hx => h x (List.mem_cons_of_mem _ hx), h a (List.mem_cons_self ..), List.length_cons, Nat.succ_mul]
    omega
theorem boxL_len : ∀ ss, (boxL ss).length = boxN ss
  | [] => rfl
  | s :: r => by
    show ((List.range (s.length + 1)).flatMap fun i => (boxL r).map (i :: ·)).length = (s.length + 1) * boxN r
    rw [flatMap_const _ (boxN r) _ fun i _ => by rw [List.length_map, boxL_len r], List.length_range]
theorem nodup_le {α : Type} [DecidableEq α] : ∀ {l m : List α}, l.Nodup → (∀ x ∈ l, x ∈ m) → l.length ≤ m.length
  | [], m, _, _ => Nat.zero_le _
  | a :: l, m, h, hs => by
    rw [List.nodup_cons] at h
    have ha := hs a (List.mem_cons_self ..)
    have ih := nodup_le (l := l) (m := m.erase a) h.2 fun x hx => (List.mem_erase_of_ne (fun z => h.1 (by rw [← z]; exact hx))).mpr (hs x (List.mem_cons_of_mem _ hx))
    rw [List.length_erase_of_mem ha] at ih
    have : 0 < m.length := List.length_pos_of_mem ha
    rw [List.length_cons]
    omega
structure TOk (ss : List (List Jb)) (tb : Tbl) : Prop where
  nd : (tb.map (·.1)).Nodup
  box : ∀ k ∈ tb.map (·.1), InB ss k
theorem TOk.len {ss : List (List Jb)} {tb : Tbl} (h : TOk ss tb) : tb.length ≤ boxN ss := by
  have := nodup_le h.nd fun k hk => (h.box k hk).mem
  rw [List.length_map, boxL_len] at this
  exact this
theorem TOk.put {ss : List (List Jb)} {tb : Tbl} (h : TOk ss tb) {k : List Nat} {v : Int} (hk : InB ss k) : TOk ss (putT tb k v) := by
  refine ⟨putT_nodup h.nd, fun x hx => ?_⟩
  rcases (putT_keys x).mp hx with z | z
  · rw [z]; exact hk
  · exact h.box x z
theorem TOk.step {W : List Int} {ss : List (List Jb)} {tb : Tbl} (h : TOk ss tb) {fv hr : Int} {at_ : List Nat} (hk : InB ss at_) (n : Nat) : TOk ss (stepLe W ss fv hr at_ n tb) := by
  unfold stepLe
  split
  · rename_i s m h1 h2
    split
    · rename_i j h3
      exact h.put (hk.set h1 (by have := (List.getElem?_eq_some_iff.mp h3).1; omega))
    · exact h
  · exact h
theorem TOk.row {W : List Int} {ss : List (List Jb)} {tb : Tbl} (h : TOk ss tb) {fv hr : Int} {at_ : List Nat} (hk : InB ss at_) : ∀ n : Nat, TOk ss (rowLe W ss fv hr at_ tb n)
  | 0 => h
  | n + 1 => (h.row hk n).step hk n
theorem TOk.turn {W : List Int} {ss : List (List Jb)} {start : Int} {found : Tbl} (hf : TOk ss found) : ∀ i : Nat, TOk ss (turnLe W ss start found i)
  | 0 => ⟨.nil, fun k hk => nomatch hk⟩
  | i + 1 => by
    rw [turnLe]
    split
    · rename_i p hp
      exact (hf.turn i).row (hf.box _ (List.mem_map.mpr ⟨p, List.mem_of_getElem? hp, rfl⟩)) _
    · exact hf.turn i
theorem leastN_ok (W : List Int) (ss : List (List Jb)) (start : Int) : ∀ t : Nat, TOk ss (leastN W ss start t)
  | 0 => ⟨by simp [leastN], fun k hk => by
    have e : k = List.replicate ss.length 0 := List.mem_singleton.mp hk
    rw [e]
    exact InB.zero ss⟩
  | t + 1 => (leastN_ok W ss start t).turn _
/-- as the program's dict -/
def kI (k : List Nat) : List Int := k.map fun n => ((n : Nat) : Int)
def tabZ (tb : Tbl) : List (List Int × Int) := tb.map fun p => (kI p.1, p.2)
theorem kI_inj : ∀ {a b : List Nat}, kI a = kI b → a = b
  | [], [], _ => rfl
  | [], _ :: _, h => by cases h
  | _ :: _, [], h => by cases h
  | x :: a, y :: b, h => by
    obtain ⟨h1, h2⟩ := List.cons.inj (show (x : Int) :: kI a = (y : Int) :: kI b from h)
    rw [kI_inj h2, show x = y by omega]
theorem getT_Z (k : List Nat) : ∀ tb : Tbl, getT (tabZ tb) (kI k) = getT tb k
  | [] => rfl
  | p :: r => by
    show (if kI p.1 = kI k then some p.2 else getT (tabZ r) (kI k)) = if p.1 = k then some p.2 else getT r k
    by_cases e : p.1 = k
    · rw [if_pos e, if_pos (by rw [e])]
    · rw [if_neg e, if_neg (fun z => e (kI_inj z)), getT_Z k r]
theorem putT_Z (k : List Nat) (v : Int) : ∀ tb : Tbl, putT (tabZ tb) (kI k) v = tabZ (putT tb k v)
  | [] => rfl
  | p :: r => by
    show (if kI p.1 = kI k then (kI k, v) :: tabZ r else (kI p.1, p.2) :: putT (tabZ r) (kI k) v) = tabZ (if p.1 = k then (k, v) :: r else p :: putT r k v)
    by_cases e : p.1 = k
    · rw [if_pos e, if_pos (by rw [e])]
      rfl
    · rw [if_neg e, if_neg (fun z => e (kI_inj z)), putT_Z k v r]
      rfl
theorem nodup_Z : ∀ {tb : Tbl}, (tb.map (·.1)).Nodup → ((tabZ tb).map (·.1)).Nodup
  | [], _ => .nil
  | p :: r, h => by
    rw [List.map_cons, List.nodup_cons] at h
    show (kI p.1 :: (tabZ r).map (·.1)).Nodup
    rw [List.nodup_cons]
    refine ⟨fun z => ?_, nodup_Z h.2⟩
    obtain ⟨q, hq, e⟩ := List.mem_map.mp z
    obtain ⟨q', hq', rfl⟩ := List.mem_map.mp hq
    exact h.1 (List.mem_map.mpr ⟨q', hq', kI_inj e⟩)
theorem tabZ_len (tb : Tbl) : (tabZ tb).length = tb.length := List.length_map ..
theorem nD_kI (k : List Nat) : k.map nD = (kI k).map Dt.int := nD_ints k
def lens (ss : List (List Jb)) : List Nat := ss.map List.length
def R_least : List Dt → Dt → Prop := fun ds d => ∃ (W : List Int) (ss : List (List Jb)) (start v : Int), WOk W ∧ (∀ s ∈ ss, ∀ j ∈ s, JOk W j) ∧ ss.length ≤ 100 ∧ (lens ss).sum ≤ 1000 ∧ boxN ss < 100000 ∧ getT (leastN W ss start (lens ss).sum) (lens ss) = some v ∧ ds = [mD W, ssD ss, .int start] ∧ d = .int v
theorem hrs_step {ss : List (List Jb)} {ms : List Nat} : ∀ {i : Nat} {s : List Jb} {m : Nat}, ss[i]? = some s → ms[i]? = some m → hrs (ss.drop i) (ms.drop i) = ((s.take m).map tm).sum + hrs (ss.drop (i + 1)) (ms.drop (i + 1)) := fun {i s m} h1 h2 => by
  rw [drop_get h1, drop_get h2]
  rfl
abbrev s_L_least : Stmt := topS 35
theorem sc_L_least : FnScope ["_law_measure", "_law_strings", "_law_start", "_law_found", "_law_turn", "_law_later", "_law_at", "_law_hour", "_law_string", "_law_many", "_law_k", "_law_job", "_law_there", "_law_number"] ["_law_measure", "_law_strings", "_law_start"] (defScope s_L_least) := ⟨rfl, rfl, rfl, by decide +kernel, rfl, by decide +kernel, by decide +kernel⟩
theorem ok_L_least {f : Addr} {fd : FuncData} (F : Fun K "_law_least" "_law_least" s_L_least f fd) (Z : Bz mg) : FnOk P w K mg base CX0 1 f fd ["_law_measure", "_law_strings", "_law_start"] (SpD R_least) := by
  refine ok_pure F sc_L_least (fun ds d h => ?_) fun cdv A outer s H E hr => ?_
  · obtain ⟨W, ss, start, v, _, _, _, _, _, _, rfl, _⟩ := h
    rfl
  · have nd := sc_L_least.nd
    have hu := hu_of hr
    refine ⟨_, (pss_cons (ps_set (i := 3) nd rfl (Or.inl rfl) pe_dnewT)
      (pss_cons (ps_dput hu (pv 3) (pe_op (op_mulXK (K := K) rfl) (pe_tup (pa_cons pe_int pa_nil)) (pe_callB (call_lenK (K := K) rfl) (by rfl) Z.len (by decide +kernel) (pa_cons (pv 1) pa_nil))) pe_int rfl)
      (pss_cons (ps_for PassesOwn.never rfl (pi_range1 (by rfl) Z.range (pa_cons (pe_callB (cr_sumXK (K := K) rfl rfl) (by rfl) Z.sum (by decide +kernel) (pa_cons (pe_lc (own := [("_law_string", 8)]) (g := (gName 8)) (tt := tYes) rfl nd (pi_seq (pv 1)) (blkOk_by (N := ["_law_measure", "_law_strings", "_law_start", "_law_found", "_law_turn", "_law_later", "_law_at", "_law_hour", "_law_string", "_law_many", "_law_k", "_law_job", "_law_there", "_law_number"]) (sc := defScope s_L_least) (by decide +kernel)) (fun _ _ _ _ _ => (pg_name (i := 8) nd rfl (Or.inl rfl))) (fun _ _ _ _ _ => pts_nil) (fun _ _ _ _ _ => (pe_callB (call_lenK (K := K) rfl) (by rfl) Z.len (by decide +kernel) (pa_cons (pv 8) pa_nil)))) pa_nil)) pa_nil)) (pg_name (i := 4) nd rfl (Or.inl rfl)) (pss_cons (ps_set (i := 5) nd rfl (Or.inl rfl) pe_dnewT)
      (pss_cons (ps_lock (ps_for PassesOwn.never rfl (pi_keys (pv 3)) (pg_name (i := 6) nd rfl (Or.inl rfl)) (pss_cons (ps_set (i := 7) nd rfl (Or.inl rfl) (pv 2))
      (pss_cons (ps_for PassesOwn.never rfl (RZ.pi_zipA (by rfl) Z.zip (pa_cons (pv 1) (pa_cons (pv 6) pa_nil))) (pg_tup rfl (pgs_cons (pg_name (i := 8) nd rfl (Or.inl rfl)) (pgs_cons (pg_name (i := 9) nd rfl (Or.inl rfl)) pgs_nil))) (pss_one (ps_set (i := 7) nd rfl (Or.inl rfl) (pe_op (op_addXK (K := K) rfl) (pv 7) (pe_callB (cr_sumXK (K := K) rfl rfl) (by rfl) Z.sum (by decide +kernel) (pa_cons (pe_lc (own := [("_law_job", 11)]) (g := (gName 11)) (tt := tYes) rfl nd (pi_seq (pe_slice (sl_XK (K := K) rfl) (pv 8) po_none (po_some (pv 9)))) (blkOk_by (N := ["_law_measure", "_law_strings", "_law_start", "_law_found", "_law_turn", "_law_later", "_law_at", "_law_hour", "_law_string", "_law_many", "_law_k", "_law_job", "_law_there", "_law_number"]) (sc := defScope s_L_least) (by decide +kernel)) (fun _ _ _ _ _ => (pg_name (i := 11) nd rfl (Or.inl rfl))) (fun _ _ _ _ _ => pts_nil) (fun _ _ _ _ _ => (pe_ix (ix_seqK (K := K) rfl) (pv 11) pe_int (fun _ _ => rfl)))) pa_nil))))))
      (pss_one (ps_for PassesOwn.never rfl (pi_or (pi_enum (by rfl) Z.enumerate (pa_cons (pv 1) pa_nil)) (pi_enumT (by rfl) Z.enumerate (pa_cons (pv 1) pa_nil))) (pg_tup rfl (pgs_cons (pg_name (i := 10) nd rfl (Or.inl rfl)) (pgs_cons (pg_name (i := 8) nd rfl (Or.inl rfl)) pgs_nil))) (pss_one (ps_if (pt_cmpR op_lt (pe_ix (ix_seqK (K := K) rfl) (pv 6) (pv 10) (fun _ _ => rfl)) (pe_callB (call_lenK (K := K) rfl) (by rfl) Z.len (by decide +kernel) (pa_cons (pv 8) pa_nil)) (nomark _)) (pss_cons (ps_set (i := 11) nd rfl (Or.inl rfl) (pe_ix (ix_seqK (K := K) rfl) (pv 8) (pe_ix (ix_seqK (K := K) rfl) (pv 6) (pv 10) (fun _ _ => rfl)) (fun _ _ => rfl)))
      (pss_cons (ps_set (i := 12) nd rfl (Or.inl rfl) (pe_op (op_addXK (K := K) rfl) (pe_op (op_addXK (K := K) rfl) (pe_slice (sl_XK (K := K) rfl) (pv 6) po_none (po_some (pv 10))) (pe_tup (pa_cons (pe_op (op_addXK (K := K) rfl) (pe_ix (ix_seqK (K := K) rfl) (pv 6) (pv 10) (fun _ _ => rfl)) pe_int) pa_nil))) (pe_slice (sl_XK (K := K) rfl) (pv 6) (po_some (pe_op (op_addXK (K := K) rfl) (pv 10) pe_int)) po_none)))
      (pss_cons (ps_set (i := 13) nd rfl (Or.inl rfl) (pe_op (op_addXK (K := K) rfl) (pe_dget hu (pv 3) (pv 6) (fun _ _ => rfl)) (pe_op (op_mulXK (K := K) rfl) (pe_ix (ix_seqK (K := K) rfl) (pe_ix (ix_seqK (K := K) rfl) (pe_ix (ix_seqK (K := K) rfl) (pe_ix (ix_seqK (K := K) rfl) (pv 0) pe_int (fun _ _ => rfl)) (pe_ix (ix_seqK (K := K) rfl) (pv 11) pe_int (fun _ _ => rfl)) (fun _ _ => rfl)) pe_int (fun _ _ => rfl)) pe_int (fun _ _ => rfl)) (pe_op (op_addXK (K := K) rfl) (pv 7) (pe_ix (ix_seqK (K := K) rfl) (pv 11) pe_int (fun _ _ => rfl))))))
      (pss_one (ps_dput hu (pv 5) (pv 12) (pe_callB (call_min2 rfl) (by rfl) Z.min (by decide +kernel) (pa_cons (pe_dget2 hu (pv 5) (pv 12) (pv 13) ⟨rfl, rfl, rfl, rfl⟩) (pa_cons (pv 13) pa_nil))) rfl))))) pss_nil))))))))
      (pss_one (ps_set (i := 3) nd rfl (Or.inl rfl) (pv 5))))))
      (pss_one (ps_ret (pe_dget hu (pv 3) (pe_callTy (call_tupK (K := K) rfl) (by rfl) Z.tuple (by decide +kernel) (pa_cons (pe_lc (own := [("_law_string", 8)]) (g := (gName 8)) (tt := tYes) rfl nd (pi_seq (pv 1)) (blkOk_by (N := ["_law_measure", "_law_strings", "_law_start", "_law_found", "_law_turn", "_law_later", "_law_at", "_law_hour", "_law_string", "_law_many", "_law_k", "_law_job", "_law_there", "_law_number"]) (sc := defScope s_L_least) (by decide +kernel)) (fun _ _ _ _ _ => (pg_name (i := 8) nd rfl (Or.inl rfl))) (fun _ _ _ _ _ => pts_nil) (fun _ _ _ _ _ => (pe_callB (call_lenK (K := K) rfl) (by rfl) Z.len (by decide +kernel) (pa_cons (pv 8) pa_nil)))) pa_nil)) (fun _ _ => rfl))))))), fun ds d h B F0 D q => ?_⟩
    obtain ⟨W, ss, start, v, hW, hj, hsl, hsm, hbx, hv, rfl, rfl⟩ := h
    show Tr B F0 F0 [some (mD W), some (ssD ss), some (.int start), none, none, none, none, none, none, none, none, none, none, none] [] _
    refine t_seq ?_
    walk_at "n"
    refine t_asgDic fun p => ?_
    walk_at "n"
    refine t_seq ?_
    refine t_dput (j := 0) (ks := kI (List.replicate ss.length 0)) (v := 0) rfl .nil (by show 0 < 100000; omega) ev_int (ev_var rfl) ((ev_op (d2 := .int ((ss.map sD).length : Nat)) (ev_tup (ds := [.int 0]) (ea_cons ev_int ea_nil) (show 1 ≤ 100000 by decide)) (ev_cb (ea_cons (ev_var rfl) ea_nil) rc_lenT) (rd_mulT (by simp) (by omega) (by rw [List.length_map]; omega) (show 1 ≤ 1000 by decide))).is ?_) ?_
    · rw [rep_flat, Int.toNat_natCast, List.length_map]
      unfold kI
      rw [List.map_replicate, List.map_replicate]
      rfl
    walk_at "n"
    refine t_seq ?_
    refine t_for (it_range1 (n := (((lens ss).sum : Nat) : Int)) (ea_cons (ev_cb (ea_cons (EvD.is (EvN.toD (en_lcM (l := ss) (G := sD) (F := fun s => nD s.length) (is := [8]) (it_right (it_tup (ev_var rfl))) (by simp) .nil (by simp) (fun n s hs => ⟨_, gd_name, ?_⟩) (by omega))) (d2 := .lst ((lens ss).map nD)) (by unfold lens; rw [List.map_map]; rfl)) ea_nil) (rc_sumNL _)) ea_nil) (by omega) (by omega)) .nil (fun t env mus => ∃ (p : Addr) (x4 x5 x6 x7 x8 x9 x10 x11 x12 x13 : Option Dt), env = [some (mD W), some (ssD ss), some (.int start), some (.ptr p), x4, x5, x6, x7, x8, x9, x10, x11, x12, x13] ∧ mus = [(p, .dic (tabZ (leastN W ss start t)))])
      ⟨p, none, none, none, none, none, none, none, none, none, none, rfl, rfl⟩ (fun _ _ _ _ _ x hx => nomatch hx) ?_ ?_
    · exact (ev_cb (ea_cons (ev_var (d := .tup (s.map jbD)) rfl) ea_nil) rc_lenT).is (by rw [List.length_map]; rfl)
    · rintro X' hX t d env mus hd ⟨p, x4, x5, x6, x7, x8, x9, x10, x11, x12, x13, rfl, rfl⟩
      obtain ⟨rfl, hn⟩ := rgD_get hd
      have hf := leastN_ok W ss start t
      have enext : leastN W ss start (t + 1) = turnLe W ss start (leastN W ss start t) (leastN W ss start t).length := rfl
      rw [enext]
      clear enext
      generalize leastN W ss start t = found at *
      have hfl := hf.len
      refine ⟨_, _, gd_name, ?_⟩
      walk_at "n"
      refine t_seq ?_
      refine t_asgDic fun p2 => ?_
      walk_at "n"
      refine t_seq ?_
      refine t_lock (j := 1) rfl fun o => ?_
      walk_at "n"
      refine t_for (it_keys (o := o) (p := p) (kvs := tabZ found) (by simp) (ev_var rfl)) (by simp) (fun i env mus => ∃ (x6 x7 x8 x9 x10 x11 x12 x13 : Option Dt), env = [some (mD W), some (ssD ss), some (.int start), some (.ptr p), some (.int (0 + (t : Nat))), some (.ptr p2), x6, x7, x8, x9, x10, x11, x12, x13] ∧ mus = [(p2, .dic (tabZ (turnLe W ss start found i))), (p, .frz o (tabZ found))])
        ⟨x6, x7, x8, x9, x10, x11, x12, x13, rfl, rfl⟩ (fun n e m _ hm x hx => by obtain ⟨_, _, _, _, _, _, _, _, _, rfl⟩ := hm; exact List.mem_cons_of_mem _ hx) ?_ ?_
      · rintro X2 hX2 i d env mus hd ⟨x6, x7, x8, x9, x10, x11, x12, x13, rfl, rfl⟩
        rw [List.getElem?_map] at hd
        obtain ⟨kv, hkv, rfl⟩ := Option.map_eq_some_iff.mp hd
        unfold tabZ at hkv
        rw [List.getElem?_map] at hkv
        obtain ⟨⟨at_, fv⟩, hat, rfl⟩ := Option.map_eq_some_iff.mp hkv
        have hbox := hf.box at_ (List.mem_map.mpr ⟨(at_, fv), List.mem_of_getElem? hat, rfl⟩)
        have hal := hbox.len
        have hget : getT found at_ = some fv := getT_mem hf.nd (List.mem_of_getElem? hat)
        have enext : turnLe W ss start found (i + 1) = rowLe W ss fv (start + hrs ss at_) at_ (turnLe W ss start found i) ss.length := by
          rw [turnLe, hat]
        have hturn := hf.turn (W := W) (start := start) i
        rw [enext]
        clear enext
        generalize turnLe W ss start found i = later at *
        have eat : Dt.tup ((kI at_).map Dt.int) = .tup (at_.map nD) := by rw [nD_kI]
        refine ⟨_, _, gd_name, ?_⟩
        rw [eat]
        walk_at "n"
        refine t_seq ?_
        refine t_asg (ev_var rfl) ?_
        walk_at "n"
        refine t_seq ?_
        refine t_for (ds := zpD (ss.map sD) (at_.map nD)) (it_zipAT (ea_cons (ev_var rfl) (ea_cons (ev_var rfl) ea_nil))) .nil (fun n env mus => ∃ (h : Int) (x8 x9 x11 : Option Dt), env = [some (mD W), some (ssD ss), some (.int start), some (.ptr p), some (.int (0 + (t : Nat))), some (.ptr p2), some (.tup (at_.map nD)), some (.int h), x8, x9, x10, x11, x12, x13] ∧ mus = [(p2, .dic (tabZ later)), (p, .frz o (tabZ found))] ∧ h + hrs (ss.drop n) (at_.drop n) = start + hrs ss at_)
          ⟨start, x8, x9, x11, rfl, rfl, by rw [List.drop_zero, List.drop_zero]⟩ (fun _ _ _ _ _ x hx => nomatch hx) ?_ ?_
        · rintro X3 hX3 n d env mus hd ⟨h, x8, x9, x11, rfl, rfl, hh⟩
          obtain ⟨a, b, ea, eb, rfl⟩ := zpD_get hd
          rw [List.getElem?_map] at ea eb
          obtain ⟨s, hs, rfl⟩ := Option.map_eq_some_iff.mp ea
          obtain ⟨m, hm, rfl⟩ := Option.map_eq_some_iff.mp eb
          have hsm1 := List.mem_of_getElem? hs
          have hsl1 : s.length ≤ 1000 := Nat.le_trans (le_sum_of_mem (List.mem_map.mpr ⟨s, hsm1, rfl⟩)) hsm
          refine ⟨_, _, gd_tup2, ?_⟩
          walk_at "n"
          rw [hrs_step hs hm] at hh
          refine t_asg (d := .int (h + ((s.take m).map tm).sum)) (ev_op (d1 := .int h) (ev_var rfl) (ev_cb (ea_cons (EvD.is (EvN.toD (en_lcM (l := s.take m) (G := jbD) (F := fun j => .int (tm j)) (is := [11]) (it_right (it_tup ((ev_sliceT (K := K) (ds := s.map jbD) (hi := some ((m : Nat) : Int)) (ev_var rfl) eo_none (eo_some (ev_var rfl))).is (by rw [cutD_map, cutD_0n])))) (by simp) .nil (by simp) (fun n j hj => ⟨_, gd_name, ev_op (d1 := jbD j) (d2 := .int 1) (ev_var rfl) ev_int (rd_xT (atI_nat (j := 1) rfl))⟩) (by rw [List.length_take]; omega))) (by rw [sum_ints])) ea_nil) rc_sumXL) rd_addI) ?_
          refine tr_asr ⟨h + ((s.take m).map tm).sum, some (sD s), some (nD m), x11, rfl, rfl, by omega⟩
        · rintro env mus ⟨h, x8, x9, x11, rfl, rfl, hh⟩
          have hzl : (zpD (ss.map sD) (at_.map nD)).length = ss.length := by rw [zpD_len, List.length_map, List.length_map, hal, Nat.min_self]
          rw [hzl, List.drop_length] at hh
          have hh2 : h = start + hrs ss at_ := by
            rw [← hh]
            show h = h + hrs [] _
            unfold hrs
            omega
          walk_at "n"
          rw [hh2]
          clear hh hh2
          generalize start + hrs ss at_ = hr0 at *
          refine t_for (it_right (it_enumT (ds := ss.map sD) (ea_cons (ev_var rfl) ea_nil))) .nil (fun n env mus => ∃ (x8 x10 x11 x12 x13 : Option Dt), env = [some (mD W), some (ssD ss), some (.int start), some (.ptr p), some (.int (0 + (t : Nat))), some (.ptr p2), some (.tup (at_.map nD)), some (.int hr0), x8, x9, x10, x11, x12, x13] ∧ mus = [(p2, .dic (tabZ (rowLe W ss fv hr0 at_ later n))), (p, .frz o (tabZ found))])
            ⟨x8, x10, x11, x12, x13, rfl, rfl⟩ (fun _ _ _ _ _ x hx => nomatch hx) ?_ ?_
          · rintro X3 hX3 n d env mus hd ⟨x8, x10, x11, x12, x13, rfl, rfl⟩
            obtain ⟨d0, e0, rfl⟩ := enD_get hd
            rw [List.getElem?_map] at e0
            obtain ⟨s, hs, rfl⟩ := Option.map_eq_some_iff.mp e0
            have hnl : n < at_.length := by rw [hal]; exact getlt hs
            obtain ⟨m, hm⟩ : ∃ m, at_[n]? = some m := ⟨_, List.getElem?_eq_getElem hnl⟩
            have hrow := hturn.row (W := W) (fv := fv) (hr := hr0) hbox n
            have enext : rowLe W ss fv hr0 at_ later (n + 1) = stepLe W ss fv hr0 at_ n (rowLe W ss fv hr0 at_ later n) := rfl
            have hrowl := hrow.len
            rw [enext]
            clear enext
            generalize rowLe W ss fv hr0 at_ later n = row at *
            refine ⟨_, _, gd_tup2, ?_⟩
            walk_at "n"
            have hle := hbox.get hs hm
            have eat1 : ∀ {env : Env_} {mus : Mu}, env[6]? = some (some (.tup (at_.map nD))) → env[10]? = some (some (.int (n : Nat))) → EvD (tOp (rIx K) (tVar 6) (tVar 10)) env mus (nD m) := fun h6 h10 => ev_op (d2 := .int (n : Nat)) (ev_var h6) (ev_var h10) (rd_xT (atI_map nD hm))
            cases hjm : s[m]? with
            | none =>
              have hge : s.length ≤ m := List.getElem?_eq_none_iff.mp hjm
              have est : stepLe W ss fv hr0 at_ n row = row := by
                unfold stepLe
                rw [hs, hm]
                dsimp only
                rw [hjm]
              rw [est]
              refine t_ifF ((et_test (ev_op (d1 := .int (m : Nat)) (d2 := .int ((s.map jbD).length : Nat)) (eat1 rfl rfl) (ev_cb (ea_cons (ev_var (d := .tup (s.map jbD)) rfl) ea_nil) rc_lenT) rd_b0)).is (by rw [List.length_map, decide_eq_false (by omega)])) ?_
              refine t_next ?_
              walk_at "n"
              exact tr_asr ⟨some (sD s), some (.int (n : Nat)), x11, x12, x13, rfl, rfl⟩
            | some j =>
              have hlt : m < s.length := getlt hjm
              have est : stepLe W ss fv hr0 at_ n row = putT row (at_.set n (m + 1)) (min ((getT row (at_.set n (m + 1))).getD (fv + wt W j * (hr0 + tm j))) (fv + wt W j * (hr0 + tm j))) := by
                unfold stepLe
                rw [hs, hm]
                dsimp only
                rw [hjm]
              rw [est]
              have jok := hj s (List.mem_of_getElem? hs) j (List.mem_of_getElem? hjm)
              have hwb := jok.wb hW
              have a4 := jok.at_
              refine t_ifT ((et_test (ev_op (d1 := .int (m : Nat)) (d2 := .int ((s.map jbD).length : Nat)) (eat1 rfl rfl) (ev_cb (ea_cons (ev_var (d := .tup (s.map jbD)) rfl) ea_nil) rc_lenT) rd_b0)).is (by rw [List.length_map, decide_eq_true (by omega)])) ?_
              refine t_seq ?_
              refine t_asg (d := jbD j) (ev_op (d1 := .tup (s.map jbD)) (ev_var rfl) (eat1 rfl rfl) (rd_xT (atI_map jbD hjm))) ?_
              walk_at "n"
              refine t_seq ?_
              have hset : at_.set n (m + 1) = at_.take n ++ [m + 1] ++ at_.drop (n + 1) := by
                rw [List.set_eq_take_append_cons_drop, if_pos hnl, List.append_assoc]
                rfl
              refine t_asg (d := .tup ((at_.set n (m + 1)).map nD)) ((ev_op (d1 := .tup ((at_.take n).map nD ++ [nD (m + 1)])) (d2 := .tup ((at_.drop (n + 1)).map nD)) (ev_op (d1 := .tup ((at_.take n).map nD)) (d2 := .tup [nD (m + 1)]) ((ev_sliceT (K := K) (ds := at_.map nD) (hi := some ((n : Nat) : Int)) (ev_var rfl) eo_none (eo_some (ev_var rfl))).is (by rw [cutD_map, cutD_0n])) (ev_tup (ea_cons ((ev_op (d1 := .int (m : Nat)) (d2 := .int 1) (eat1 rfl rfl) ev_int rd_addI).is (by unfold nD; congr 1)) ea_nil) (show 1 ≤ 100000 by decide)) (rd_addT ?_)) ((ev_sliceT (K := K) (ds := at_.map nD) (lo := some ((n + 1 : Nat) : Int)) (hi := none) (ev_var rfl) (eo_some ((ev_op (d1 := .int (n : Nat)) (d2 := .int 1) (ev_var rfl) ev_int rd_addI).is (by congr 1))) eo_none).is (by rw [cutD_map, cutD_n0])) (rd_addT ?_)).is ?_) ?_
              · rw [List.length_map, List.length_take, List.length_singleton]
                omega
              · rw [List.length_append, List.length_map, List.length_take, List.length_singleton, List.length_map, List.length_drop]
                omega
              · rw [hset, List.map_append, List.map_append]
                rfl
              walk_at "n"
              refine t_seq ?_
              refine t_asg (d := .int (fv + wt W j * (hr0 + tm j))) (ev_op (d1 := .int fv) (d2 := .int (wt W j * (hr0 + tm j))) (ev_dget (p := p) (kvs := tabZ found) (ks := kI at_) (.inr ⟨o, by simp⟩) (ev_var rfl) (ev_var (by rw [← nD_kI]; rfl)) (by rw [getT_Z, hget])) ?_ rd_addI) ?_
              · have m1 : CMul (wt W j) (hr0 + tm j) := .inl ⟨by omega, by omega⟩
                refine ev_op (d1 := .int (wt W j)) (d2 := .int (hr0 + tm j)) ?_ (ev_op (d1 := .int hr0) (d2 := .int (tm j)) (ev_var rfl) (ev_op (d1 := jbD j) (d2 := .int 1) (ev_var rfl) ev_int (rd_xT (atI_nat (j := 1) rfl))) rd_addI) (rd_mulI m1)
                unfold mD jbD
                walk_at "ev"
              walk_at "n"
              refine t_dput (j := 0) (kvs := tabZ row) (ks := kI (at_.set n (m + 1))) (v := min ((getT row (at_.set n (m + 1))).getD (fv + wt W j * (hr0 + tm j))) (fv + wt W j * (hr0 + tm j))) rfl (nodup_Z hrow.nd) (by rw [tabZ_len]; omega) ?_ (ev_var rfl) (ev_var (by rw [← nD_kI]; rfl)) ?_
              · refine (ev_cb (ea_cons (ev_dget2 (p := p2) (kvs := tabZ row) (ks := kI (at_.set n (m + 1))) (z := fv + wt W j * (hr0 + tm j)) (.inl (by simp)) (ev_var rfl) (ev_var (by rw [← nD_kI]; rfl)) (ev_var rfl)) (ea_cons (ev_var rfl) ea_nil)) rc_min2).is ?_
                rw [getT_Z]
              rw [putT_Z]
              exact tr_asr ⟨some (sD s), some (.int (n : Nat)), _, _, _, rfl, rfl⟩
          · rintro env mus ⟨x8, x10, x11, x12, x13, rfl, rfl⟩
            have hel : (enD (ss.map sD)).length = ss.length := by rw [enD_len, List.length_map]
            rw [hel]
            exact tr_asr ⟨_, _, _, _, _, _, _, _, rfl, rfl⟩
      · rintro env mus ⟨x6, x7, x8, x9, x10, x11, x12, x13, rfl, rfl⟩
        rw [List.length_map, tabZ_len]
        refine t_unlock (j := 1) rfl ?_
        walk_at "n"
        refine t_asg (ev_var rfl) ?_
        walk_at "n"
        refine t_drop (mus' := [(p2, .dic (tabZ (turnLe W ss start found found.length)))]) (by simp) ?_
        exact tr_asr ⟨p2, _, _, _, _, _, _, _, _, _, _, rfl, rfl⟩
    · rintro env mus ⟨p, x4, x5, x6, x7, x8, x9, x10, x11, x12, x13, rfl, rfl⟩
      rw [rgD_len, Int.toNat_natCast]
      refine t_ret (d := .int v) (ev_dget (p := p) (kvs := tabZ (leastN W ss start (lens ss).sum)) (ks := kI (lens ss)) (.inl (by simp)) (ev_var rfl) ((ev_cb (ea_cons (EvN.toD (en_lcM (l := ss) (G := sD) (F := fun s => nD s.length) (is := [8]) (it_right (it_tup (ev_var rfl))) (by simp) .nil (by simp) (fun n s hs => ⟨_, gd_name, ?_⟩) (by omega))) ea_nil) rc_tupL).is ?_) (by rw [getT_Z, hv])) fun v F' H' g _ r => q v F' H' g r
      · exact (ev_cb (ea_cons (ev_var (d := .tup (s.map jbD)) rfl) ea_nil) rc_lenT).is (by rw [List.length_map]; rfl)
      · rw [← nD_kI]
        unfold lens
        rw [List.map_map]
        rfl
end
end KB
namespace KB
open PySem PySem.Spec PyProof.Rows L2
/-! ### what changes the pen -/
theorem Gr.then {B F F1 H1 F2 H2 : Hp} (a : Gr B F F1 H1) (b : Gr B F1 F2 H2) : Gr B F F2 H2 := ⟨a.ff.trans b.ff, b.fh, b.bh, fun p o e n => (b.fr p o e n).trans (a.fr p o e n)⟩
def keys (mus : Mu) : List Addr := mus.map (·.1)
def GrM (mus : Mu) (H F F' H' : Hp) : Prop := ∀ B, Same B H → (∀ m ∈ mus, B m.1 = none) → Gr B F F' H'
theorem av_keys {mus mus' : Mu} (hk : keys mus' = keys mus) {B : Hp} (h : ∀ m ∈ mus, B m.1 = none) : ∀ m ∈ mus', B m.1 = none := fun m hm => by
  have h1 : m.1 ∈ keys mus := by
    rw [← hk]
    exact List.mem_map.mpr ⟨m, hm, rfl⟩
  obtain ⟨m', hm', e⟩ := List.mem_map.mp h1
  rw [← e]
  exact h m' hm'
theorem GrM.of {mus : Mu} {H F F' H' : Hp} (g : Gr H F F' H') : GrM mus H F F' H' := fun B hB _ => g.less hB
theorem same_none {H : Hp} : Same (fun _ => none) H := fun a u e => by cases e
theorem GrM.ff {mus : Mu} {H F F' H' : Hp} (g : GrM mus H F F' H') : Same F F' := (g (fun _ => none) same_none fun _ _ => rfl).ff
theorem GrM.fh {mus : Mu} {H F F' H' : Hp} (g : GrM mus H F F' H') : Same F' H' := (g (fun _ => none) same_none fun _ _ => rfl).fh
theorem GrM.trans {mus mus1 : Mu} {H F F1 H1 F2 H2 : Hp} (hk : keys mus1 = keys mus) (a : GrM mus H F F1 H1) (b : GrM mus1 H1 F1 F2 H2) : GrM mus H F F2 H2 := fun B hB hm =>
  (a B hB hm).then (b B (a B hB hm).bh (av_keys hk hm))
def EvE (te : TE) (env : Env_) (mus mus' : Mu) (P : Dt → Prop) : Prop := keys mus' = keys mus ∧ ∀ F σ H, MS mus F H → ES env F σ → ∀ Q : VK, (∀ v d F' H', P d → GrM mus H F F' H' → MS mus' F' H' → Rp F' d v → Q v H') → te σ H Q
def EvAE (ta : TA) (env : Env_) (mus mus' : Mu) (P : List Dt → Prop) : Prop := keys mus' = keys mus ∧ ∀ F σ H, MS mus F H → ES env F σ → ∀ Q : List V → Hp → Prop, (∀ vs ds F' H', P ds → GrM mus H F F' H' → MS mus' F' H' → RpL F' ds vs → Q vs H') → ta σ H Q
def ItLE (wi : TI) (env : Env_) (mus mus' mus0 : Mu) (P : List Dt → Prop) : Prop := keys mus' = keys mus ∧ ∀ F σ H, MS mus F H → ES env F σ → ∀ R : It → Hp → Prop, (∀ ds J F1 H1, P ds → GrM mus H F F1 H1 → MS mus' F1 H1 → ItOk J mus0 ds F1 → R J H1) → wi σ H R
/-- a def that draws from the pen at its first argument -/
def SpE (R : Nat → List Dt → Nat → (Dt → Prop) → Prop) : Sp := fun vs H Q _ => ∃ F p k ds k' P, MS [(p, .pen k)] F H ∧ RpL F (.ptr p :: ds) vs ∧ R k ds k' P ∧ ∀ v d F' H', P d → GrM [(p, .pen k)] H F F' H' → MS [(p, .pen k')] F' H' → Rp F' d v → Q v H'
/-- a def that gives a new list -/
def SpN (R : List Dt → List Dt → Prop) : Sp := fun vs H Q _ => ∃ F ds es, Same F H ∧ RpL F ds vs ∧ R ds es ∧ ∀ p xs F' H', Gr H F F' H' → F' p = none → H p = none → H' p = some (.lst xs) → RpL F' es xs → Q (.ref p) H'
def hideP (p : Addr) (H : Hp) : Hp := fun a => if a = p then none else H a
theorem hideP_same {p : Addr} {H : Hp} : Same (hideP p H) H := fun a u e => by
  unfold hideP at e
  split at e
  · cases e
  · exact e
theorem hideP_at {p : Addr} {H : Hp} : hideP p H p = none := if_pos rfl
theorem hideP_ne {p a : Addr} {H : Hp} (h : a ≠ p) : hideP p H a = H a := if_neg h
theorem keys_set {mus : Mu} {j : Nat} {p : Addr} {m m' : MO} (hj : mus[j]? = some (p, m)) : keys (mus.set j (p, m')) = keys mus := by
  unfold keys
  rw [List.map_set]
  apply List.ext_getElem?
  intro k
  by_cases hk : j = k
  · subst hk
    rw [List.getElem?_set_self (by rw [List.length_map]; exact getlt hj), List.getElem?_map, hj]
    rfl
  · rw [List.getElem?_set_ne hk]
theorem MS.pen {mus : Mu} {F F' H H' : Hp} {j k k' : Nat} {p : Addr} (M : MS mus F H) (hj : mus[j]? = some (p, .pen k)) (g : GrM [(p, .pen k)] H F F' H') (M' : MS [(p, .pen k')] F' H') : MS (mus.set j (p, .pen k')) F' H' := by
  have g1 := g (hideP p H) hideP_same fun m hm => by rw [List.mem_singleton.mp hm]; exact hideP_at
  refine ⟨M'.fh, fun x hx => ?_, ?_⟩
  · obtain ⟨i, hi⟩ := List.mem_iff_getElem?.mp hx
    by_cases hij : j = i
    · subst hij
      rw [List.getElem?_set_self (getlt hj)] at hi
      rw [← Option.some.inj hi]
      exact M'.mu _ (List.mem_singleton.mpr rfl)
    · rw [List.getElem?_set_ne hij] at hi
      obtain ⟨n, o, e, r⟩ := M.mu x (List.mem_of_getElem? hi)
      have hne : x.1 ≠ p := fun z => by
        have a1 : (mus.map (·.1))[i]? = some p := by rw [List.getElem?_map, hi, ← z]; rfl
        have a2 : (mus.map (·.1))[j]? = some p := by rw [List.getElem?_map, hj]; rfl
        exact hij (nd_ix M.nd a2 a1)
      have e1 : hideP p H x.1 = some o := by rw [hideP_ne hne]; exact e
      exact ⟨(g1.fr _ _ e1 r.notup).trans n, o, g1.bh _ _ e1, r.mono g1.ff⟩
  · have := keys_set (m' := .pen k') hj
    unfold keys at this
    rw [this]
    exact M.nd
section
variable {B F0 X : Hp} {env : Env_} {mus mus1 mus2 mus' mus0 : Mu} {ta tb te tl : TE} {tr : TA} {d d1 d2 : Dt} {ds es : List Dt} {P P1 P2 : Dt → Prop} {Ps : List Dt → Prop} {D : Ends} {i j k k' : Nat} {p : Addr} {K : PySem.W.Frag} {r : R2}
theorem EvE.of (h : EvD te env mus d) : EvE te env mus mus (fun x => x = d) := ⟨rfl, fun F σ H M E Q q => h F σ H M E _ fun v F1 H1 g1 r1 => q v d F1 H1 rfl (.of g1) (M.grow g1) r1⟩
theorem EvE.imp (h : EvE te env mus mus' P) (hp : ∀ d, P d → P1 d) : EvE te env mus mus' P1 := ⟨h.1, fun F σ H M E Q q => h.2 F σ H M E _ fun v d F1 H1 hd g m r => q v d F1 H1 (hp d hd) g m r⟩
theorem eae_of (h : EvA tr env mus ds) : EvAE tr env mus mus (fun x => x = ds) := ⟨rfl, fun F σ H M E Q q => h F σ H M E _ fun v F1 H1 g1 r1 => q v ds F1 H1 rfl (.of g1) (M.grow g1) r1⟩
theorem eae_nil : EvAE tNil env mus mus (fun x => x = []) := eae_of ea_nil
theorem eae_cons (h1 : EvE te env mus mus1 P) (h2 : EvAE tr env mus1 mus2 Ps) : EvAE (tCons te tr) env mus mus2 (fun l => ∃ d r, l = d :: r ∧ P d ∧ Ps r) := ⟨h2.1.trans h1.1, fun F σ H M E Q q =>
  h1.2 F σ H M E _ fun v d F1 H1 hd g1 m1 r1 => h2.2 F1 σ H1 m1 (E.mono g1.ff) _ fun vs ds F2 H2 hds g2 m2 r2 => q _ _ F2 H2 ⟨d, ds, rfl, hd, hds⟩ (g1.trans h1.1 g2) m2 (.cons (r1.mono g2.ff) r2)⟩
theorem EvAE.imp {Ps' : List Dt → Prop} (h : EvAE tr env mus mus' Ps) (hp : ∀ d, Ps d → Ps' d) : EvAE tr env mus mus' Ps' := ⟨h.1, fun F σ H M E Q q => h.2 F σ H M E _ fun v d F1 H1 hd g m r => q v d F1 H1 (hp d hd) g m r⟩
theorem ev_opE (h1 : EvE ta env mus mus1 P1) (h2 : EvE tb env mus1 mus2 P2) (hr : ∀ d1 d2, P1 d1 → P2 d2 → ∃ d, P d ∧ RD r mus2 d1 d2 d) : EvE (tOp r ta tb) env mus mus2 P := ⟨h2.1.trans h1.1, fun F σ H M E Q q =>
  h1.2 F σ H M E _ fun v d F1 H1 hd g1 m1 r1 => h2.2 F1 σ H1 m1 (E.mono g1.ff) _ fun w e F2 H2 he g2 m2 r2 => by
    obtain ⟨d', hd', hr'⟩ := hr d e hd he
    exact hr' F2 H2 v w m2 (r1.mono g2.ff) r2 _ fun x F3 H3 g3 r3 => q x d' F3 H3 hd' ((g1.trans h1.1 g2).trans (h2.1.trans h1.1) (.of g3)) (m2.grow g3) r3⟩
theorem ev_tupE (h : EvAE tr env mus mus' Ps) (hl : ∀ l, Ps l → l.length ≤ 100000) : EvE (tTup tr) env mus mus' (fun d => ∃ l, d = .tup l ∧ Ps l) := ⟨h.1, fun F σ H M E Q q =>
  h.2 F σ H M E _ fun vs ds F1 H1 hd g1 m1 r1 => ⟨sz_of (by rw [← r1.length]; exact hl ds hd), fun p hp =>
    q _ _ (upd F1 p (.tup vs)) _ ⟨ds, rfl, hd⟩ (g1.trans h.1 (.of (Gr.new g1.fh hp))) (m1.grow (Gr.new g1.fh hp)) (rp_tup.mpr ⟨p, vs, rfl, upd_same, r1.mono (same_new (g1.fh.free hp))⟩)⟩⟩
theorem ev_lstE (h : EvAE tr env mus mus' Ps) (hl : ∀ l, Ps l → l.length ≤ 100000) : EvE (tLst tr) env mus mus' (fun d => ∃ l, d = .lst l ∧ Ps l) := ⟨h.1, fun F σ H M E Q q =>
  h.2 F σ H M E _ fun vs ds F1 H1 hd g1 m1 r1 => ⟨sz_of (by rw [← r1.length]; exact hl ds hd), fun p hp =>
    q _ _ (upd F1 p (.lst vs)) _ ⟨ds, rfl, hd⟩ (g1.trans h.1 (.of (Gr.new g1.fh hp))) (m1.grow (Gr.new g1.fh hp)) (rp_lst.mpr ⟨p, vs, rfl, upd_same, r1.mono (same_new (g1.fh.free hp))⟩)⟩⟩
theorem ev_callE {R : Nat → List Dt → Nat → (Dt → Prop) → Prop} {E : XK} (h : EvAE tr env mus mus1 (fun l => ∃ ds, l = .ptr p :: ds ∧ Ps ds)) (hj : mus1[j]? = some (p, .pen k)) (hR : ∀ ds, Ps ds → R k ds k' P) : EvE (tCall (SpE R) [] E tr) env mus (mus1.set j (p, .pen k')) P := ⟨(keys_set hj).trans h.1, fun F σ H M E Q q =>
  h.2 F σ H M E _ fun vs l F1 H1 hl g1 m1 r1 => by
    obtain ⟨ds, rfl, hd⟩ := hl
    refine ⟨F1, p, k, ds, k', P, m1.sub (fun m hm => by rw [List.mem_singleton.mp hm]; exact List.mem_of_getElem? hj) (by simp), by rw [List.append_nil]; exact r1, hR ds hd, fun v d F2 H2 hP g2 m2 r2 => ?_⟩
    refine q v d F2 H2 hP (fun B hB hm => ?_) (m1.pen hj g2 m2) r2
    have ga := g1 B hB hm
    refine ga.then (g2 B ga.bh fun m hm' => ?_)
    rw [List.mem_singleton.mp hm']
    exact av_keys h.1 hm (p, .pen k) (List.mem_of_getElem? hj)⟩
theorem ev_callN {R : List Dt → List Dt → Prop} {E : XK} (ha : EvA tr env mus ds) (h : R ds es) : EvN (tCall (SpN R) [] E tr) env mus es := fun F σ H M E Q q =>
  ha F σ H M E _ fun vs F1 H1 g1 r1 => ⟨F1, ds, es, g1.fh, by rw [List.append_nil]; exact r1, h, fun p xs F2 H2 g2 n1 n0 e2 r2 => q p xs F2 H2 (g1.trans g2) n1 (g1.bh.free n0) e2 r2⟩
/-! #### statements -/
theorem Gx.eff {F H F1 H1 : Hp} (g0 : Gx B F0 X F H) (hB : ∀ m ∈ mus, B m.1 = none) (g : GrM mus H F F1 H1) : Gx B F0 X F1 H1 := ⟨g0.toGr.then (g B g0.bh hB), g0.xf.trans g.ff⟩
theorem t_asgE (h : EvE te env mus mus' P) (k : ∀ d, P d → Tr B F0 X (env.set i (some d)) mus' D.nx) : Tr B F0 X env mus (tAsg te (gName i) D) := fun σ H a => by
  obtain ⟨F, g0, M, E, hB⟩ := a
  exact h.2 F σ H M E _ fun v d F1 H1 hd g1 m1 r1 => k d hd _ _ ⟨F1, g0.eff hB g1, m1, (E.mono g1.ff).set r1, av_keys h.1 hB⟩
theorem t_retE (h : EvE te env mus mus' P) (k : ∀ d v F' H', P d → Gr B F0 F' H' → MS mus' F' H' → Rp F' d v → D.rt v H') : Tr B F0 X env mus (tRet te D) := fun σ H a => by
  obtain ⟨F, g0, M, E, hB⟩ := a
  exact h.2 F σ H M E _ fun v d F1 H1 hd g1 m1 r1 => k d v F1 H1 hd (g0.eff hB g1).toGr m1 r1
theorem t_retN (h : EvN te env mus ds) (k : ∀ p xs F' H', Gr B F0 F' H' → MS mus F' H' → F' p = none → B p = none → H' p = some (.lst xs) → RpL F' ds xs → D.rt (.ref p) H') : Tr B F0 X env mus (tRet te D) := fun σ H a => by
  obtain ⟨F, g0, M, E, hB⟩ := a
  exact h F σ H M E _ fun p xs F1 H1 g1 n1 n0 e1 r1 => k p xs F1 H1 (g0.trans g1).toGr (M.grow g1) n1 (g0.bh.free n0) e1 r1
theorem t_appendE (hj0 : mus[j]? = some (p, .lst ds)) (hj : mus'[j]? = some (p, .lst ds)) (ho : EvD ta env mus (.ptr p)) (h : EvE te env mus mus' P) (hl : ds.length < 100000) (k : ∀ d, P d → Tr B F0 X env (mus'.set j (p, .lst (ds ++ [d]))) D.nx) : Tr B F0 X env mus (tDrop (tBM K "list" rAppend ta (tCons te tNil)) D) := fun σ H a => by
  obtain ⟨F, g0, M, E, hB⟩ := a
  refine ho F σ H M E _ fun v F1 H1 g1 r1 => ?_
  have M1 := M.grow g1
  obtain ⟨_, o1, e1, xs1, rfl, rx1⟩ := M1.mu _ (List.mem_of_getElem? hj0)
  rw [rp_ptr.mp r1]
  refine ⟨.inl ⟨rfl, xs1, SqL.of e1⟩, h.2 F1 σ H1 M1 (E.mono g1.ff) _ fun w d F2 H2 hd g2 M2 r2 => ?_⟩
  obtain ⟨_, o2, e2, xs2, rfl, rx2⟩ := M2.mu _ (List.mem_of_getElem? hj)
  refine ⟨p, xs2, w, rfl, rfl, e2, sz_lt (by rw [← rx2.length]; exact hl), k d hd _ _ ?_⟩
  exact AS.put ((g0.trans g1).eff hB g2) M2 ((E.mono g1.ff).mono g2.ff) (av_keys h.1 hB) hj ⟨_, rfl, rx2.append (.cons r2 .nil)⟩
/-- a for whose walked thing draws from the pen -/
theorem t_forE {wi : TI} {g : TG} {ts : TS} {Pw : List Dt → Prop} (hw : ItLE wi env mus mus' mus0 Pw) (hnd : (mus0.map (·.1)).Nodup) (Inv : List Dt → Nat → Env_ → Mu → Prop) (h0 : ∀ ds, Pw ds → Inv ds 0 env mus') (hsub : ∀ ds, Pw ds → ∀ i e m, i ≤ ds.length → Inv ds i e m → ∀ x ∈ mus0, x ∈ m)
    (hs : ∀ ds, Pw ds → ∀ X', Same X X' → ∀ (i : Nat) d e m, ds[i]? = some d → Inv ds i e m → ∃ is e', GD g e is d e' ∧ Tr B F0 X' e' m (ts { D with nx := asr B F0 X' (Inv ds (i + 1)), ct := asr B F0 X' (Inv ds (i + 1)), bk := D.nx }))
    (hd : ∀ ds, Pw ds → ∀ e m, Inv ds ds.length e m → Tr B F0 X e m D.nx) : Tr B F0 X env mus (tFor wi g ts D) := fun σ H a => by
  obtain ⟨F, g0, M, E, hB⟩ := a
  refine hw.2 F σ H M E _ fun ds J F1 H1 hds g1 m1 ok => ?_
  have hX : Same X F1 := g0.xf.trans g1.ff
  have g01 := g0.eff hB g1
  refine ⟨fun i m σ' H' => m = ds.length - i ∧ i ≤ ds.length ∧ asr B F0 F1 (Inv ds i) σ' H', ⟨ds.length, rfl, Nat.zero_le _, env, mus', h0 ds hds, F1, ⟨g01.toGr, Same.refl _⟩, m1, E.mono g1.ff, av_keys hw.1 hB⟩, ?_⟩
  rintro i m σ' H' ⟨rfl, hi, e, mu, iv, F', g2, M2, E2, hB2⟩
  have MS0 := M2.sub (hsub ds hds i e mu hi iv) hnd
  by_cases hlt : i < ds.length
  · have hdi : ds[i]? = some ds[i] := List.getElem?_eq_getElem hlt
    obtain ⟨is, e', gd, tr⟩ := hs ds hds F1 hX i _ e mu hdi iv
    refine .inr ⟨ok.goes i F' H' hlt g2.xf MS0, asr B F0 F1 (Inv ds (i + 1)), fun σ2 H2 h2 => ⟨ds.length - (i + 1), by omega, rfl, hlt, h2⟩, fun x H2 y => ?_⟩
    obtain ⟨F3, g3, r3⟩ := ok.yields i _ F' H' x H2 hdi g2.xf MS0 y
    exact gd F3 σ' H2 x g3.fh (E2.mono g3.ff) r3 _ fun σ2 E3 _ _ => tr σ2 H2 ⟨F3, g2.trans g3, M2.grow g3, E3, hB2⟩
  · have ei : i = ds.length := by omega
    subst ei
    exact .inl ⟨ok.stops F' H' g2.xf MS0, hd ds hds e mu iv σ' H' ⟨F', ⟨g2.toGr, hX.trans g2.xf⟩, M2, E2, hB2⟩⟩
theorem it_range1E {Pn : Int → Prop} (h : EvAE tr env mus mus' (fun l => ∃ n, l = [.int n] ∧ Pn n)) (hb : ∀ n, Pn n → -(2 ^ 62) ≤ n ∧ n < 2 ^ 62) : ItLE (iRng1 tr) env mus mus' [] (fun ds => ∃ n, Pn n ∧ ds = rgD 0 n.toNat) := ⟨h.1, fun F σ H M E R q =>
  h.2 F σ H M E _ fun vs ds F1 H1 hd g1 m1 r1 => by
    obtain ⟨n, rfl, hn⟩ := hd
    obtain ⟨x, rfl, hx⟩ := one_of r1
    rw [rp_int.mp hx]
    exact ⟨n, rfl, (hb n hn).1, (hb n hn).2, q _ _ F1 H1 ⟨n, hn, rfl⟩ g1 m1 itr_ok⟩⟩
theorem it_listE {Pl : List Dt → Prop} (h : EvE tl env mus mus' (fun d => ∃ l, d = .lst l ∧ Pl l)) : ItLE (iOr (iList K tl) (iTup K tl)) env mus mus' [] Pl := ⟨h.1, fun F σ H M E R q => .inl (h.2 F σ H M E _ fun v d F1 H1 hd g1 m1 r1 => by
    obtain ⟨ds, rfl, hp⟩ := hd
    obtain ⟨a, xs, rfl, ha, hx⟩ := rp_lst.mp r1
    refine ⟨a, rfl, ⟨xs, SqL.of (g1.fh _ _ ha)⟩, q _ _ F1 H1 hp g1 m1 ⟨fun i F2 H2 hi s m => ?_, fun F2 H2 s m => ?_, fun i d F2 H2 x H3 hd s m y => ?_⟩⟩
    · have hi' : i < xs.length := by rw [← hx.length]; exact hi
      exact ⟨xs, xs[i], SqL.of (m.fh _ _ (s _ _ ha)), List.getElem?_eq_getElem hi'⟩
    · exact ⟨xs, SqL.of (m.fh _ _ (s _ _ ha)), by rw [hx.length]; exact Nat.le_refl _⟩
    · obtain ⟨rfl, y2⟩ := y
      obtain ⟨x', e1, e2⟩ := (hx.mono s).get hd
      have e3 := y2 xs (SqL.of (m.fh _ _ (s _ _ ha)))
      rw [e1] at e3
      cases e3
      exact ⟨F2, Gr.refl m.fh, e2⟩)⟩
/-- the pen, looked into and shut again -/
theorem t_penOpen {T : L2.St → Hp → Prop} (hj : mus[j]? = some (p, .pen k)) (h : ∀ (cells : List Int) (a z : Int), 0 ≤ a → a ≤ k → 0 ≤ z → cells.length ≤ 63 → Tr B F0 X env (mus.set j (p, .lst [.lst (cells.map Dt.int), .int a, .int z])) T) : Tr B F0 X env mus T := fun σ H a => by
  obtain ⟨F, g0, M, E, hB⟩ := a
  obtain ⟨n, o, e, cv, cells, at_, z, rfl, rc, h1, h2, h3, h4⟩ := M.mu _ (List.mem_of_getElem? hj)
  have M1 := M.set (m' := .lst [.lst (cells.map Dt.int), .int at_, .int z]) (o := .lst [cv, .int at_, .int z]) hj ⟨_, rfl, .cons rc (.cons (rp_int.mpr rfl) (.cons (rp_int.mpr rfl) .nil))⟩
  have eu : upd H p (.lst [cv, .int at_, .int z]) = H := by
    funext b
    by_cases hb : b = p
    · rw [hb, upd_same, e]
    · rw [upd_ne hb]
  rw [eu] at M1
  exact h cells at_ z h1 h2 h3 h4 σ H ⟨F, g0, M1, E, fun m hm => by
    obtain ⟨y, hy, e⟩ := mem_set_key hj hm
    rw [← e]
    exact hB y hy⟩
theorem MS.shut {F H : Hp} {cells : List Int} {a z : Int} (M : MS mus F H) (hj : mus[j]? = some (p, .lst [.lst (cells.map Dt.int), .int a, .int z])) (h1 : 0 ≤ a) (h2 : a ≤ k) (h3 : 0 ≤ z) (h4 : cells.length ≤ 63) : MS (mus.set j (p, .pen k)) F H := by
  obtain ⟨n, o, e, xs, rfl, rx⟩ := M.mu _ (List.mem_of_getElem? hj)
  obtain ⟨x1, r1, rfl, ra, rb⟩ := rx.inv
  obtain ⟨x2, r2, rfl, rc, rd⟩ := rb.inv
  obtain ⟨x3, r3, rfl, re, rf⟩ := rd.inv
  have rn := rf.inv0
  subst rn
  have ea := rp_int.mp rc
  have ez := rp_int.mp re
  subst ea ez
  have M1 := M.set (m' := .pen k) (o := .lst [x1, .int a, .int z]) hj ⟨x1, cells, a, z, rfl, ra, h1, h2, h3, h4⟩
  have eu : upd H p (.lst [x1, .int a, .int z]) = H := by
    funext b
    by_cases hb : b = p
    · rw [hb, upd_same, e]
    · rw [upd_ne hb]
  rw [eu] at M1
  exact M1
theorem t_penShut {T : L2.St → Hp → Prop} {cells : List Int} {a z : Int} (hj : mus[j]? = some (p, .lst [.lst (cells.map Dt.int), .int a, .int z])) (h1 : 0 ≤ a) (h2 : a ≤ k) (h3 : 0 ≤ z) (h4 : cells.length ≤ 63) (h : Tr B F0 X env (mus.set j (p, .pen k)) T) : Tr B F0 X env mus T := fun σ H a => by
  obtain ⟨F, g0, M, E, hB⟩ := a
  exact h σ H ⟨F, g0, M.shut hj h1 h2 h3 h4, E, fun m hm => by
    obtain ⟨y, hy, e⟩ := mem_set_key hj hm
    rw [← e]
    exact hB y hy⟩
theorem MS.penW {F H : Hp} (M : MS mus F H) (hj : mus[j]? = some (p, .pen k)) (hk : k ≤ k') : MS (mus.set j (p, .pen k')) F H := by
  obtain ⟨n, o, e, cv, cells, at_, z, rfl, rc, h1, h2, h3, h4⟩ := M.mu _ (List.mem_of_getElem? hj)
  have M1 := M.set (m' := .pen k') (o := .lst [cv, .int at_, .int z]) hj ⟨cv, cells, at_, z, rfl, rc, h1, by omega, h3, h4⟩
  have eu : upd H p (.lst [cv, .int at_, .int z]) = H := by
    funext b
    by_cases hb : b = p
    · rw [hb, upd_same, e]
    · rw [upd_ne hb]
  rw [eu] at M1
  exact M1
theorem t_penW {T : L2.St → Hp → Prop} (hj : mus[j]? = some (p, .pen k)) (hk : k ≤ k') (h : Tr B F0 X env (mus.set j (p, .pen k')) T) : Tr B F0 X env mus T := fun σ H a => by
  obtain ⟨F, g0, M, E, hB⟩ := a
  exact h σ H ⟨F, g0, M.penW hj hk, E, fun m hm => by
    obtain ⟨y, hy, e⟩ := mem_set_key hj hm
    rw [← e]
    exact hB y hy⟩
/-- a comprehension whose items draw from the pen -/
theorem ev_lcE {wi : TI} {g : TG} {vs is : List Nat} {Pw : List Dt → Prop} (hw : ItLE wi env mus mus1 [] Pw) (his : ∀ k ∈ is, k ∈ vs) (Mi : Nat → Mu) (hM0 : Mi 0 = mus1) (hMk : ∀ i, keys (Mi i) = keys mus1) (hk' : keys mus' = keys mus1)
    (ht : ∀ ds, Pw ds → ∀ (i : Nat) d, ds[i]? = some d → ∃ e', GD g (wipeE env vs) is d e' ∧ EvE te e' (Mi i) (Mi (i + 1)) P) (hn : ∀ ds, Pw ds → ds.length ≤ 100000) (hend : ∀ ds, Pw ds → ∀ F H, MS (Mi ds.length) F H → MS mus' F H) :
    EvE (tLc wi g tYes te vs) env mus mus' (fun d => ∃ l, d = .lst l ∧ (∃ ds, Pw ds ∧ l.length = ds.length) ∧ ∀ e ∈ l, P e) := ⟨hk'.trans hw.1, fun F σ H M E Q q =>
  hw.2 F σ H M E _ fun ds J F1 H1 hds g1 m1 ok D hD => by
    have hDk : ∀ {m}, m ∈ mus1 → m.1 ≠ D := fun {m} hm z => by
      obtain ⟨_, o, e, _⟩ := m1.mu m hm
      rw [z, hD] at e
      cases e
    have hDk2 : ∀ {i} {m}, m ∈ Mi i → m.1 ≠ D := fun {i m} hm => by
      have h1 : m.1 ∈ keys mus1 := by rw [← hMk i]; exact List.mem_map.mpr ⟨m, hm, rfl⟩
      obtain ⟨m', hm', e⟩ := List.mem_map.mp h1
      rw [← e]
      exact hDk hm'
    have hn' := hn ds hds
    refine ⟨fun i m H' => m = ds.length - i ∧ i ≤ ds.length ∧ ∃ F' acc l, GrM mus1 H1 F1 F' H' ∧ MS (Mi i) F' H' ∧ F' D = none ∧ H' D = some (.lst acc) ∧ l.length = i ∧ (∀ e ∈ l, P e) ∧ RpL F' l acc,
      ⟨ds.length, rfl, Nat.zero_le _, F1, [], [], .of (Gr.newM g1.fh hD), by rw [hM0]; exact m1.grow (Gr.newM g1.fh hD), g1.fh.free hD, upd_same, rfl, fun _ z => (nomatch z), .nil⟩, ?_⟩
    rintro i m H' ⟨rfl, hi, F', acc, l, g2, M2, nD, eD, hlen, hl, hr⟩
    have MS0 : MS [] F' H' := ⟨M2.fh, fun _ z => (nomatch z), .nil⟩
    by_cases hlt : i < ds.length
    · have hd : ds[i]? = some ds[i] := List.getElem?_eq_getElem hlt
      refine .inr ⟨ok.goes i F' H' hlt g2.ff MS0, fun H' => ∃ F' acc l, GrM mus1 H1 F1 F' H' ∧ MS (Mi (i + 1)) F' H' ∧ F' D = none ∧ H' D = some (.lst acc) ∧ l.length = i + 1 ∧ (∀ e ∈ l, P e) ∧ RpL F' l acc, fun H2 h2 => ⟨ds.length - (i + 1), by omega, rfl, hlt, h2⟩, fun x H2 y => ?_⟩
      obtain ⟨F3, g3, r3⟩ := ok.yields i _ F' H' x H2 hd g2.ff MS0 y
      obtain ⟨e', gd, et⟩ := ht ds hds i _ hd
      have E3 : ES env F3 σ := (E.mono g1.ff).mono (g2.ff.trans g3.ff)
      refine gd F3 _ H2 x g3.fh (E3.wipe vs) r3 _ fun σ2 E2 hl2 hk => ⟨wipe_eq (by rw [hl2, wipe_length]) fun k hkv => ?_, ?_⟩
      · rw [hk k (fun z => hkv (his k z)), wipe_out hkv]
      · unfold tYes
        dsimp only
        rw [if_pos rfl]
        have M3 := M2.grow g3
        have nD3 : F3 D = none := (g3.fr D _ eD (fun _ z => nomatch z)).trans nD
        have eD3 := g3.bh _ _ eD
        refine et.2 F3 σ2 H2 M3 E2 _ fun v d F5 H5 hP g5 M5 r5 => ?_
        have gD := g5 (fun a => if a = D then H2 D else none) (fun a u e => by
          dsimp only at e
          split at e
          · rename_i z; rw [z]; exact e
          · cases e) (fun m hm => if_neg (hDk2 hm))
        have hBD : (fun a => if a = D then H2 D else none) D = some (.lst acc) := by
          dsimp only
          rw [if_pos rfl, eD3]
        have eD5 : H5 D = some (.lst acc) := gD.bh _ _ hBD
        have nD5 : F5 D = none := (gD.fr D _ hBD (fun _ z => nomatch z)).trans nD3
        refine ⟨acc, eD5, sz_lt (by rw [← hr.length]; omega), F5, acc ++ [v], l ++ [d], ?_, ⟨?_, ?_, M5.nd⟩, nD5, upd_same, by rw [List.length_append, hlen, List.length_singleton], ?_, ?_⟩
        · have g25 : GrM mus1 H1 F1 F5 H5 := (g2.trans rfl (.of g3)).trans (hMk i) g5
          intro B hB hm
          have gb := g25 B hB hm
          refine ⟨gb.ff, fun a o e => ?_, fun a o e => ?_, gb.fr⟩
          · rw [upd_ne (ne_of_none e nD5)]
            exact gb.fh a o e
          · rw [upd_ne (ne_of_none e (hB.free hD))]
            exact gb.bh a o e
        · intro a o e
          rw [upd_ne (ne_of_none e nD5)]
          exact M5.fh a o e
        · intro m hm
          obtain ⟨n, o, e, r⟩ := M5.mu m hm
          exact ⟨n, o, by rw [upd_ne (hDk2 hm)]; exact e, r⟩
        · intro e he
          rcases List.mem_append.mp he with z | z
          · exact hl e z
          · rw [List.mem_singleton.mp z]
            exact hP
        · exact (hr.mono (g3.ff.trans g5.ff)).append (.cons r5 .nil)
    · have e : i = ds.length := by omega
      subst e
      have M3 := hend ds hds F' H' M2
      have hsF : Same F' (upd F' D (.lst acc)) := same_new nD
      refine .inl ⟨ok.stops F' H' g2.ff MS0, q _ (.lst l) (upd F' D (.lst acc)) H' ⟨l, rfl, ⟨ds, hds, hlen⟩, hl⟩ (fun B hB hm => ?_) ⟨?_, ?_, M3.nd⟩ (rp_lst.mpr ⟨D, acc, rfl, upd_same, hr.mono hsF⟩)⟩
      · have ga := g1 B hB hm
        have gb := g2 B ga.bh (av_keys hw.1 hm)
        have gg := ga.then gb
        refine ⟨gg.ff.trans hsF, fun a o e => ?_, gg.bh, fun a o e n => ?_⟩
        · by_cases ha : a = D
          · rw [ha, upd_same] at e
            rw [ha, eD, ← e]
          · rw [upd_ne ha] at e
            exact gg.fh a o e
        · rw [upd_ne (ne_of_none e (ga.bh.free hD))]
          exact gg.fr a o e n
      · intro a o e
        by_cases ha : a = D
        · rw [ha, upd_same] at e
          rw [ha, eD, ← e]
        · rw [upd_ne ha] at e
          exact M3.fh a o e
      · intro m hm
        obtain ⟨n, o, e, r⟩ := M3.mu m hm
        have hne : m.1 ≠ D := by
          have h1 : m.1 ∈ keys mus1 := by rw [← hk']; exact List.mem_map.mpr ⟨m, hm, rfl⟩
          obtain ⟨m', hm', e'⟩ := List.mem_map.mp h1
          rw [← e']
          exact hDk hm'
        exact ⟨by rw [upd_ne hne]; exact n, o, e, r.mono hsF⟩⟩
end
/-- a def that draws keeps its promise -/
theorem ok_eff {P : Program} {w : World} {K : PySem.W.Frag} {mg : Str → Option Value} {base : Heap} {x qual : Str} {st : Stmt} {f : Addr} {fd : FuncData} {N ps : List Str} {k : Nat} {R : Nat → List Dt → Nat → (Dt → Prop) → Prop} (F : Fun K x qual st f fd) (S : FnScope N ps (defScope st))
    (len : ∀ c ds c' p, R c ds c' p → ds.length + 1 = ps.length)
    (hbody : ∀ (cdv : Value) (A : Around) (outer : List PySem.Env) (s : Shared) (H : Hp) (E : XK), Room k (A.deeper (envOfC qual (defScope st) s.heap.objs.size f cdv)) →
      ∃ t, PSs (cxOf CX0 P w K mg base N qual (defScope st) f cdv A outer s H E).nox (defBody st) t ∧
        ∀ c ds c' p, R c ds c' p → ∀ (B F0 : Hp) (D : Ends) (a : Addr), B a = none → (∀ v d F' H', p d → Gr B F0 F' H' → MS [(a, .pen c')] F' H' → Rp F' d v → D.rt v H') → Tr B F0 F0 (some (.ptr a) :: ds.map some ++ List.replicate (N.length - (ds.length + 1)) none) [(a, .pen c)] (t D)) :
    FnOk P w K mg base CX0 (k + 1) f fd ps (SpE R) := by
  refine F.ok S (fun vs H Q E h => ?_) (fun cdv A outer s H vs Q E hr h => ?_)
  · obtain ⟨F0, a, c, ds, c', p, _, hl, hR, _⟩ := h
    rw [← hl.length]
    exact len _ _ _ _ hR
  · obtain ⟨F0, a, c, ds, c', p, hM, hl, hR, q⟩ := h
    obtain ⟨t, ht, hq⟩ := hbody cdv A outer s H E hr
    refine ⟨t, ht, hq c ds c' p hR (hideP a H) F0 _ a hideP_at (fun v d F' H' hp g M' r => q v d F' H' hp (fun B hB hm => g.less fun b o e => ?_) M' r) _ _ ⟨F0, ⟨⟨Same.refl _, hM.fh, hideP_same, fun _ _ _ _ => rfl⟩, Same.refl _⟩, hM, ⟨?_, fun i d' hi => ?_⟩, fun m hm => by rw [List.mem_singleton.mp hm]; exact hideP_at⟩⟩
    · have hba : b ≠ a := fun z => by
        have := hm _ (List.mem_singleton.mpr rfl)
        rw [z, this] at e
        cases e
      rw [hideP_ne hba]
      exact hB b o e
    · unfold L2.start
      have := hl.length
      simp only [List.length_append, List.length_map, List.length_replicate, List.length_cons] at this ⊢
      omega
    · unfold L2.start
      have hlen := hl.length
      rw [List.length_cons] at hlen
      have e : (some (Dt.ptr a) :: ds.map some : List (Option Dt)) = (Dt.ptr a :: ds).map some := rfl
      rw [e] at hi
      by_cases hlt : i < (Dt.ptr a :: ds).length
      · rw [List.getElem?_append_left (by rw [List.length_map]; exact hlt), List.getElem?_map] at hi
        obtain ⟨d0, e1, e2⟩ := Option.map_eq_some_iff.mp hi
        cases e2
        obtain ⟨v, e3, r⟩ := hl.get e1
        exact ⟨v, by rw [List.getElem?_append_left (by rw [List.length_map, ← hl.length]; exact hlt), List.getElem?_map, e3]; rfl, r⟩
      · rw [List.getElem?_append_right (by rw [List.length_map]; omega), List.getElem?_replicate] at hi
        split at hi <;> cases hi
/-- a def that gives a new list keeps its promise -/
theorem ok_new {P : Program} {w : World} {K : PySem.W.Frag} {mg : Str → Option Value} {base : Heap} {x qual : Str} {st : Stmt} {f : Addr} {fd : FuncData} {N ps : List Str} {k : Nat} {R : List Dt → List Dt → Prop} (F : Fun K x qual st f fd) (S : FnScope N ps (defScope st))
    (len : ∀ ds d, R ds d → ds.length = ps.length)
    (hbody : ∀ (cdv : Value) (A : Around) (outer : List PySem.Env) (s : Shared) (H : Hp) (E : XK), Room k (A.deeper (envOfC qual (defScope st) s.heap.objs.size f cdv)) →
      ∃ t, PSs (cxOf CX0 P w K mg base N qual (defScope st) f cdv A outer s H E).nox (defBody st) t ∧
        ∀ ds es, R ds es → ∀ (B F0 : Hp) (D : Ends), (∀ p xs F' H', Gr B F0 F' H' → F' p = none → B p = none → H' p = some (.lst xs) → RpL F' es xs → D.rt (.ref p) H') → Tr B F0 F0 (ds.map some ++ List.replicate (N.length - ds.length) none) [] (t D)) :
    FnOk P w K mg base CX0 (k + 1) f fd ps (SpN R) := by
  refine F.ok S (fun vs H Q E h => ?_) (fun cdv A outer s H vs Q E hr h => ?_)
  · obtain ⟨F0, ds, d, _, hl, hR, _⟩ := h
    rw [← hl.length]
    exact len ds d hR
  · obtain ⟨F0, ds, d, hs, hl, hR, q⟩ := h
    obtain ⟨t, ht, hq⟩ := hbody cdv A outer s H E hr
    refine ⟨t, ht, hq ds d hR H F0 _ (fun p xs F' H' g n b e r => q p xs F' H' g n b e r) _ _ ⟨F0, ⟨Gr.refl hs, Same.refl _⟩, ⟨hs, fun m hm => (nomatch hm), .nil⟩, ⟨?_, fun i d' hi => ?_⟩, fun m hm => (nomatch hm)⟩⟩
    · unfold L2.start
      rw [List.length_append, List.length_append, List.length_map, List.length_map, List.length_replicate, List.length_replicate, hl.length]
    · unfold L2.start
      by_cases hlt : i < ds.length
      · rw [List.getElem?_append_left (by rw [List.length_map]; exact hlt), List.getElem?_map] at hi
        obtain ⟨d0, e1, e2⟩ := Option.map_eq_some_iff.mp hi
        cases e2
        obtain ⟨v, e3, r⟩ := hl.get e1
        exact ⟨v, by rw [List.getElem?_append_left (by rw [List.length_map, ← hl.length]; exact hlt), List.getElem?_map, e3]; rfl, r⟩
      · rw [List.getElem?_append_right (by rw [List.length_map]; omega), List.getElem?_replicate] at hi
        split at hi <;> cases hi
end KB
namespace KB
open PySem PySem.Spec PyProof.Rows L2
local macro_rules | `(tactic| walk_at "at") => `(tactic| first | assumption | (exact atI_nat (j := 0) rfl) | (exact atI_nat (j := 1) rfl) | (exact atI_nat (j := 2) rfl) | (exact atI_nat (by assumption)) | (exact atI_map _ (by assumption)) | (exact atI_of (by assumption) (by omega)))
local macro_rules | `(tactic| walk_at "side") => `(tactic| first | assumption | decide | omega | (simp; done))
local macro_rules | `(tactic| walk_at "rd") => `(tactic| first
  | exact rd_addI | exact rd_i0 | exact rd_b0 | exact rd_eq | exact rd_ne | exact rd_neB
  | (refine' rd_xT ?ka; (case ka => walk_at "at")) | (refine' rd_xL ?ka; (case ka => walk_at "at")) | (refine' rd_xM ?kb ?ka; (case kb => simp; done); (case ka => walk_at "at"))
  | (refine' rd_mulI ?ka; (case ka => walk_at "side"))
  | (refine' rd_addT ?ka; (case ka => walk_at "side"))
  | (refine' rd_i ?ka; (case ka => walk_at "side"))
  | exact rd_isN | (exact rd_isN0 (by intro z; cases z)) | exact rd_notN | (exact rd_notN1 (by intro z; cases z)) | exact rd_inB | exact rd_inT)
local macro_rules | `(tactic| walk_at "rc") => `(tactic| first | exact rc_lenT | exact rc_lenL | (refine' rc_lenM ?ka; (case ka => simp; done)) | exact rc_sumXL | exact rc_sumXT | (refine' rc_sumXM ?ka; (case ka => simp; done)) | exact rc_tupL | (refine' rc_tupM ?ka; (case ka => simp; done)) | exact rc_int | exact rc_min2 | (exact rc_isi (by decide) (by decide +kernel)) | (exact rc_isiT (by decide) (by decide +kernel) (by decide +kernel)))
local macro_rules | `(tactic| walk_at "eo") => `(tactic| first | exact eo_none | (refine' eo_some ?ka; (case ka => walk_at "ev")))
local macro_rules | `(tactic| walk_at "ea") => `(tactic| first | exact ea_nil | (refine' ea_cons ?ka ?kb; (case ka => walk_at "ev"); (case kb => walk_at "ea")))
local macro_rules | `(tactic| walk_at "en") => `(tactic| first
  | (refine' en_lst ?ka ?kb; (case ka => walk_at "ea"); (case kb => walk_at "side"))
  | (refine' en_sliceL ?ka ?kb ?kc; (case ka => walk_at "ev"); (case kb => walk_at "eo"); (case kc => walk_at "eo"))
  | (refine' en_op ?ka ?kb ?kc; (case ka => walk_at "ev"); (case kb => walk_at "ev"); (case kc => first | (refine' rn_addL ?kd; (case kd => walk_at "side")) | (refine' rn_mulL ?kd ?ke ?kf; (case kd => walk_at "side"); (case ke => walk_at "side"); (case kf => walk_at "side")))))
local macro_rules | `(tactic| walk_at "ev") => `(tactic| first
  | exact ev_var rfl | exact ev_int | exact ev_bl | exact ev_non | exact ev_str | exact ev_ty | assumption
  | (refine' ev_op ?ka ?kb ?kc; (case ka => walk_at "ev"); (case kb => walk_at "ev"); (case kc => walk_at "rd"))
  | (refine' ev_un ?ka; (case ka => walk_at "ev"))
  | (refine' ev_tup ?ka ?kb; (case ka => walk_at "ea"); (case kb => walk_at "side"))
  | (refine' ev_cb ?ka ?kb; (case ka => walk_at "ea"); (case kb => walk_at "rc"))
  | (refine' ev_sliceT ?ka ?kb ?kc; (case ka => walk_at "ev"); (case kb => walk_at "eo"); (case kc => walk_at "eo"))
  | (refine' ev_notV ?ka; (case ka => walk_at "ev"))
  | (refine' EvN.toD ?ka; (case ka => walk_at "en")))
local macro_rules | `(tactic| walk_at "n") => `(tactic| first | dsimp only [List.set_cons_zero, List.set_cons_succ, List.map_cons, List.map_nil, List.cons_append, List.nil_append, List.length_cons, List.length_nil, Nat.add_sub_cancel, List.replicate] | skip)
/-! ### the script, read from where it lies -/
def EvNB (B : Hp) (te : TE) (env : Env_) (mus : Mu) (ds : List Dt) : Prop := ∀ F σ H, Same B H → MS mus F H → ES env F σ → ∀ Q : VK, (∀ p xs F' H', Gr H F F' H' → F' p = none → H p = none → H' p = some (.lst xs) → RpL F' ds xs → Q (.ref p) H') → te σ H Q
section
variable {B F0 X : Hp} {env : Env_} {mus mus0 : Mu} {te : TE} {D : Ends} {i : Nat} {ds : List Dt} {K : PySem.W.Frag} {a : Addr} {ns : List Int} {lo hi : Option Int} {sl sh : TO}
theorem sql_up {H H' : Hp} {xs : List V} (h : SqL K H a xs) (s : Same H H') : SqL K H' a xs := by
  rcases h with (h | ⟨o, h⟩) | h
  · exact .inl (.inl (s _ _ h))
  · exact .inl (.inr ⟨o, s _ _ h⟩)
  · exact .inr h
theorem enb_slice (hs : SqL K B a (ns.map V.int)) (h : env[i]? = some (some (.ptr a))) (hl : EvO sl env mus lo) (hh : EvO sh env mus hi) : EvNB B (tSl (rSlX K) (tVar i) sl sh) env mus (cutD (ns.map Dt.int) lo hi) := fun F σ H hB M E Q q =>
  ev_var (mus := mus) h F σ H M E _ fun v F1 H1 g1 r1 => hl F1 σ H1 (M.grow g1) (E.mono g1.ff) _ fun F2 H2 g2 => hh F2 σ H2 ((M.grow g1).grow g2) ((E.mono g1.ff).mono g2.ff) _ fun F3 H3 g3 => .inr (by
    have g := (g1.trans g2).trans g3
    exact ⟨a, _, rp_ptr.mp r1, sql_up hs (hB.trans g.bh), fun p hp => q p _ F3 _ (g.trans (Gr.newM g.fh hp)) (g.fh.free hp) (g.bh.free hp) upd_same ((RpL.ofInts ns).cut lo hi)⟩)
theorem enb_copy (h : EvNB B te env mus ds) : EvNB B (tCB (fun xs H Q => ∃ p ys, xs = [.ref p] ∧ (SqL K H p ys ∨ SqT K H p ys) ∧ ∀ l, H l = none → Q (.ref l) (upd H l (.lst ys))) (tCons te tNil)) env mus ds := fun F σ H hB M E Q q =>
  h F σ H hB M E _ fun p xs F1 H1 g1 n1 n0 e1 r1 => ⟨p, xs, rfl, .inl (SqL.of e1), fun l hl => q l xs F1 _ (g1.trans (Gr.newM g1.fh hl)) (g1.fh.free hl) (g1.bh.free hl) upd_same r1⟩
theorem t_asgNB (h : EvNB B te env mus ds) (k : ∀ p, Tr B F0 X (env.set i (some (.ptr p))) ((p, .lst ds) :: mus) D.nx) : Tr B F0 X env mus (tAsg te (gName i) D) := fun σ H a => by
  obtain ⟨F, g0, M, E, hB⟩ := a
  refine h F σ H g0.bh M E _ fun p xs F1 H1 g1 n1 n0 e1 r1 => ?_
  obtain ⟨b0, hne⟩ := newkey g0 M n0
  refine k p _ _ ⟨F1, g0.trans g1, (M.grow g1).cons (m := .lst ds) n1 e1 ⟨xs, rfl, r1⟩ hne, (E.mono g1.ff).set (rp_ptr.mpr rfl), fun m hm => ?_⟩
  rcases List.mem_cons.mp hm with z | z
  · rw [z]; exact b0
  · exact hB m z
def ItLB (B : Hp) (wi : TI) (env : Env_) (mus mus0 : Mu) (ds : List Dt) : Prop := ∀ F σ H, Same B H → MS mus F H → ES env F σ → ∀ R : It → Hp → Prop, (∀ J F1 H1, Gr H F F1 H1 → ItOk J mus0 ds F1 → R J H1) → wi σ H R
theorem itb_enum {w2 : TI} (h : EvNB B te env mus ds) : ItLB B (iOr (iEnum K (tCons te tNil)) w2) env mus [] (enD ds) := fun F σ H hB M E R q => .inl (
  h F σ H hB M E _ fun a xs F0' H1 g1 n1 n0 ea hx0 => by
    have hsF : Same F0' (upd F0' a (.lst xs)) := same_new n1
    have g2 : Gr H F (upd F0' a (.lst xs)) H1 := ⟨g1.ff.trans hsF, fun b o e => by
      by_cases hb : b = a
      · subst hb
        rw [upd_same] at e
        rw [ea]
        exact e
      · rw [upd_ne hb] at e
        exact g1.fh b o e, g1.bh, fun b o e n => by
      rw [upd_ne (ne_of_none e n0)]
      exact g1.fr b o e n⟩
    have ha : (upd F0' a (.lst xs)) a = some (.lst xs) := upd_same
    have hx := hx0.mono hsF
    refine ⟨a, xs, rfl, SqL.of ea, q _ _ H1 g2 ⟨fun i F2 H2 hi s m => ?_, fun F2 H2 s m => ?_, fun i d F2 H2 x H3 hd s m y => ?_⟩⟩
    · have hi' : i < xs.length := by rw [← hx.length, ← enD_len]; exact hi
      exact ⟨xs, xs[i], SqL.of (m.fh _ _ (s _ _ ha)), List.getElem?_eq_getElem hi'⟩
    · exact ⟨xs, SqL.of (m.fh _ _ (s _ _ ha)), by rw [enD_len, hx.length]; exact Nat.le_refl _⟩
    · obtain ⟨T, x', rfl, hT, he, y2⟩ := y
      obtain ⟨d0, e0, rfl⟩ := enD_get hd
      obtain ⟨x2, e1, e2⟩ := (hx.mono s).get e0
      have e3 := y2 xs (SqL.of (m.fh _ _ (s _ _ ha)))
      rw [e1] at e3
      cases e3
      exact yld_pair m.fh hT he (rp_int.mpr rfl) e2)
theorem t_forB {wi : TI} {g : TG} {ts : TS} (hw : ItLB B wi env mus mus0 ds) (hnd : (mus0.map (·.1)).Nodup) (Inv : Nat → Env_ → Mu → Prop) (h0 : Inv 0 env mus) (hsub : ∀ i e m, i ≤ ds.length → Inv i e m → ∀ x ∈ mus0, x ∈ m)
    (hs : ∀ X', Same X X' → ∀ (i : Nat) d e m, ds[i]? = some d → Inv i e m → ∃ is e', GD g e is d e' ∧ Tr B F0 X' e' m (ts { D with nx := asr B F0 X' (Inv (i + 1)), ct := asr B F0 X' (Inv (i + 1)), bk := D.nx }))
    (hd : ∀ e m, Inv ds.length e m → Tr B F0 X e m D.nx) : Tr B F0 X env mus (tFor wi g ts D) := fun σ H a => by
  obtain ⟨F, g0, M, E, hB⟩ := a
  refine hw F σ H g0.bh M E _ fun J F1 H1 g1 ok => ?_
  have hX : Same X F1 := g0.xf.trans g1.ff
  refine ⟨fun i m σ' H' => m = ds.length - i ∧ i ≤ ds.length ∧ asr B F0 F1 (Inv i) σ' H', ⟨ds.length, rfl, Nat.zero_le _, env, mus, h0, F1, ⟨(g0.trans g1).toGr, Same.refl _⟩, M.grow g1, E.mono g1.ff, hB⟩, ?_⟩
  rintro i m σ' H' ⟨rfl, hi, e, mu, iv, F', g2, M2, E2, hB2⟩
  have MS0 := M2.sub (hsub i e mu hi iv) hnd
  by_cases hlt : i < ds.length
  · have hdi : ds[i]? = some ds[i] := List.getElem?_eq_getElem hlt
    obtain ⟨is, e', gd, tr⟩ := hs F1 hX i _ e mu hdi iv
    refine .inr ⟨ok.goes i F' H' hlt g2.xf MS0, asr B F0 F1 (Inv (i + 1)), fun σ2 H2 h2 => ⟨ds.length - (i + 1), by omega, rfl, hlt, h2⟩, fun x H2 y => ?_⟩
    obtain ⟨F3, g3, r3⟩ := ok.yields i _ F' H' x H2 hdi g2.xf MS0 y
    exact gd F3 σ' H2 x g3.fh (E2.mono g3.ff) r3 _ fun σ2 E3 _ _ => tr σ2 H2 ⟨F3, g2.trans g3, M2.grow g3, E3, hB2⟩
  · have ei : i = ds.length := by omega
    subst ei
    exact .inl ⟨ok.stops F' H' g2.xf MS0, hd e mu iv σ' H' ⟨F', ⟨g2.toGr, hX.trans g2.xf⟩, M2, E2, hB2⟩⟩
end
/-- what opens the pen: the script at its argument -/
def SpO (K : PySem.W.Frag) : Sp := fun vs H Q _ => ∃ (F : Hp) (a : Addr) (ns : List Int), Same F H ∧ vs = [.ref a] ∧ SqL K H a (ns.map V.int) ∧ ns.length ≤ 63 ∧
  ∀ p xs F' H' (cells : List Int), cells.length ≤ 63 → Gr H F F' H' → F' p = none → H p = none → H' p = some (.lst xs) → RpL F' [.lst (cells.map Dt.int), .int 0, .int 0] xs → Q (.ref p) H'
section
variable {P : Program} {w : World} {K : PySem.W.Frag} {mg : Str → Option Value} {base : Heap}
abbrev s_L_open : Stmt := topS 15
theorem sc_L_open : FnScope ["_law_script", "_law_cells", "_law_k", "_law_cell"] ["_law_script"] (defScope s_L_open) := ⟨rfl, rfl, rfl, by decide +kernel, rfl, by decide +kernel, by decide +kernel⟩
theorem ok_L_open {f : Addr} {fd : FuncData} (F : Fun K "_law_open" "_law_open" s_L_open f fd) (Z : Bz mg) : FnOk P w K mg base CX0 1 f fd ["_law_script"] (SpO K) := by
  refine F.ok sc_L_open (fun vs H Q E h => ?_) (fun cdv A outer s H vs Q E hr h => ?_)
  · obtain ⟨F0, a, ns, _, rfl, _⟩ := h
    rfl
  · have nd := sc_L_open.nd
    obtain ⟨F0, a, ns, hs, rfl, hq, hn, q⟩ := h
    refine ⟨_, (pss_cons (ps_set (i := 1) nd rfl (Or.inl rfl) (pe_callTy call_list_of (by rfl) Z.list (by decide +kernel) (pa_cons (pe_slice (sl_XK (K := K) rfl) (pv 0) po_none (po_some pe_int)) pa_nil)))
      (pss_cons (ps_for PassesOwn.never rfl (pi_or (pi_enum (by rfl) Z.enumerate (pa_cons (pe_slice (sl_XK (K := K) rfl) (pv 0) (po_some pe_int) (po_some pe_int)) pa_nil)) (pi_enumT (by rfl) Z.enumerate (pa_cons (pe_slice (sl_XK (K := K) rfl) (pv 0) (po_some pe_int) (po_some pe_int)) pa_nil))) (pg_tup rfl (pgs_cons (pg_name (i := 2) nd rfl (Or.inl rfl)) (pgs_cons (pg_name (i := 3) nd rfl (Or.inl rfl)) pgs_nil))) (pss_one (ps_asg (pe_op (op_addXK (K := K) rfl) (pe_ix (ix_seqK (K := K) rfl) (pv 1) (pe_op op_mod (pe_callTy call_int1 (by rfl) Z.int (by decide +kernel) (pa_cons (pv 2) pa_nil)) pe_int) (fun _ _ => rfl)) (pv 3)) (pg_sub (pv 1) (pe_op op_mod (pe_callTy call_int1 (by rfl) Z.int (by decide +kernel) (pa_cons (pv 2) pa_nil)) pe_int) set_list))))
      (pss_one (ps_ret (pe_lst (pa_cons (pv 1) (pa_cons pe_int (pa_cons pe_int pa_nil)))))))), ?_⟩
    suffices hT : Tr H F0 F0 [some (.ptr a), none, none, none] [] (_ : L2.St → Hp → Prop) from
      hT _ _ ⟨F0, ⟨Gr.refl hs, Same.refl _⟩, ⟨hs, fun m hm => (nomatch hm), .nil⟩, ⟨rfl, fun i d' hi => by
        match i, hi with
        | 0, hi =>
          cases hi
          exact ⟨_, rfl, rp_ptr.mpr rfl⟩
        | 1, hi => cases hi
        | 2, hi => cases hi
        | 3, hi => cases hi
        | i + 4, hi => simp at hi⟩, fun m hm => (nomatch hm)⟩
    refine t_seq ?_
    walk_at "n"
    refine t_asgNB (enb_copy (enb_slice (lo := none) (hi := some ((12 : Nat) : Int)) hq rfl eo_none (eo_some ev_int))) fun p => ?_
    walk_at "n"
    refine t_seq ?_
    rw [show cutD (ns.map Dt.int) none (some ((12 : Nat) : Int)) = (ns.take 12).map Dt.int by rw [cutD_map, cutD_0n]]
    refine t_forB (itb_enum (enb_slice (lo := some ((12 : Nat) : Int)) (hi := some ((63 : Nat) : Int)) hq rfl (eo_some ev_int) (eo_some ev_int))) .nil (fun i env mus => ∃ (cs : List Int) (x2 x3 : Option Dt), env = [some (.ptr a), some (.ptr p), x2, x3] ∧ mus = [(p, .lst (cs.map Dt.int))] ∧ cs.length = min 12 ns.length)
      ⟨ns.take 12, none, none, rfl, rfl, List.length_take⟩ (fun _ _ _ _ _ x hx => nomatch hx) ?_ ?_
    · rintro X' hX i d env mus hd ⟨cs, x2, x3, rfl, rfl, hcs⟩
      obtain ⟨d0, e0, rfl⟩ := enD_get hd
      rw [cutD_map, cutD_nn, List.getElem?_map] at e0
      obtain ⟨c, hc, rfl⟩ := Option.map_eq_some_iff.mp e0
      have hil := getlt hc
      rw [List.length_take, List.length_drop] at hil
      have hc12 : cs.length = 12 := by omega
      refine ⟨_, _, gd_tup2, ?_⟩
      walk_at "n"
      have hmod : ∀ {mus : Mu}, EvD (tOp (rI (fun _ j => 0 < j) fun i j => .int (i % j)) (tCB (fun xs H Q => (∃ i, xs = [V.int i] ∧ Q (.int i) H) ∨ ∃ k, xs = [V.bl k] ∧ Q (.int (if k then 1 else 0)) H) (tCons (tVar 2) tNil)) (tC (.int 12))) [some (.ptr a), some (.ptr p), some (.int (i : Nat)), some (.int c)] mus (.int ((i % 12 : Nat) : Int)) := fun {mus} =>
        (ev_op (d2 := .int 12) (ev_cb (ea_cons (ev_var rfl) ea_nil) rc_int) ev_int (rd_i (by decide))).is (by congr 1)
      have hlt : i % 12 < cs.length := by rw [hc12]; exact Nat.mod_lt _ (by decide)
      obtain ⟨y, hy⟩ : ∃ y, cs[i % 12]? = some y := ⟨_, List.getElem?_eq_getElem hlt⟩
      refine t_setitem (j := 0) (d := .int (y + c)) (n := i % 12) (z := ((i % 12 : Nat) : Int)) rfl (ev_op (d1 := .int y) (ev_op (ev_var rfl) hmod (rd_xM (List.mem_cons_self ..) (atI_map Dt.int hy))) (ev_var rfl) rd_addI) (ev_var rfl) hmod (ixN_nat (by rw [List.length_map]; exact hlt)) ?_
      refine tr_asr ⟨cs.set (i % 12) (y + c), _, _, rfl, ?_, by rw [List.length_set]; exact hcs⟩
      rw [List.map_set]
      rfl
    · rintro env mus ⟨cs, x2, x3, rfl, rfl, hcs⟩
      refine t_freeze (i := 1) (j := 0) rfl rfl ?_
      walk_at "n"
      refine t_retN (en_lst (ds := [.lst (cs.map Dt.int), .int 0, .int 0]) (ea_cons (ev_var rfl) (ea_cons ev_int (ea_cons ev_int ea_nil))) (show 3 ≤ 100000 by decide)) fun p2 xs F' H' g _ n b e r => q p2 xs F' H' cs (by omega) g n b e r
/-! ### the pen's arithmetic -/
def primes : List Int := [2147483629, 2147483587, 2147483579, 2147483563, 2147483549, 2147483543, 2147483497, 2147483489] ++ [2147483477, 2147483423, 2147483399, 2147483353, 2147483323]
def prm (i : Int) : Int := primes.getD (i % 13).toNat 0
theorem prm_ok (i : Int) : L2.atI (primes.map Dt.int) (i % 13) = some (.int (prm i)) ∧ 0 < prm i ∧ prm i < 2147483648 := by
  have h0 : 0 ≤ i % 13 := Int.emod_nonneg _ (by decide)
  have h1 : i % 13 < 13 := Int.emod_lt_of_pos _ (by decide)
  have hl : (i % 13).toNat < primes.length := by
    show (i % 13).toNat < 13
    omega
  have e : primes[(i % 13).toNat]? = some (prm i) := by
    unfold prm
    rw [List.getD_eq_getElem?_getD, List.getElem?_eq_getElem hl]
    rfl
  refine ⟨atI_of (i := (i % 13).toNat) (by rw [List.getElem?_map, e]; rfl) (by omega), ?_⟩
  have hm := List.mem_of_getElem? e
  have hall : ∀ x ∈ primes, 0 < x ∧ x < 2147483648 := by decide
  exact hall _ hm
def sprU (c a : Int) : Int := ((c % 1000000007 * (2 * a + 69069) + a * 40503 + 977) ^ 3) % prm a
def sprV (c a : Int) : Int := ((sprU c a * (a + 3) + c % 65537 + 5) ^ 5) % prm (a + 5)
def sprW (c a : Int) : Int := ((sprV c a + sprU c a % 1009 + a) ^ 3) % prm (a + 7)
def spread (c a : Int) : Int := if 10 ^ 18 ≤ c then c else (sprU c a * 2147483647 + sprV c a) * 2147483647 + sprW c a
theorem modb (x a : Int) : 0 ≤ x % prm a ∧ x % prm a < 2147483648 := by
  have h := prm_ok a
  have h1 := Int.emod_nonneg x (show prm a ≠ 0 by omega)
  have h2 := Int.emod_lt_of_pos x h.2.1
  omega
theorem spread_nn (c a : Int) : 0 ≤ spread c a := by
  unfold spread
  split
  · omega
  · have h1 := modb ((c % 1000000007 * (2 * a + 69069) + a * 40503 + 977) ^ 3) a
    have h2 := modb ((sprU c a * (a + 3) + c % 65537 + 5) ^ 5) (a + 5)
    have h3 := modb ((sprV c a + sprU c a % 1009 + a) ^ 3) (a + 7)
    have e1 : 0 ≤ sprU c a := h1.1
    have e2 : 0 ≤ sprV c a := h2.1
    have e3 : 0 ≤ sprW c a := h3.1
    omega
def R_spread : List Dt → Dt → Prop := fun ds d => ∃ c a : Int, 0 ≤ a ∧ a ≤ 1000001 ∧ ds = [.int c, .int a] ∧ d = .int (spread c a)
theorem pow3 {x : Int} (h : x.natAbs < 2 ^ 64) : CPow x 3 := ⟨by decide, by decide, h⟩
abbrev s_L_spread : Stmt := topS 16
theorem sc_L_spread : FnScope ["_law_cell", "_law_at", "_law_primes", "_law_u", "_law_v", "_law_w"] ["_law_cell", "_law_at"] (defScope s_L_spread) := ⟨rfl, rfl, rfl, by decide +kernel, rfl, by decide +kernel, by decide +kernel⟩
theorem ok_L_spread {f : Addr} {fd : FuncData} (F : Fun K "_law_spread" "_law_spread" s_L_spread f fd) (Z : Bz mg) : FnOk P w K mg base CX0 1 f fd ["_law_cell", "_law_at"] (SpD R_spread) := by
  refine ok_pure F sc_L_spread (fun ds d h => ?_) fun cdv A outer s H E hr => ?_
  · obtain ⟨c, a, _, _, rfl, _⟩ := h
    rfl
  · have nd := sc_L_spread.nd
    refine ⟨_, (pss_cons (ps_if (pt_cmpR op_ge (pv 0) (pe_op op_pow pe_int pe_int) (nomark _)) (pss_one (ps_ret (pv 0))) pss_nil)
      (pss_cons (ps_set (i := 2) nd rfl (Or.inl rfl) (pe_lst (pa_cons pe_int (pa_cons pe_int (pa_cons pe_int (pa_cons pe_int (pa_cons pe_int (pa_cons pe_int (pa_cons pe_int (pa_cons pe_int pa_nil))))))))))
      (pss_cons (ps_set (i := 2) nd rfl (Or.inl rfl) (pe_op (op_addXK (K := K) rfl) (pv 2) (pe_lst (pa_cons pe_int (pa_cons pe_int (pa_cons pe_int (pa_cons pe_int (pa_cons pe_int pa_nil))))))))
      (pss_cons (ps_set (i := 3) nd rfl (Or.inl rfl) (pe_op (op_addXK (K := K) rfl) (pe_op (op_addXK (K := K) rfl) (pe_op (op_mulXK (K := K) rfl) (pe_op op_mod (pe_callTy call_int1 (by rfl) Z.int (by decide +kernel) (pa_cons (pv 0) pa_nil)) pe_int) (pe_op (op_addXK (K := K) rfl) (pe_op (op_mulXK (K := K) rfl) pe_int (pv 1)) pe_int)) (pe_op (op_mulXK (K := K) rfl) (pv 1) pe_int)) pe_int))
      (pss_cons (ps_set (i := 3) nd rfl (Or.inl rfl) (pe_op op_mod (pe_callTy call_int1 (by rfl) Z.int (by decide +kernel) (pa_cons (pe_op op_pow (pv 3) pe_int) pa_nil)) (pe_ix (ix_seqK (K := K) rfl) (pv 2) (pe_op op_mod (pe_callTy call_int1 (by rfl) Z.int (by decide +kernel) (pa_cons (pv 1) pa_nil)) pe_int) (fun _ _ => rfl))))
      (pss_cons (ps_set (i := 4) nd rfl (Or.inl rfl) (pe_op op_mod (pe_callTy call_int1 (by rfl) Z.int (by decide +kernel) (pa_cons (pe_op op_pow (pe_op (op_addXK (K := K) rfl) (pe_op (op_addXK (K := K) rfl) (pe_op (op_mulXK (K := K) rfl) (pv 3) (pe_op (op_addXK (K := K) rfl) (pv 1) pe_int)) (pe_op op_mod (pe_callTy call_int1 (by rfl) Z.int (by decide +kernel) (pa_cons (pv 0) pa_nil)) pe_int)) pe_int) pe_int) pa_nil)) (pe_ix (ix_seqK (K := K) rfl) (pv 2) (pe_op op_mod (pe_callTy call_int1 (by rfl) Z.int (by decide +kernel) (pa_cons (pe_op (op_addXK (K := K) rfl) (pv 1) pe_int) pa_nil)) pe_int) (fun _ _ => rfl))))
      (pss_cons (ps_set (i := 5) nd rfl (Or.inl rfl) (pe_op op_mod (pe_callTy call_int1 (by rfl) Z.int (by decide +kernel) (pa_cons (pe_op op_pow (pe_op (op_addXK (K := K) rfl) (pe_op (op_addXK (K := K) rfl) (pv 4) (pe_op op_mod (pe_callTy call_int1 (by rfl) Z.int (by decide +kernel) (pa_cons (pv 3) pa_nil)) pe_int)) (pv 1)) pe_int) pa_nil)) (pe_ix (ix_seqK (K := K) rfl) (pv 2) (pe_op op_mod (pe_callTy call_int1 (by rfl) Z.int (by decide +kernel) (pa_cons (pe_op (op_addXK (K := K) rfl) (pv 1) pe_int) pa_nil)) pe_int) (fun _ _ => rfl))))
      (pss_one (ps_ret (pe_op (op_addXK (K := K) rfl) (pe_op (op_mulXK (K := K) rfl) (pe_op (op_addXK (K := K) rfl) (pe_op (op_mulXK (K := K) rfl) (pv 3) pe_int) (pv 4)) pe_int) (pv 5))))))))))), fun ds d h B F0 D q => ?_⟩
    obtain ⟨c, a, ha, ha2, rfl, rfl⟩ := h
    show Tr B F0 F0 [some (.int c), some (.int a), none, none, none, none] [] _
    refine t_seq ?_
    walk_at "n"
    have h18 : ∀ {env : Env_} {mus : Mu}, EvD (tOp (rI CPow fun i j => .int (i ^ j.toNat)) (tC (.int 10)) (tC (.int 18))) env mus (.int (10 ^ 18)) := fun {env mus} => (ev_op ev_int ev_int (rd_i (g := fun i j => i ^ j.toNat) ⟨by decide, by decide, by decide⟩)).is rfl
    refine t_if (b := decide ((10 : Int) ^ 18 ≤ c)) (et_test (ev_op (ev_var rfl) h18 rd_b0)) (fun hb => ?_) (fun hb => ?_)
    · have hc := of_decide_eq_true hb
      refine t_ret (d := .int (spread c a)) ((ev_var rfl).is ?_) fun v F' H' g _ r => q v F' H' g r
      unfold spread
      rw [if_pos hc]
    · have hc := of_decide_eq_false hb
      refine t_next ?_
      walk_at "n"
      refine t_seq ?_
      refine t_asg (d := .lst ([2147483629, 2147483587, 2147483579, 2147483563, 2147483549, 2147483543, 2147483497, 2147483489].map Dt.int)) (EvN.toD (en_lst (ea_cons ev_int (ea_cons ev_int (ea_cons ev_int (ea_cons ev_int (ea_cons ev_int (ea_cons ev_int (ea_cons ev_int (ea_cons ev_int ea_nil)))))))) (show 8 ≤ 100000 by decide))) ?_
      walk_at "n"
      refine t_seq ?_
      refine t_asg (d := .lst (primes.map Dt.int)) ((EvN.toD (en_op (d1 := .lst ([2147483629, 2147483587, 2147483579, 2147483563, 2147483549, 2147483543, 2147483497, 2147483489].map Dt.int)) (ev_var rfl) (EvN.toD (en_lst (ds := [2147483477, 2147483423, 2147483399, 2147483353, 2147483323].map Dt.int) (ea_cons ev_int (ea_cons ev_int (ea_cons ev_int (ea_cons ev_int (ea_cons ev_int ea_nil))))) (show 5 ≤ 100000 by decide))) (rn_addL (show 8 + 5 ≤ 100000 by decide)))).is rfl) ?_
      walk_at "n"
      refine t_seq ?_
      have hcm := Int.emod_nonneg c (show (1000000007 : Int) ≠ 0 by decide)
      have hcm2 := Int.emod_lt_of_pos c (show (0 : Int) < 1000000007 by decide)
      have hcm3 := Int.emod_nonneg c (show (65537 : Int) ≠ 0 by decide)
      have hcm4 := Int.emod_lt_of_pos c (show (0 : Int) < 65537 by decide)
      generalize hu0 : c % 1000000007 * (2 * a + 69069) + a * 40503 + 977 = u0
      have hu0b : u0.natAbs < 2 ^ 64 := by
        have h1 : c % 1000000007 * (2 * a + 69069) ≤ 1000000007 * (2 * a + 69069) := Int.mul_le_mul_of_nonneg_right (by omega) (by omega)
        have h2 : 0 ≤ c % 1000000007 * (2 * a + 69069) := Int.mul_nonneg hcm (by omega)
        omega
      refine t_asg (d := .int u0) ((ev_op (d1 := .int (c % 1000000007 * (2 * a + 69069) + a * 40503)) (d2 := .int 977) (ev_op (d1 := .int (c % 1000000007 * (2 * a + 69069))) (d2 := .int (a * 40503)) (ev_op (d1 := .int (c % 1000000007)) (d2 := .int (2 * a + 69069)) (ev_op (d1 := .int c) (d2 := .int 1000000007) (ev_cb (ea_cons (ev_var rfl) ea_nil) rc_int) ev_int (rd_i (by decide))) (ev_op (d1 := .int (2 * a)) (d2 := .int 69069) (ev_op (d1 := .int 2) (d2 := .int a) ev_int (ev_var rfl) (rd_mulI (.inl ⟨by decide, by decide⟩))) ev_int rd_addI) (rd_mulI (.inl ⟨by omega, by omega⟩))) (ev_op (d1 := .int a) (d2 := .int 40503) (ev_var rfl) ev_int (rd_mulI (.inr ⟨by decide, by decide⟩))) rd_addI) ev_int rd_addI).is (by rw [hu0])) ?_
      walk_at "n"
      refine t_seq ?_
      have hu : sprU c a = u0 ^ 3 % prm a := by unfold sprU; rw [hu0]
      have hub := modb (u0 ^ 3) a
      rw [← hu] at hub
      generalize hU : sprU c a = u at *
      refine t_asg (d := .int u) ((ev_op (d1 := .int (u0 ^ 3)) (d2 := .int (prm a)) (ev_cb (ea_cons ((ev_op (d1 := .int u0) (d2 := .int 3) (ev_var rfl) ev_int (rd_i (g := fun i j => i ^ j.toNat) (pow3 hu0b))).is rfl) ea_nil) rc_int) (ev_op (d1 := .lst (primes.map Dt.int)) (d2 := .int (a % 13)) (ev_var rfl) (ev_op (d1 := .int a) (d2 := .int 13) (ev_cb (ea_cons (ev_var rfl) ea_nil) rc_int) ev_int (rd_i (by decide))) (rd_xL (prm_ok a).1)) (rd_i (prm_ok a).2.1)).is (by rw [← hu])) ?_
      walk_at "n"
      refine t_seq ?_
      have hv0 : sprV c a = (u * (a + 3) + c % 65537 + 5) ^ 5 % prm (a + 5) := by unfold sprV; rw [hU]
      generalize hv1 : u * (a + 3) + c % 65537 + 5 = v0
      rw [hv1] at hv0
      have hv0b : v0.natAbs < 2 ^ 64 := by
        have h1 : u * (a + 3) ≤ 2147483648 * (a + 3) := Int.mul_le_mul_of_nonneg_right (by omega) (by omega)
        have h2 : 0 ≤ u * (a + 3) := Int.mul_nonneg hub.1 (by omega)
        omega
      have hvb := modb (v0 ^ 5) (a + 5)
      rw [← hv0] at hvb
      have hwE : sprW c a = (sprV c a + u % 1009 + a) ^ 3 % prm (a + 7) := by unfold sprW; rw [hU]
      generalize hV : sprV c a = v at *
      refine t_asg (d := .int v) ((ev_op (d1 := .int (v0 ^ 5)) (d2 := .int (prm (a + 5))) (ev_cb (ea_cons ((ev_op (d1 := .int v0) (d2 := .int 5) ((ev_op (d1 := .int (u * (a + 3) + c % 65537)) (d2 := .int 5) (ev_op (d1 := .int (u * (a + 3))) (d2 := .int (c % 65537)) (ev_op (d1 := .int u) (d2 := .int (a + 3)) (ev_var rfl) (ev_op (d1 := .int a) (d2 := .int 3) (ev_var rfl) ev_int rd_addI) (rd_mulI (.inl ⟨by omega, by omega⟩))) (ev_op (d1 := .int c) (d2 := .int 65537) (ev_cb (ea_cons (ev_var rfl) ea_nil) rc_int) ev_int (rd_i (by decide))) rd_addI) ev_int rd_addI).is (by rw [hv1])) ev_int (rd_i (g := fun i j => i ^ j.toNat) ⟨by decide, by decide, hv0b⟩)).is rfl) ea_nil) rc_int) (ev_op (d1 := .lst (primes.map Dt.int)) (d2 := .int ((a + 5) % 13)) (ev_var rfl) (ev_op (d1 := .int (a + 5)) (d2 := .int 13) (ev_cb (ea_cons (ev_op (d1 := .int a) (d2 := .int 5) (ev_var rfl) ev_int rd_addI) ea_nil) rc_int) ev_int (rd_i (by decide))) (rd_xL (prm_ok (a + 5)).1)) (rd_i (prm_ok (a + 5)).2.1)).is (by rw [← hv0])) ?_
      walk_at "n"
      refine t_seq ?_
      have hum := Int.emod_nonneg u (show (1009 : Int) ≠ 0 by decide)
      have hum2 := Int.emod_lt_of_pos u (show (0 : Int) < 1009 by decide)
      generalize hw1 : v + u % 1009 + a = w0 at *
      have hw0b : w0.natAbs < 2 ^ 64 := by omega
      generalize hW : sprW c a = w at *
      refine t_asg (d := .int w) ((ev_op (d1 := .int (w0 ^ 3)) (d2 := .int (prm (a + 7))) (ev_cb (ea_cons ((ev_op (d1 := .int w0) (d2 := .int 3) ((ev_op (d1 := .int (v + u % 1009)) (d2 := .int a) (ev_op (d1 := .int v) (d2 := .int (u % 1009)) (ev_var rfl) (ev_op (d1 := .int u) (d2 := .int 1009) (ev_cb (ea_cons (ev_var rfl) ea_nil) rc_int) ev_int (rd_i (by decide))) rd_addI) (ev_var rfl) rd_addI).is (by rw [hw1])) ev_int (rd_i (g := fun i j => i ^ j.toNat) (pow3 hw0b))).is rfl) ea_nil) rc_int) (ev_op (d1 := .lst (primes.map Dt.int)) (d2 := .int ((a + 7) % 13)) (ev_var rfl) (ev_op (d1 := .int (a + 7)) (d2 := .int 13) (ev_cb (ea_cons (ev_op (d1 := .int a) (d2 := .int 7) (ev_var rfl) ev_int rd_addI) ea_nil) rc_int) ev_int (rd_i (by decide))) (rd_xL (prm_ok (a + 7)).1)) (rd_i (prm_ok (a + 7)).2.1)).is (by rw [← hwE])) ?_
      walk_at "n"
      refine t_ret (d := .int (spread c a)) ((ev_op (d1 := .int ((u * 2147483647 + v) * 2147483647)) (d2 := .int w) (ev_op (d1 := .int (u * 2147483647 + v)) (d2 := .int 2147483647) (ev_op (d1 := .int (u * 2147483647)) (d2 := .int v) (ev_op (d1 := .int u) (d2 := .int 2147483647) (ev_var rfl) ev_int (rd_mulI (.inr ⟨by decide, by decide⟩))) (ev_var rfl) rd_addI) ev_int (rd_mulI (.inr ⟨by decide, by decide⟩))) (ev_var rfl) rd_addI).is ?_) fun v F' H' g _ r => q v F' H' g r
      unfold spread
      rw [if_neg hc, hU, hV, hW]
end
end KB
namespace KB
open PySem PySem.Spec PyProof.Rows L2
local macro_rules | `(tactic| walk_at "at") => `(tactic| first | assumption | (exact atI_nat (j := 0) rfl) | (exact atI_nat (j := 1) rfl) | (exact atI_nat (j := 2) rfl) | (exact atI_nat (by assumption)) | (exact atI_map _ (by assumption)) | (exact atI_of (by assumption) (by omega)))
local macro_rules | `(tactic| walk_at "side") => `(tactic| first | assumption | decide | omega | (simp; done))
local macro_rules | `(tactic| walk_at "rd") => `(tactic| first
  | exact rd_addI | exact rd_i0 | exact rd_b0 | exact rd_eq | exact rd_ne | exact rd_neB
  | (refine' rd_xT ?ka; (case ka => walk_at "at")) | (refine' rd_xL ?ka; (case ka => walk_at "at")) | (refine' rd_xM ?kb ?ka; (case kb => simp; done); (case ka => walk_at "at"))
  | (refine' rd_mulI ?ka; (case ka => walk_at "side"))
  | (refine' rd_addT ?ka; (case ka => walk_at "side"))
  | (refine' rd_i ?ka; (case ka => walk_at "side"))
  | exact rd_isN | (exact rd_isN0 (by intro z; cases z)) | exact rd_notN | (exact rd_notN1 (by intro z; cases z)) | exact rd_inB | exact rd_inT)
local macro_rules | `(tactic| walk_at "rc") => `(tactic| first | exact rc_lenT | exact rc_lenL | (refine' rc_lenM ?ka; (case ka => simp; done)) | exact rc_sumXL | exact rc_sumXT | (refine' rc_sumXM ?ka; (case ka => simp; done)) | exact rc_tupL | (refine' rc_tupM ?ka; (case ka => simp; done)) | exact rc_int | exact rc_min2 | (exact rc_isi (by decide) (by decide +kernel)) | (exact rc_isiT (by decide) (by decide +kernel) (by decide +kernel)))
local macro_rules | `(tactic| walk_at "eo") => `(tactic| first | exact eo_none | (refine' eo_some ?ka; (case ka => walk_at "ev")))
local macro_rules | `(tactic| walk_at "ea") => `(tactic| first | exact ea_nil | (refine' ea_cons ?ka ?kb; (case ka => walk_at "ev"); (case kb => walk_at "ea")))
local macro_rules | `(tactic| walk_at "en") => `(tactic| first
  | (refine' en_lst ?ka ?kb; (case ka => walk_at "ea"); (case kb => walk_at "side"))
  | (refine' en_sliceL ?ka ?kb ?kc; (case ka => walk_at "ev"); (case kb => walk_at "eo"); (case kc => walk_at "eo"))
  | (refine' en_op ?ka ?kb ?kc; (case ka => walk_at "ev"); (case kb => walk_at "ev"); (case kc => first | (refine' rn_addL ?kd; (case kd => walk_at "side")) | (refine' rn_mulL ?kd ?ke ?kf; (case kd => walk_at "side"); (case ke => walk_at "side"); (case kf => walk_at "side")))))
local macro_rules | `(tactic| walk_at "ev") => `(tactic| first
  | exact ev_var rfl | exact ev_int | exact ev_bl | exact ev_non | exact ev_str | exact ev_ty | assumption
  | (refine' ev_op ?ka ?kb ?kc; (case ka => walk_at "ev"); (case kb => walk_at "ev"); (case kc => walk_at "rd"))
  | (refine' ev_un ?ka; (case ka => walk_at "ev"))
  | (refine' ev_tup ?ka ?kb; (case ka => walk_at "ea"); (case kb => walk_at "side"))
  | (refine' ev_cb ?ka ?kb; (case ka => walk_at "ea"); (case kb => walk_at "rc"))
  | (refine' ev_sliceT ?ka ?kb ?kc; (case ka => walk_at "ev"); (case kb => walk_at "eo"); (case kc => walk_at "eo"))
  | (refine' ev_notV ?ka; (case ka => walk_at "ev"))
  | (refine' EvN.toD ?ka; (case ka => walk_at "en")))
local macro_rules | `(tactic| walk_at "n") => `(tactic| first | dsimp only [List.set_cons_zero, List.set_cons_succ, List.map_cons, List.map_nil, List.cons_append, List.nil_append, List.length_cons, List.length_nil, Nat.add_sub_cancel, List.replicate] | skip)
section
variable {B F0 X : Hp} {env : Env_} {mus mus' : Mu} {ta tb : TE} {tr : TA} {D : Ends} {i j k k' : Nat} {ds es : List Dt} {K : PySem.W.Frag} {P : Dt → Prop} {Ps : List Dt → Prop} {p : Addr} {d : Dt}
theorem ev_callE0 {R : Nat → List Dt → Nat → (Dt → Prop) → Prop} {E : XK} (h : EvA tr env mus (.ptr p :: ds)) (hj : mus[j]? = some (p, .pen k)) (hR : R k ds k' P) : EvE (tCall (SpE R) [] E tr) env mus (mus.set j (p, .pen k')) P :=
  ev_callE (Ps := fun l => l = ds) ((eae_of h).imp fun l hl => ⟨ds, hl, rfl⟩) hj fun l hl => by rw [hl]; exact hR
theorem ev_cbE {r : List V → Hp → VK → Prop} (h : EvAE tr env mus mus' Ps) (hr : ∀ ds, Ps ds → ∃ d, P d ∧ RC r mus' ds d) : EvE (tCB r tr) env mus mus' P := ⟨h.1, fun F σ H M E Q q =>
  h.2 F σ H M E _ fun vs ds F1 H1 hd g1 m1 r1 => by
    obtain ⟨d, hp, hc⟩ := hr ds hd
    exact hc F1 H1 vs m1 r1 Q fun v F2 H2 g2 r2 => q v d F2 H2 hp (g1.trans h.1 (.of g2)) (m1.grow g2) r2⟩
theorem t_tupNN (h1 : EvN ta env mus ds) (h2 : EvN tb env mus es) (k : ∀ p q, p ≠ q → Tr B F0 X ((env.set i (some (.ptr p))).set j (some (.ptr q))) ((p, .lst ds) :: (q, .lst es) :: mus) D.nx) :
    Tr B F0 X env mus (tAsg (tTup (tCons ta (tCons tb tNil))) (gTup K 2 (gCons (gName i) (gCons (gName j) gNil))) D) := fun σ H a => by
  obtain ⟨F, g0, M, E, hB⟩ := a
  refine h1 F σ H M E _ fun p xs F1 H1 g1 n1 n0 e1 r1 => ?_
  obtain ⟨b0, hne⟩ := newkey g0 M n0
  refine h2 F1 σ H1 (M.grow g1) (E.mono g1.ff) _ fun q ys F2 H2 g2 m1 m0 e2 r2 => ?_
  obtain ⟨b1, hne1⟩ := newkey (g0.trans g1) (M.grow g1) m0
  have hpq : p ≠ q := ne_of_none e1 m0
  have M1 := ((M.grow g1).grow g2).cons (m := .lst es) m1 e2 ⟨ys, rfl, r2⟩ hne1
  have n2 : F2 p = none := (g2.fr p _ e1 (fun _ z => nomatch z)).trans n1
  have M2 := M1.cons (m := .lst ds) n2 (g2.bh _ _ e1) ⟨xs, rfl, r1.mono g2.ff⟩ (fun x hx => by
    rcases List.mem_cons.mp hx with z | z
    · rw [z]; exact Ne.symm hpq
    · exact hne x z)
  refine ⟨sz_of (show 2 ≤ 100000 by decide), fun t ht => ?_⟩
  have g3 : Gr H2 F2 (upd F2 t (.tup [.ref p, .ref q])) (upd H2 t (.tup [.ref p, .ref q])) := Gr.new g2.fh ht
  have rt : Rp (upd F2 t (.tup [.ref p, .ref q])) (.tup [.ptr p, .ptr q]) (.ref t) := rp_tup.mpr ⟨t, _, rfl, upd_same, .cons (rp_ptr.mpr rfl) (.cons (rp_ptr.mpr rfl) .nil)⟩
  refine gd_tup2 (K := K) (i := i) (j := j) (env := env) (d1 := .ptr p) (d2 := .ptr q) _ σ _ (.ref t) g3.fh (((E.mono g1.ff).mono g2.ff).mono g3.ff) rt _ fun σ' E' _ _ => k p q hpq _ _ ⟨_, ((g0.trans g1).trans g2).trans g3, M2.grow g3, E', fun m hm => ?_⟩
  rcases List.mem_cons.mp hm with z | z
  · rw [z]; exact b0
  · rcases List.mem_cons.mp z with z | z
    · rw [z]; exact b1
    · exact hB m z
end
section
variable {P : Program} {w : World} {K : PySem.W.Frag} {mg : Str → Option Value} {base : Heap}
/-! ### what is drawn -/
def R_take : Nat → List Dt → Nat → (Dt → Prop) → Prop := fun k ds k' p => ∃ n : Int, ds = [.int n] ∧ 0 < n ∧ n.natAbs.log2 < 9000 ∧ k ≤ 1000000 ∧ k' = k + 1 ∧ ∀ r : Int, 0 ≤ r → r < n → p (.int r)
abbrev s_L_take : Stmt := topS 17
theorem sc_L_take : FnScope ["_law_pen", "_law_amount", "_law_at", "_law_cell", "_law_found"] ["_law_pen", "_law_amount"] (defScope s_L_take) := ⟨rfl, rfl, rfl, by decide +kernel, rfl, by decide +kernel, by decide +kernel⟩
theorem ok_L_take {f : Addr} {fd : FuncData} (F : Fun K "_law_take" "_law_take" s_L_take f fd) (Z : Bz mg) (C_L_spread : Cal P w K mg base 1 "_law_spread" ["_law_cell", "_law_at"] (SpD R_spread)) : FnOk P w K mg base CX0 2 f fd ["_law_pen", "_law_amount"] (SpE R_take) := by
  refine ok_eff F sc_L_take (fun c ds c' p h => ?_) fun cdv A outer s H E hr => ?_
  · obtain ⟨n, rfl, _⟩ := h
    rfl
  · have nd := sc_L_take.nd
    refine ⟨_, (pss_cons (ps_if (pt_cmpR op_lt (pe_ix (ix_seqK (K := K) rfl) (pv 0) pe_int (fun _ _ => rfl)) (pv 1) (nomark _)) (pss_cons (ps_set (i := 2) nd rfl (Or.inl rfl) (pe_ix (ix_seqK (K := K) rfl) (pv 0) pe_int (fun _ _ => rfl)))
      (pss_cons (ps_set (i := 3) nd rfl (Or.inl rfl) pe_int)
      (pss_cons (ps_if (pt_cmpR op_lt (pv 2) (pe_callB (call_lenK (K := K) rfl) (by rfl) Z.len (by decide +kernel) (pa_cons (pe_ix (ix_seqK (K := K) rfl) (pv 0) pe_int (fun _ _ => rfl)) pa_nil)) (nomark _)) (pss_one (ps_set (i := 3) nd rfl (Or.inl rfl) (pe_ix (ix_seqK (K := K) rfl) (pe_ix (ix_seqK (K := K) rfl) (pv 0) pe_int (fun _ _ => rfl)) (pv 2) (fun _ _ => rfl)))) (pss_one (ps_if (pt_cmpR op_gt (pe_callB (call_lenK (K := K) rfl) (by rfl) Z.len (by decide +kernel) (pa_cons (pe_ix (ix_seqK (K := K) rfl) (pv 0) pe_int (fun _ _ => rfl)) pa_nil)) pe_int (nomark _)) (pss_one (ps_set (i := 3) nd rfl (Or.inl rfl) (pe_op op_mod (pe_callTy call_int1 (by rfl) Z.int (by decide +kernel) (pa_cons (pe_ix (ix_seqK (K := K) rfl) (pe_ix (ix_seqK (K := K) rfl) (pv 0) pe_int (fun _ _ => rfl)) (pe_op op_mod (pe_callTy call_int1 (by rfl) Z.int (by decide +kernel) (pa_cons (pe_op (op_addXK (K := K) rfl) (pe_op (op_mulXK (K := K) rfl) (pv 2) pe_int) pe_int) pa_nil)) (pe_callB (call_lenK (K := K) rfl) (by rfl) Z.len (by decide +kernel) (pa_cons (pe_ix (ix_seqK (K := K) rfl) (pv 0) pe_int (fun _ _ => rfl)) pa_nil))) (fun _ _ => rfl)) pa_nil)) (pe_op (op_addXK (K := K) rfl) (pe_op op_pow pe_int pe_int) (pv 2))))) pss_nil)))
      (pss_cons (ps_asg (pe_op (op_addXK (K := K) rfl) (pv 2) pe_int) (pg_sub (pv 0) pe_int set_list))
      (pss_one (ps_asg (pe_cal C_L_spread hr (by decide) (by rfl) (pa_cons (pv 3) (pa_cons (pv 2) pa_nil))) (pg_sub (pv 0) pe_int set_list))))))) pss_nil)
      (pss_cons (ps_set (i := 4) nd rfl (Or.inl rfl) (pe_op op_mod (pe_callTy call_int1 (by rfl) Z.int (by decide +kernel) (pa_cons (pe_ix (ix_seqK (K := K) rfl) (pv 0) pe_int (fun _ _ => rfl)) pa_nil)) (pv 1)))
      (pss_cons (ps_asg (pe_op op_fdivW (pe_ix (ix_seqK (K := K) rfl) (pv 0) pe_int (fun _ _ => rfl)) (pv 1)) (pg_sub (pv 0) pe_int set_list))
      (pss_one (ps_ret (pv 4)))))), fun k ds k' pp h B F0 D p hBp q => ?_⟩
    obtain ⟨n, rfl, hn, hn2, hk, rfl, hp⟩ := h
    show Tr B F0 F0 [some (.ptr p), some (.int n), none, none, none] [(p, .pen k)] _
    refine t_penOpen (j := 0) rfl fun cells a z ha hak hz hc => ?_
    walk_at "n"
    have g0 : ∀ {x y z : Dt}, L2.atI [x, y, z] 0 = some x := rfl
    have g1 : ∀ {x y z : Dt}, L2.atI [x, y, z] 1 = some y := rfl
    have g2 : ∀ {x y z : Dt}, L2.atI [x, y, z] 2 = some z := rfl
    have hrest : ∀ (X : Hp) (a2 z2 : Int) (x2 x3 : Option Dt), 0 ≤ a2 → a2 ≤ (k + 1 : Nat) → 0 ≤ z2 → Tr B F0 X [some (.ptr p), some (.int n), x2, x3, none] [(p, .lst [.lst (cells.map Dt.int), .int a2, .int z2])]
        (tSeq (tAsg (tOp (rI (fun _ j => 0 < j) fun i j => .int (i % j)) (tCB (fun xs H Q => (∃ i, xs = [V.int i] ∧ Q (.int i) H) ∨ ∃ k, xs = [V.bl k] ∧ Q (.int (if k then 1 else 0)) H) (tCons (tOp (rIx K) (tVar 0) (tC (.int 2))) tNil)) (tVar 1)) (gName 4)) (tSeq (tAsg (tOp (rI CDivW fun i j => .int (i / j)) (tOp (rIx K) (tVar 0) (tC (.int 2))) (tVar 1)) (gSub (tVar 0) (tC (.int 2)) rSetL)) (tRet (tVar 4))) D) := fun X a2 z2 x2 x3 h1 h2 h3 => by
      refine t_seq ?_
      have hz2 : ∀ {x4 : Option Dt}, EvD (tOp (rIx K) (tVar 0) (tC (.int 2))) [some (.ptr p), some (.int n), x2, x3, x4] [(p, .lst [.lst (cells.map Dt.int), .int a2, .int z2])] (.int z2) := fun {x4} => ev_op (d2 := .int 2) (ev_var rfl) ev_int (rd_xM (List.mem_cons_self ..) g2)
      refine t_asg (d := .int (z2 % n)) (ev_op (d1 := .int z2) (d2 := .int n) (ev_cb (ea_cons hz2 ea_nil) rc_int) (ev_var rfl) (rd_i hn)) ?_
      walk_at "n"
      refine t_seq ?_
      refine t_setitem (j := 0) (d := .int (z2 / n)) (n := 2) (z := 2) rfl (ev_op (d1 := .int z2) (d2 := .int n) hz2 (ev_var rfl) (rd_i ⟨hn, hn2⟩)) (ev_var rfl) ev_int rfl ?_
      refine t_penShut (j := 0) (k := k + 1) (cells := cells) (a := a2) (z := z2 / n) rfl h1 h2 (Int.ediv_nonneg h3 (by omega)) hc ?_
      walk_at "n"
      exact t_ret (d := .int (z2 % n)) (ev_var rfl) fun v F' H' g m r => q v _ F' H' (hp _ (Int.emod_nonneg _ (by omega)) (Int.emod_lt_of_pos _ hn)) g m r
    refine t_seq ?_
    have hz2 : ∀ {x2 x3 x4 : Option Dt} {m0 m1 : Dt}, EvD (tOp (rIx K) (tVar 0) (tC (.int 2))) [some (.ptr p), some (.int n), x2, x3, x4] [(p, .lst [m0, m1, .int z])] (.int z) := fun {x2 x3 x4 m0 m1} => ev_op (d2 := .int 2) (ev_var rfl) ev_int (rd_xM (List.mem_cons_self ..) g2)
    refine t_if (b := decide (z < n)) (et_test (ev_op hz2 (ev_var rfl) rd_b0)) (fun hb => ?_) (fun hb => ?_)
    · have hak1 : a ≤ 1000000 := by omega
      have hcl : ∀ {x2 x3 x4 : Option Dt}, EvD (tOp (rIx K) (tVar 0) (tC (.int 0))) [some (.ptr p), some (.int n), x2, x3, x4] [(p, .lst [.lst (cells.map Dt.int), .int a, .int z])] (.lst (cells.map Dt.int)) := fun {x2 x3 x4} => ev_op (d2 := .int 0) (ev_var rfl) ev_int (rd_xM (List.mem_cons_self ..) g0)
      refine t_seq ?_
      refine t_asg (d := .int a) (ev_op (d2 := .int 1) (ev_var rfl) ev_int (rd_xM (List.mem_cons_self ..) g1)) ?_
      walk_at "n"
      refine t_seq ?_
      refine t_asg (d := .int 0) ev_int ?_
      walk_at "n"
      refine t_seq ?_
      walk_at "n"
      have hk2 : ∀ (c : Int), Tr B F0 F0 [some (.ptr p), some (.int n), some (.int a), some (.int c), none] [(p, .lst [.lst (cells.map Dt.int), .int a, .int z])]
          (tSeq (tAsg (tOp (rAddX K) (tVar 2) (tC (.int 1))) (gSub (tVar 0) (tC (.int 1)) rSetL)) (tAsg (tCall (SpD R_spread) [] E0 (tCons (tVar 3) (tCons (tVar 2) tNil))) (gSub (tVar 0) (tC (.int 2)) rSetL))
            { D with nx := tSeq (tAsg (tOp (rI (fun _ j => 0 < j) fun i j => .int (i % j)) (tCB (fun xs H Q => (∃ i, xs = [V.int i] ∧ Q (.int i) H) ∨ ∃ k, xs = [V.bl k] ∧ Q (.int (if k then 1 else 0)) H) (tCons (tOp (rIx K) (tVar 0) (tC (.int 2))) tNil)) (tVar 1)) (gName 4)) (tSeq (tAsg (tOp (rI CDivW fun i j => .int (i / j)) (tOp (rIx K) (tVar 0) (tC (.int 2))) (tVar 1)) (gSub (tVar 0) (tC (.int 2)) rSetL)) (tRet (tVar 4))) D }) := fun c => by
        refine t_seq ?_
        refine t_setitem (j := 0) (d := .int (a + 1)) (n := 1) (z := 1) rfl (ev_op (d1 := .int a) (d2 := .int 1) (ev_var rfl) ev_int rd_addI) (ev_var rfl) ev_int rfl ?_
        walk_at "n"
        refine t_setitem (j := 0) (d := .int (spread c a)) (n := 2) (z := 2) rfl (ev_call (ea_cons (ev_var rfl) (ea_cons (ev_var rfl) ea_nil)) ⟨c, a, ha, by omega, rfl, rfl⟩) (ev_var rfl) ev_int rfl ?_
        exact hrest F0 (a + 1) (spread c a) _ _ (by omega) (by omega) (spread_nn c a)
      have hlen : ∀ {x2 x3 x4 : Option Dt}, EvD (tCB (rLenS K) (tCons (tOp (rIx K) (tVar 0) (tC (.int 0))) tNil)) [some (.ptr p), some (.int n), x2, x3, x4] [(p, .lst [.lst (cells.map Dt.int), .int a, .int z])] (.int (cells.length : Nat)) := fun {x2 x3 x4} => (ev_cb (ea_cons hcl ea_nil) rc_lenL).is (by rw [List.length_map])
      refine t_if (b := decide (a < (cells.length : Nat))) (et_test (ev_op (ev_var rfl) hlen rd_b0)) (fun h1 => ?_) (fun h1 => ?_)
      · have h1' := of_decide_eq_true h1
        have hl : a.toNat < cells.length := by omega
        refine t_asg (d := .int cells[a.toNat]) (ev_op (d1 := .lst (cells.map Dt.int)) (d2 := .int a) hcl (ev_var rfl) (rd_xL (atI_of (i := a.toNat) (by rw [List.getElem?_map, List.getElem?_eq_getElem hl]; rfl) (by omega)))) ?_
        exact hk2 _
      · refine t_if (b := decide ((0 : Int) < (cells.length : Nat))) (et_test (ev_op (d1 := .int (cells.length : Nat)) (d2 := .int 0) hlen ev_int rd_b0)) (fun h2 => ?_) (fun h2 => ?_)
        · have h2' := of_decide_eq_true h2
          have hm0 := Int.emod_nonneg (a * 5 + 3) (show ((cells.length : Nat) : Int) ≠ 0 by omega)
          have hm1 := Int.emod_lt_of_pos (a * 5 + 3) h2'
          have hl : ((a * 5 + 3) % (cells.length : Nat)).toNat < cells.length := by omega
          refine t_asg (d := .int (cells[((a * 5 + 3) % (cells.length : Nat)).toNat] % (10 ^ 17 + a))) (ev_op (d1 := .int cells[((a * 5 + 3) % (cells.length : Nat)).toNat]) (d2 := .int (10 ^ 17 + a)) (ev_cb (ea_cons (ev_op (d1 := .lst (cells.map Dt.int)) (d2 := .int ((a * 5 + 3) % (cells.length : Nat))) hcl (ev_op (d1 := .int (a * 5 + 3)) (d2 := .int (cells.length : Nat)) (ev_cb (ea_cons (ev_op (d1 := .int (a * 5)) (d2 := .int 3) (ev_op (d1 := .int a) (d2 := .int 5) (ev_var rfl) ev_int (rd_mulI (.inr ⟨by decide, by decide⟩))) ev_int rd_addI) ea_nil) rc_int) hlen (rd_i h2')) (rd_xL (atI_of (i := ((a * 5 + 3) % (cells.length : Nat)).toNat) (by rw [List.getElem?_map, List.getElem?_eq_getElem hl]; rfl) (by omega)))) ea_nil) rc_int) (ev_op (d1 := .int (10 ^ 17)) (d2 := .int a) ((ev_op ev_int ev_int (rd_i (C := CPow) (g := fun i j => i ^ j.toNat) (i := 10) (j := 17) ⟨by decide, by decide, by decide⟩)).is rfl) (ev_var rfl) rd_addI) (rd_i (show 0 < 10 ^ 17 + a by omega))) ?_
          exact hk2 _
        · refine t_next ?_
          exact hk2 0
    · refine t_next ?_
      exact hrest F0 a z _ _ ha (by omega) hz
def R_oneOf : Nat → List Dt → Nat → (Dt → Prop) → Prop := fun k ds k' p => ∃ es : List Dt, ds = [.lst es] ∧ es ≠ [] ∧ es.length ≤ 1000 ∧ k ≤ 1000000 ∧ k' = k + 1 ∧ ∀ e ∈ es, p e
theorem small_log {n : Int} (h1 : 0 < n) (h2 : n < 2 ^ 200) : n.natAbs.log2 < 9000 := by
  have : n.natAbs.log2 < 200 := (Nat.log2_lt (by omega)).mpr (by omega)
  omega
abbrev s_L_one_of : Stmt := topS 19
theorem sc_L_one_of : FnScope ["_law_pen", "_law_some"] ["_law_pen", "_law_some"] (defScope s_L_one_of) := ⟨rfl, rfl, rfl, by decide +kernel, rfl, by decide +kernel, by decide +kernel⟩
theorem ok_L_one_of {f : Addr} {fd : FuncData} (F : Fun K "_law_one_of" "_law_one_of" s_L_one_of f fd) (Z : Bz mg) (C_L_take : Cal P w K mg base 2 "_law_take" ["_law_pen", "_law_amount"] (SpE R_take)) : FnOk P w K mg base CX0 3 f fd ["_law_pen", "_law_some"] (SpE R_oneOf) := by
  refine ok_eff F sc_L_one_of (fun c ds c' p h => ?_) fun cdv A outer s H E hr => ?_
  · obtain ⟨n, rfl, _⟩ := h
    rfl
  · have nd := sc_L_one_of.nd
    refine ⟨_, (pss_one (ps_ret (pe_ix (ix_seqK (K := K) rfl) (pv 1) (pe_cal C_L_take hr (by decide) (by rfl) (pa_cons (pv 0) (pa_cons (pe_callB (call_lenK (K := K) rfl) (by rfl) Z.len (by decide +kernel) (pa_cons (pv 1) pa_nil)) pa_nil))) (fun _ _ => rfl)))), fun k ds k' pp h B F0 D p hBp q => ?_⟩
    obtain ⟨es, rfl, hne, hl, hk, rfl, hp⟩ := h
    show Tr B F0 F0 [some (.ptr p), some (.lst es)] [(p, .pen k)] _
    have hpos : 0 < es.length := List.length_pos_iff.mpr hne
    refine t_retE (mus' := [(p, .pen (k + 1))]) (P := pp) (ev_opE (P1 := fun d => d = .lst es) (P2 := fun d => ∃ r : Int, d = .int r ∧ 0 ≤ r ∧ r < (es.length : Nat)) (EvE.of (ev_var rfl)) (ev_callE0 (j := 0) (ea_cons (ev_var rfl) (ea_cons (ev_cb (ea_cons (ev_var rfl) ea_nil) rc_lenL) ea_nil)) rfl ⟨_, rfl, by omega, small_log (by omega) (by omega), hk, rfl, fun r h1 h2 => ⟨r, rfl, h1, h2⟩⟩) ?_) fun d v F' H' hd g m r => q v d F' H' hd g m r
    rintro d1 d2 rfl ⟨r, rfl, h1, h2⟩
    have hlt : r.toNat < es.length := by omega
    exact ⟨es[r.toNat], hp _ (List.getElem_mem hlt), rd_xL (atI_of (i := r.toNat) (List.getElem?_eq_getElem hlt) (by omega))⟩
def R_hours : Nat → List Dt → Nat → (Dt → Prop) → Prop := fun k ds k' p => ds = [] ∧ k ≤ 900000 ∧ k' = k + 2 ∧ ∀ r : Int, 0 ≤ r → p (.int r)
def hourL : List Int := [4, 4, 7, 10, 10, 20, 40, 100]
abbrev s_L_hours : Stmt := topS 21
theorem sc_L_hours : FnScope ["_law_pen", "_law_way"] ["_law_pen"] (defScope s_L_hours) := ⟨rfl, rfl, rfl, by decide +kernel, rfl, by decide +kernel, by decide +kernel⟩
theorem ok_L_hours {f : Addr} {fd : FuncData} (F : Fun K "_law_hours" "_law_hours" s_L_hours f fd) (Z : Bz mg) (C_L_take : Cal P w K mg base 2 "_law_take" ["_law_pen", "_law_amount"] (SpE R_take)) : FnOk P w K mg base CX0 3 f fd ["_law_pen"] (SpE R_hours) := by
  refine ok_eff F sc_L_hours (fun c ds c' p h => ?_) fun cdv A outer s H E hr => ?_
  · obtain ⟨rfl, _⟩ := h
    rfl
  · have nd := sc_L_hours.nd
    refine ⟨_, (pss_cons (ps_set (i := 1) nd rfl (Or.inl rfl) (pe_cal C_L_take hr (by decide) (by rfl) (pa_cons (pv 0) (pa_cons pe_int pa_nil))))
      (pss_cons (ps_if (pt_cmpR op_eq (pv 1) pe_int (nomark _)) (pss_one (ps_ret (pe_op (op_addXK (K := K) rfl) (pe_op op_pow pe_int pe_int) (pe_cal C_L_take hr (by decide) (by rfl) (pa_cons (pv 0) (pa_cons pe_int pa_nil)))))) pss_nil)
      (pss_one (ps_ret (pe_cal C_L_take hr (by decide) (by rfl) (pa_cons (pv 0) (pa_cons (pe_ix (ix_seqK (K := K) rfl) (pe_lst (pa_cons pe_int (pa_cons pe_int (pa_cons pe_int (pa_cons pe_int (pa_cons pe_int (pa_cons pe_int (pa_cons pe_int (pa_cons pe_int pa_nil))))))))) (pv 1) (fun _ _ => rfl)) pa_nil))))))), fun k ds k' pp h B F0 D p hBp q => ?_⟩
    obtain ⟨rfl, hk, rfl, hp⟩ := h
    show Tr B F0 F0 [some (.ptr p), none] [(p, .pen k)] _
    refine t_seq ?_
    refine t_asgE (mus' := [(p, .pen (k + 1))]) (P := fun d => ∃ r : Int, d = .int r ∧ 0 ≤ r ∧ r < 9) (ev_callE0 (j := 0) (ea_cons (ev_var rfl) (ea_cons ev_int ea_nil)) rfl ⟨9, rfl, by decide, small_log (by decide) (by decide), by omega, rfl, fun r h1 h2 => ⟨r, rfl, h1, h2⟩⟩) ?_
    rintro d ⟨way, rfl, hw1, hw2⟩
    walk_at "n"
    refine t_seq ?_
    walk_at "n"
    refine t_if (b := decide (way = 8)) (et_test (ev_op (ev_var rfl) ev_int rd_eq)) (fun hb => ?_) (fun hb => ?_)
    · refine t_retE (mus' := [(p, .pen (k + 2))]) (P := pp) (ev_opE (P1 := fun d => d = .int (10 ^ 20)) (P2 := fun d => ∃ r : Int, d = .int r ∧ 0 ≤ r ∧ r < 1000) (EvE.of ((ev_op ev_int ev_int (rd_i (C := CPow) (g := fun i j => i ^ j.toNat) (i := 10) (j := 20) ⟨by decide, by decide, by decide⟩)).is rfl)) (ev_callE0 (j := 0) (ea_cons (ev_var rfl) (ea_cons ev_int ea_nil)) rfl ⟨1000, rfl, by decide, small_log (by decide) (by decide), by omega, rfl, fun r h1 h2 => ⟨r, rfl, h1, h2⟩⟩) ?_) fun d v F' H' hd g m r => q v d F' H' hd g m r
      rintro d1 d2 rfl ⟨r, rfl, h1, h2⟩
      exact ⟨.int (10 ^ 20 + r), hp _ (by omega), rd_addI⟩
    · have hb' := of_decide_eq_false hb
      refine t_next ?_
      have hlt : way.toNat < hourL.length := by show way.toNat < 8; omega
      have hall : ∀ x ∈ hourL, 0 < x ∧ x < 2 ^ 200 := by decide
      have hx := hall _ (List.getElem_mem hlt)
      have hev : EvD (tOp (rIx K) (tLst (tCons (tC (.int 4)) (tCons (tC (.int 4)) (tCons (tC (.int 7)) (tCons (tC (.int 10)) (tCons (tC (.int 10)) (tCons (tC (.int 20)) (tCons (tC (.int 40)) (tCons (tC (.int 100)) tNil))))))))) (tVar 1)) [some (.ptr p), some (.int way)] [(p, .pen (k + 1))] (.int hourL[way.toNat]) := ev_op (d1 := .lst (hourL.map Dt.int)) (d2 := .int way) (EvN.toD (en_lst (ea_cons ev_int (ea_cons ev_int (ea_cons ev_int (ea_cons ev_int (ea_cons ev_int (ea_cons ev_int (ea_cons ev_int (ea_cons ev_int ea_nil)))))))) (show 8 ≤ 100000 by decide))) (ev_var rfl) (rd_xL (atI_of (i := way.toNat) (by rw [List.getElem?_map, List.getElem?_eq_getElem hlt]; rfl) (by omega)))
      have hcall := ev_callE0 (R := R_take) (P := pp) (E := E0) (k := k + 1) (k' := k + 2) (mus := [(p, .pen (k + 1))]) (j := 0) (ea_cons (ev_var (i := 0) (d := .ptr p) rfl) (ea_cons hev ea_nil)) rfl ⟨_, rfl, hx.1, small_log hx.1 hx.2, by omega, rfl, fun r h1 h2 => hp r h1⟩
      exact t_retE (mus' := [(p, .pen (k + 2))]) (P := pp) hcall fun d v F' H' hd g m r => q v d F' H' hd g m r
def R_dweights : Nat → List Dt → Nat → (Dt → Prop) → Prop := fun k ds k' p => ds = [] ∧ k ≤ 900000 ∧ k' = k + 4 ∧ ∀ W : List Int, WOk W → 1 ≤ W.length → W.length ≤ 3 → p (mD W)
abbrev s_L_draw_weights : Stmt := topS 22
theorem sc_L_draw_weights : FnScope ["_law_pen", "_law_k"] ["_law_pen"] (defScope s_L_draw_weights) := ⟨rfl, rfl, rfl, by decide +kernel, rfl, by decide +kernel, by decide +kernel⟩
theorem ok_L_draw_weights {f : Addr} {fd : FuncData} (F : Fun K "_law_draw_weights" "_law_draw_weights" s_L_draw_weights f fd) (Z : Bz mg) (C_L_take : Cal P w K mg base 2 "_law_take" ["_law_pen", "_law_amount"] (SpE R_take)) (C_L_one_of : Cal P w K mg base 3 "_law_one_of" ["_law_pen", "_law_some"] (SpE R_oneOf)) : FnOk P w K mg base CX0 4 f fd ["_law_pen"] (SpE R_dweights) := by
  refine ok_eff F sc_L_draw_weights (fun c ds c' p h => ?_) fun cdv A outer s H E hr => ?_
  · obtain ⟨rfl, _⟩ := h
    rfl
  · have nd := sc_L_draw_weights.nd
    refine ⟨_, (pss_one (ps_ret (pe_tup (pa_cons pe_str (pa_cons (pe_callTy (call_tupK (K := K) rfl) (by rfl) Z.tuple (by decide +kernel) (pa_cons (pe_lc (own := [("_law_k", 1)]) (g := (gName 1)) (tt := tYes) rfl nd (pi_range1 (by rfl) Z.range (pa_cons (pe_op (op_addXK (K := K) rfl) pe_int (pe_cal C_L_take hr (by decide) (by rfl) (pa_cons (pv 0) (pa_cons pe_int pa_nil)))) pa_nil)) (blkOk_by (N := ["_law_pen", "_law_k"]) (sc := defScope s_L_draw_weights) (by decide +kernel)) (fun _ _ _ _ _ => (pg_name (i := 1) nd rfl (Or.inl rfl))) (fun _ _ _ _ _ => pts_nil) (fun _ _ _ _ _ => (pe_tup (pa_cons (pe_tup (pa_cons (pe_cal C_L_one_of hr (by decide) (by rfl) (pa_cons (pv 0) (pa_cons (pe_lst (pa_cons pe_int (pa_cons pe_int (pa_cons pe_int (pa_cons pe_int (pa_cons pe_int (pa_cons pe_int pa_nil))))))) pa_nil))) (pa_cons pe_int pa_nil))) pa_nil)))) pa_nil)) pa_nil))))), fun k ds k' pp h B F0 D p hBp q => ?_⟩
    obtain ⟨rfl, hk, rfl, hp⟩ := h
    show Tr B F0 F0 [some (.ptr p), none] [(p, .pen k)] _
    have hel : ∀ (i : Nat) (x1 : Option Dt), k + 1 + i ≤ 1000000 → EvE (tTup (tCons (tTup (tCons (tCall (SpE R_oneOf) [] E0 (tCons (tVar 0) (tCons (tLst (tCons (tC (.int 0)) (tCons (tC (.int 1)) (tCons (tC (.int 1)) (tCons (tC (.int 2)) (tCons (tC (.int 3)) (tCons (tC (.int 9)) tNil))))))) tNil))) (tCons (tC (.int 0)) tNil))) tNil)) [some (.ptr p), x1] [(p, .pen (k + 1 + i))] [(p, .pen (k + 1 + i + 1))] (fun e => ∃ x : Int, e = .tup [.tup [.int x, .int 0]] ∧ 0 ≤ x ∧ x ≤ 9) := fun i x1 hki => by
      have h1 : EvE (tCall (SpE R_oneOf) [] E0 (tCons (tVar 0) (tCons (tLst (tCons (tC (.int 0)) (tCons (tC (.int 1)) (tCons (tC (.int 1)) (tCons (tC (.int 2)) (tCons (tC (.int 3)) (tCons (tC (.int 9)) tNil))))))) tNil))) [some (.ptr p), x1] [(p, .pen (k + 1 + i))] [(p, .pen (k + 1 + i + 1))] (fun d => ∃ x : Int, d = .int x ∧ 0 ≤ x ∧ x ≤ 9) :=
        ev_callE0 (R := R_oneOf) (j := 0) (k' := k + 1 + i + 1) (ds := [.lst ([0, 1, 1, 2, 3, 9].map Dt.int)]) (ea_cons (ev_var rfl) (ea_cons (EvN.toD (en_lst (ea_cons ev_int (ea_cons ev_int (ea_cons ev_int (ea_cons ev_int (ea_cons ev_int (ea_cons ev_int ea_nil)))))) (show 6 ≤ 100000 by decide))) ea_nil)) rfl ⟨_, rfl, by simp, (show 6 ≤ 1000 by decide), hki, rfl, fun e he => by
          obtain ⟨x, hx, rfl⟩ := List.mem_map.mp he
          have hall : ∀ x ∈ ([0, 1, 1, 2, 3, 9] : List Int), 0 ≤ x ∧ x ≤ 9 := by decide
          exact ⟨x, rfl, hall x hx⟩⟩
      have h2 := ev_tupE (eae_cons h1 (eae_of (ea_cons (ev_int (i := 0)) ea_nil))) fun l hl => by
        obtain ⟨d, r, rfl, _, rfl⟩ := hl
        show 2 ≤ 100000
        decide
      have h3 := ev_tupE (eae_cons h2 eae_nil) fun l hl => by
        obtain ⟨d, r, rfl, _, rfl⟩ := hl
        show 1 ≤ 100000
        decide
      refine h3.imp ?_
      rintro d ⟨l, rfl, d2, r, rfl, ⟨l2, rfl, d3, r3, rfl, ⟨x, rfl, hx⟩, rfl⟩, rfl⟩
      exact ⟨x, rfl, hx⟩
    have htk : EvE (tCall (SpE R_take) [] E0 (tCons (tVar 0) (tCons (tC (.int 3)) tNil))) [some (.ptr p), none] [(p, .pen k)] [(p, .pen (k + 1))] (fun d => ∃ r : Int, d = .int r ∧ 0 ≤ r ∧ r < 3) :=
      ev_callE0 (R := R_take) (j := 0) (k' := k + 1) (ds := [.int 3]) (ea_cons (ev_var rfl) (ea_cons ev_int ea_nil)) rfl ⟨3, rfl, by decide, small_log (by decide) (by decide), by omega, rfl, fun r h1 h2 => ⟨r, rfl, h1, h2⟩⟩
    have hone : EvE (tOp (rAddX K) (tC (.int 1)) (tCall (SpE R_take) [] E0 (tCons (tVar 0) (tCons (tC (.int 3)) tNil)))) [some (.ptr p), none] [(p, .pen k)] [(p, .pen (k + 1))] (fun d => ∃ n : Int, d = .int n ∧ 1 ≤ n ∧ n ≤ 3) :=
      ev_opE (EvE.of ev_int) htk (by
        rintro d1 d2 rfl ⟨r, rfl, h1, h2⟩
        exact ⟨.int (1 + r), ⟨_, rfl, by omega, by omega⟩, rd_addI⟩)
    have hit := it_range1E (Pn := fun n => 1 ≤ n ∧ n ≤ 3) ((eae_cons hone eae_nil).imp (by
          rintro l ⟨d, r, rfl, ⟨n, rfl, h1, h2⟩, rfl⟩
          exact ⟨n, rfl, h1, h2⟩)) fun n hn => ⟨by omega, by omega⟩
    have hrow := ev_lcE (P := fun e => ∃ x : Int, e = .tup [.tup [.int x, .int 0]] ∧ 0 ≤ x ∧ x ≤ 9) (mus' := [(p, .pen (k + 4))]) (is := [1]) (vs := [1]) (g := gName 1) (te := tTup (tCons (tTup (tCons (tCall (SpE R_oneOf) [] E0 (tCons (tVar 0) (tCons (tLst (tCons (tC (.int 0)) (tCons (tC (.int 1)) (tCons (tC (.int 1)) (tCons (tC (.int 2)) (tCons (tC (.int 3)) (tCons (tC (.int 9)) tNil))))))) tNil))) (tCons (tC (.int 0)) tNil))) tNil)) hit (by simp) (fun i => [(p, .pen (k + 1 + i))]) rfl (fun i => rfl) rfl (by
          rintro ds ⟨n, ⟨hn1, hn2⟩, rfl⟩ i d hd
          obtain ⟨rfl, hi⟩ := rgD_get hd
          exact ⟨_, gd_name, hel i _ (by omega)⟩) (by
          rintro ds ⟨n, ⟨hn1, hn2⟩, rfl⟩
          rw [rgD_len]
          omega) (by
          rintro ds ⟨n, ⟨hn1, hn2⟩, rfl⟩ F H M
          exact M.penW (j := 0) rfl (by rw [rgD_len]; omega))
    have htup : EvE _ _ _ _ (fun d => ∃ W : List Int, d = .tup (W.map fun w => .tup [.tup [.int w, .int 0]]) ∧ WOk W ∧ 1 ≤ W.length ∧ W.length ≤ 3) := ev_cbE (r := rTupOf K) (eae_cons hrow eae_nil) ?_
    have hfin := ev_tupE (eae_cons (EvE.of (ev_str (x := "sum"))) (eae_cons htup eae_nil)) fun l hl => by
      obtain ⟨d, r, rfl, _, d2, r2, rfl, _, rfl⟩ := hl
      show 2 ≤ 100000
      decide
    refine t_retE (mus' := [(p, .pen (k + 4))]) (P := pp) (hfin.imp ?_) fun d v F' H' hd g m r => q v d F' H' hd g m r
    · rintro d ⟨l, rfl, d1, r, rfl, rfl, d2, r2, rfl, ⟨W, rfl, h1, h2, h3⟩, rfl⟩
      exact hp W h1 h2 h3
    · rintro ds ⟨d, r, rfl, ⟨l, rfl, ⟨dr, ⟨n, ⟨hn1, hn2⟩, rfl⟩, hlen⟩, hl⟩, rfl⟩
      rw [rgD_len] at hlen
      have hW : ∃ W : List Int, l = W.map (fun w => .tup [.tup [.int w, .int 0]]) ∧ WOk W := by
        clear hlen
        induction l with
        | nil => exact ⟨[], rfl, fun w hw => nomatch hw⟩
        | cons e l ih =>
          obtain ⟨W, rfl, hW⟩ := ih fun e he => hl e (List.mem_cons_of_mem _ he)
          obtain ⟨x, rfl, hx⟩ := hl e (List.mem_cons_self ..)
          refine ⟨x :: W, rfl, fun w hw => ?_⟩
          rcases List.mem_cons.mp hw with z | z
          · rw [z]; exact hx
          · exact hW w z
      obtain ⟨W, rfl, hW⟩ := hW
      rw [List.length_map] at hlen
      exact ⟨_, ⟨W, rfl, hW, by omega, by omega⟩, rc_tupL⟩
end
end KB
namespace KB
open PySem PySem.Spec PyProof.Rows L2
local macro_rules | `(tactic| walk_at "at") => `(tactic| first | assumption | (exact atI_nat (j := 0) rfl) | (exact atI_nat (j := 1) rfl) | (exact atI_nat (j := 2) rfl) | (exact atI_nat (by assumption)) | (exact atI_map _ (by assumption)) | (exact atI_of (by assumption) (by omega)))
local macro_rules | `(tactic| walk_at "side") => `(tactic| first | assumption | decide | omega | (simp; done))
local macro_rules | `(tactic| walk_at "rd") => `(tactic| first
  | exact rd_addI | exact rd_i0 | exact rd_b0 | exact rd_eq | exact rd_ne | exact rd_neB
  | (refine' rd_xT ?ka; (case ka => walk_at "at")) | (refine' rd_xL ?ka; (case ka => walk_at "at")) | (refine' rd_xM ?kb ?ka; (case kb => simp; done); (case ka => walk_at "at"))
  | (refine' rd_mulI ?ka; (case ka => walk_at "side"))
  | (refine' rd_addT ?ka; (case ka => walk_at "side"))
  | (refine' rd_i ?ka; (case ka => walk_at "side"))
  | exact rd_isN | (exact rd_isN0 (by intro z; cases z)) | exact rd_notN | (exact rd_notN1 (by intro z; cases z)) | exact rd_inB | exact rd_inT)
local macro_rules | `(tactic| walk_at "rc") => `(tactic| first | exact rc_lenT | exact rc_lenL | (refine' rc_lenM ?ka; (case ka => simp; done)) | exact rc_sumXL | exact rc_sumXT | (refine' rc_sumXM ?ka; (case ka => simp; done)) | exact rc_tupL | (refine' rc_tupM ?ka; (case ka => simp; done)) | exact rc_int | exact rc_min2 | (exact rc_isi (by decide) (by decide +kernel)) | (exact rc_isiT (by decide) (by decide +kernel) (by decide +kernel)))
local macro_rules | `(tactic| walk_at "eo") => `(tactic| first | exact eo_none | (refine' eo_some ?ka; (case ka => walk_at "ev")))
local macro_rules | `(tactic| walk_at "ea") => `(tactic| first | exact ea_nil | (refine' ea_cons ?ka ?kb; (case ka => walk_at "ev"); (case kb => walk_at "ea")))
local macro_rules | `(tactic| walk_at "en") => `(tactic| first
  | (refine' en_lst ?ka ?kb; (case ka => walk_at "ea"); (case kb => walk_at "side"))
  | (refine' en_sliceL ?ka ?kb ?kc; (case ka => walk_at "ev"); (case kb => walk_at "eo"); (case kc => walk_at "eo"))
  | (refine' en_op ?ka ?kb ?kc; (case ka => walk_at "ev"); (case kb => walk_at "ev"); (case kc => first | (refine' rn_addL ?kd; (case kd => walk_at "side")) | (refine' rn_mulL ?kd ?ke ?kf; (case kd => walk_at "side"); (case ke => walk_at "side"); (case kf => walk_at "side")))))
local macro_rules | `(tactic| walk_at "ev") => `(tactic| first
  | exact ev_var rfl | exact ev_int | exact ev_bl | exact ev_non | exact ev_str | exact ev_ty | assumption
  | (refine' ev_op ?ka ?kb ?kc; (case ka => walk_at "ev"); (case kb => walk_at "ev"); (case kc => walk_at "rd"))
  | (refine' ev_un ?ka; (case ka => walk_at "ev"))
  | (refine' ev_tup ?ka ?kb; (case ka => walk_at "ea"); (case kb => walk_at "side"))
  | (refine' ev_cb ?ka ?kb; (case ka => walk_at "ea"); (case kb => walk_at "rc"))
  | (refine' ev_sliceT ?ka ?kb ?kc; (case ka => walk_at "ev"); (case kb => walk_at "eo"); (case kc => walk_at "eo"))
  | (refine' ev_notV ?ka; (case ka => walk_at "ev"))
  | (refine' EvN.toD ?ka; (case ka => walk_at "en")))
local macro_rules | `(tactic| walk_at "n") => `(tactic| first | dsimp only [List.set_cons_zero, List.set_cons_succ, List.map_cons, List.map_nil, List.cons_append, List.nil_append, List.length_cons, List.length_nil, Nat.add_sub_cancel, List.replicate] | skip)
/-! ### a weave, as far as it goes -/
inductive Wp {α : Type} : List (List α) → List Nat → List α → List (List α) → Prop
  | nil {ss : List (List α)} : Wp ss [] [] ss
  | snoc {ss ss' : List (List α)} {w : List Nat} {js : List α} {k : Nat} {j : α} {r : List α} : Wp ss w js ss' → ss'[k]? = some (j :: r) → Wp ss (w ++ [k]) (js ++ [j]) (ss'.set k r)
theorem Wp.go {α : Type} {ss ss' : List (List α)} {w : List Nat} {js : List α} (h : Wp ss w js ss') : ∀ {w2 js2}, Wv ss' w2 js2 → Wv ss (w ++ w2) (js ++ js2) := by
  induction h with
  | nil => exact fun h => h
  | snoc h1 h2 ih =>
    intro w2 js2 h3
    rw [List.append_assoc, List.append_assoc]
    exact ih (.cons h2 h3)
theorem Wp.wv {α : Type} {ss ss' : List (List α)} {w : List Nat} {js : List α} (h : Wp ss w js ss') (he : ∀ s ∈ ss', s = []) : Wv ss w js := by
  have := h.go (.nil he)
  rw [List.append_nil, List.append_nil] at this
  exact this
theorem Wp.len {α : Type} {ss ss' : List (List α)} {w : List Nat} {js : List α} (h : Wp ss w js ss') : ss'.length = ss.length := by
  induction h with
  | nil => rfl
  | snoc h1 h2 ih => rw [List.length_set, ih]
theorem sum_set1 {α : Type} : ∀ {ss : List (List α)} {k : Nat} {j : α} {r : List α}, ss[k]? = some (j :: r) → ((ss.set k r).map List.length).sum + 1 = (ss.map List.length).sum
  | [], k, _, _, h => by simp at h
  | s :: ss, 0, j, r, h => by
    have e : s = j :: r := Option.some.inj h
    subst e
    simp only [List.set_cons_zero, List.map_cons, List.sum_cons, List.length_cons]
    omega
  | s :: ss, k + 1, j, r, h => by
    have := sum_set1 (ss := ss) (k := k) h
    simp only [List.set_cons_succ, List.map_cons, List.sum_cons]
    omega
theorem all_nil {α : Type} : ∀ {ss : List (List α)}, (ss.map List.length).sum = 0 → ∀ s ∈ ss, s = []
  | [], _, s, h => nomatch h
  | a :: r, h, s, hs => by
    rw [List.map_cons, List.sum_cons] at h
    rcases List.mem_cons.mp hs with z | z
    · rw [z]
      exact List.length_eq_zero_iff.mp (by omega)
    · exact all_nil (by omega) s z
theorem some_left {α : Type} : ∀ {ss : List (List α)}, 0 < (ss.map List.length).sum → ∃ (k : Nat) (j : α) (r : List α), ss[k]? = some (j :: r)
  | [], h => absurd h (Nat.lt_irrefl 0)
  | [] :: r, h => by
    have h2 : 0 < (r.map List.length).sum := by simpa using h
    obtain ⟨k, x, r', e⟩ := some_left h2
    exact ⟨k + 1, x, r', e⟩
  | (x :: l) :: r, _ => ⟨0, x, l, rfl⟩
section
variable {P : Program} {w : World} {K : PySem.W.Frag} {mg : Str → Option Value} {base : Heap}
/-- what the strings are that are drawn -/
structure StOk (kinds : Int) (many most : Int) (ss : List (List Jb)) : Prop where
  len : (ss.length : Int) ≤ many
  most : ∀ s ∈ ss, (s.length : Int) ≤ most
  job : ∀ s ∈ ss, ∀ j ∈ s, 0 ≤ j.1 ∧ j.1 < kinds ∧ 1 ≤ j.2.1
def R_dstrings : Nat → List Dt → Nat → (Dt → Prop) → Prop := fun k ds k' p => ∃ kinds many most : Int, ds = [.int kinds, .int many, .int most] ∧ 0 < kinds ∧ kinds ≤ 10 ∧ 0 ≤ many ∧ many ≤ 10 ∧ 0 ≤ most ∧ most ≤ 10 ∧ k ≤ 900000 ∧ k' = k + 1000 ∧ ∀ ss : List (List Jb), StOk kinds many most ss → p (ssD ss)
def timeL : List Int := [2, 5, 5, 30, 2, 5, 5, 30, 10 ^ 20]
abbrev s_L_draw_strings : Stmt := topS 23
theorem sc_L_draw_strings : FnScope ["_law_pen", "_law_kinds", "_law_many", "_law_most", "_law_found", "_law_k", "_law_jobs", "_law_again", "_law_time"] ["_law_pen", "_law_kinds", "_law_many", "_law_most"] (defScope s_L_draw_strings) := ⟨rfl, rfl, rfl, by decide +kernel, rfl, by decide +kernel, by decide +kernel⟩
theorem ok_L_draw_strings {f : Addr} {fd : FuncData} (F : Fun K "_law_draw_strings" "_law_draw_strings" s_L_draw_strings f fd) (Z : Bz mg) (C_L_take : Cal P w K mg base 2 "_law_take" ["_law_pen", "_law_amount"] (SpE R_take)) (C_L_one_of : Cal P w K mg base 3 "_law_one_of" ["_law_pen", "_law_some"] (SpE R_oneOf)) : FnOk P w K mg base CX0 4 f fd ["_law_pen", "_law_kinds", "_law_many", "_law_most"] (SpE R_dstrings) := by
  refine ok_eff F sc_L_draw_strings (fun c ds c' p h => ?_) fun cdv A outer s H E hr => ?_
  · obtain ⟨_, _, _, rfl, _⟩ := h
    rfl
  · have nd := sc_L_draw_strings.nd
    refine ⟨_, (pss_cons (ps_set (i := 4) nd rfl (Or.inl rfl) (pe_lst pa_nil))
      (pss_cons (ps_for PassesOwn.never rfl (pi_range1 (by rfl) Z.range (pa_cons (pe_cal C_L_take hr (by decide) (by rfl) (pa_cons (pv 0) (pa_cons (pe_op (op_addXK (K := K) rfl) (pv 2) pe_int) pa_nil))) pa_nil)) (pg_name (i := 5) nd rfl (Or.inl rfl)) (pss_cons (ps_set (i := 6) nd rfl (Or.inl rfl) (pe_lst pa_nil))
      (pss_cons (ps_for PassesOwn.never rfl (pi_range1 (by rfl) Z.range (pa_cons (pe_cal C_L_take hr (by decide) (by rfl) (pa_cons (pv 0) (pa_cons (pe_op (op_addXK (K := K) rfl) (pv 3) pe_int) pa_nil))) pa_nil)) (pg_name (i := 7) nd rfl (Or.inl rfl)) (pss_cons (ps_set (i := 8) nd rfl (Or.inl rfl) (pe_op (op_addXK (K := K) rfl) pe_int (pe_cal C_L_take hr (by decide) (by rfl) (pa_cons (pv 0) (pa_cons (pe_cal C_L_one_of hr (by decide) (by rfl) (pa_cons (pv 0) (pa_cons (pe_lst (pa_cons pe_int (pa_cons pe_int (pa_cons pe_int (pa_cons pe_int (pa_cons pe_int (pa_cons pe_int (pa_cons pe_int (pa_cons pe_int (pa_cons (pe_op op_pow pe_int pe_int) pa_nil)))))))))) pa_nil))) pa_nil)))))
      (pss_one (ps_expr (pe_bm PySem.F.plainAttrs_list PySem.F.slot_list_append PySem.F.type_list_append mt_append (pv 6) (pa_cons (pe_tup (pa_cons (pe_cal C_L_take hr (by decide) (by rfl) (pa_cons (pv 0) (pa_cons (pv 1) pa_nil))) (pa_cons (pv 8) (pa_cons (pe_cal C_L_take hr (by decide) (by rfl) (pa_cons (pv 0) (pa_cons pe_int pa_nil))) pa_nil)))) pa_nil))))))
      (pss_one (ps_expr (pe_bm PySem.F.plainAttrs_list PySem.F.slot_list_append PySem.F.type_list_append mt_append (pv 4) (pa_cons (pe_callTy (call_tupK (K := K) rfl) (by rfl) Z.tuple (by decide +kernel) (pa_cons (pv 6) pa_nil)) pa_nil)))))))
      (pss_one (ps_ret (pe_callTy (call_tupK (K := K) rfl) (by rfl) Z.tuple (by decide +kernel) (pa_cons (pv 4) pa_nil)))))), fun k ds k' pp h B F0 D p hBp q => ?_⟩
    obtain ⟨kinds, many, most, rfl, hk1, hk2, hm1, hm2, ho1, ho2, hk, rfl, hp⟩ := h
    show Tr B F0 F0 [some (.ptr p), some (.int kinds), some (.int many), some (.int most), none, none, none, none, none] [(p, .pen k)] _
    have htake : ∀ {env : Env_} {mus : Mu} {te : TE} {n : Int} {c j : Nat}, mus[j]? = some (p, .pen c) → EvD (tVar 0) env mus (.ptr p) → EvD te env mus (.int n) → 0 < n → n < 2 ^ 200 → c ≤ 1000000 → EvE (tCall (SpE R_take) [] E0 (tCons (tVar 0) (tCons te tNil))) env mus (mus.set j (p, .pen (c + 1))) (fun d => ∃ r : Int, d = .int r ∧ 0 ≤ r ∧ r < n) :=
      fun hj h0 h1 hn hn2 hc => ev_callE0 (R := R_take) (ea_cons h0 (ea_cons h1 ea_nil)) hj ⟨_, rfl, hn, small_log hn hn2, hc, rfl, fun r h1 h2 => ⟨r, rfl, h1, h2⟩⟩
    refine t_seq ?_
    walk_at "n"
    refine t_asgN (en_lst ea_nil (Nat.zero_le _)) fun pf => ?_
    walk_at "n"
    refine t_seq ?_
    have hr1 := it_range1E (tr := tCons (tCall (SpE R_take) [] E0 (tCons (tVar 0) (tCons (tOp (rAddX K) (tVar 2) (tC (.int 1))) tNil))) tNil) (Pn := fun n => 0 ≤ n ∧ n ≤ many) ((eae_cons (htake (env := [some (.ptr p), some (.int kinds), some (.int many), some (.int most), some (.ptr pf), none, none, none, none]) (mus := [(pf, .lst []), (p, .pen k)]) (j := 1) (n := many + 1) rfl (ev_var rfl) (ev_op (ev_var rfl) ev_int rd_addI) (by omega) (by omega) (by omega)) eae_nil).imp (by
      rintro l ⟨d, r, rfl, ⟨n, rfl, h1, h2⟩, rfl⟩
      exact ⟨n, rfl, h1, by omega⟩)) fun n hn => ⟨by omega, by omega⟩
    refine t_forE hr1 .nil (fun ds i env mus => ∃ (ss : List (List Jb)) (x5 x6 x7 x8 : Option Dt), env = [some (.ptr p), some (.int kinds), some (.int many), some (.int most), some (.ptr pf), x5, x6, x7, x8] ∧ mus = [(pf, .lst (ss.map sD)), (p, .pen (k + 1 + i * 50))] ∧ ss.length = i ∧ StOk kinds i most ss)
      (fun ds _ => ⟨[], none, none, none, none, rfl, rfl, rfl, ⟨by simp, fun s hs => (nomatch hs), fun s hs => (nomatch hs)⟩⟩) (fun _ _ _ _ _ _ _ x hx => nomatch hx) ?_ ?_
    · rintro ds ⟨n, ⟨hn1, hn2⟩, rfl⟩ X' hX i d env mus hd ⟨ss, x5, x6, x7, x8, rfl, rfl, hsl, hst⟩
      obtain ⟨rfl, hi⟩ := rgD_get hd
      have hi10 : i < 10 := by omega
      refine ⟨_, _, gd_name, ?_⟩
      walk_at "n"
      refine t_seq ?_
      refine t_asgN (en_lst ea_nil (Nat.zero_le _)) fun pj => ?_
      walk_at "n"
      refine t_seq ?_
      have hr2 := it_range1E (tr := tCons (tCall (SpE R_take) [] E0 (tCons (tVar 0) (tCons (tOp (rAddX K) (tVar 3) (tC (.int 1))) tNil))) tNil) (Pn := fun n => 0 ≤ n ∧ n ≤ most) ((eae_cons (htake (env := [some (.ptr p), some (.int kinds), some (.int many), some (.int most), some (.ptr pf), some (.int (0 + (i : Nat))), some (.ptr pj), x7, x8]) (mus := [(pj, .lst []), (pf, .lst (ss.map sD)), (p, .pen (k + 1 + i * 50))]) (j := 2) (n := most + 1) rfl (ev_var rfl) (ev_op (ev_var rfl) ev_int rd_addI) (by omega) (by omega) (by omega)) eae_nil).imp (by
        rintro l ⟨d, r, rfl, ⟨n, rfl, h1, h2⟩, rfl⟩
        exact ⟨n, rfl, h1, by omega⟩)) fun n hn => ⟨by omega, by omega⟩
      refine t_forE hr2 .nil (fun ds2 m env mus => ∃ (js : List Jb) (y7 y8 : Option Dt), env = [some (.ptr p), some (.int kinds), some (.int many), some (.int most), some (.ptr pf), some (.int (0 + (i : Nat))), some (.ptr pj), y7, y8] ∧ mus = [(pj, .lst (js.map jbD)), (pf, .lst (ss.map sD)), (p, .pen (k + 1 + i * 50 + 1 + m * 4))] ∧ js.length = m ∧ ∀ j ∈ js, 0 ≤ j.1 ∧ j.1 < kinds ∧ 1 ≤ j.2.1)
        (fun ds2 _ => ⟨[], x7, x8, rfl, rfl, rfl, fun j hj => nomatch hj⟩) (fun _ _ _ _ _ _ _ x hx => nomatch hx) ?_ ?_
      · rintro ds2 ⟨n2, ⟨hn3, hn4⟩, rfl⟩ X2 hX2 m d env mus hd2 ⟨js, y7, y8, rfl, rfl, hjl, hj⟩
        obtain ⟨rfl, hm⟩ := rgD_get hd2
        have hm10 : m < 10 := by omega
        generalize hc : k + 1 + i * 50 + 1 + m * 4 = c
        have hcb : c ≤ 999000 := by omega
        refine ⟨_, _, gd_name, ?_⟩
        walk_at "n"
        refine t_seq ?_
        generalize hM0 : (js.map jbD) = jd
        have hjdl : jd.length = m := by rw [← hM0, List.length_map, hjl]
        generalize hE : ([some (.ptr p), some (.int kinds), some (.int many), some (.int most), some (.ptr pf), some (.int (0 + (i : Nat))), some (.ptr pj), some (.int (0 + (m : Nat))), y8] : Env_) = env0
        have v0 : ∀ {mus : Mu}, EvD (tVar 0) env0 mus (.ptr p) := fun {mus} => by rw [← hE]; exact ev_var rfl
        have ho : EvE (tCall (SpE R_oneOf) [] E0 (tCons (tVar 0) (tCons (tLst (tCons (tC (.int 2)) (tCons (tC (.int 5)) (tCons (tC (.int 5)) (tCons (tC (.int 30)) (tCons (tC (.int 2)) (tCons (tC (.int 5)) (tCons (tC (.int 5)) (tCons (tC (.int 30)) (tCons (tOp (rI CPow fun i j => .int (i ^ j.toNat)) (tC (.int 10)) (tC (.int 20))) tNil)))))))))) tNil))) env0 [(pj, .lst jd), (pf, .lst (ss.map sD)), (p, .pen c)] [(pj, .lst jd), (pf, .lst (ss.map sD)), (p, .pen (c + 1))] (fun d => ∃ x : Int, d = .int x ∧ 0 < x ∧ x < 2 ^ 200) :=
          ev_callE0 (R := R_oneOf) (j := 2) (k' := c + 1) (ds := [.lst (timeL.map Dt.int)]) (ea_cons v0 (ea_cons (EvN.toD (en_lst (ea_cons ev_int (ea_cons ev_int (ea_cons ev_int (ea_cons ev_int (ea_cons ev_int (ea_cons ev_int (ea_cons ev_int (ea_cons ev_int (ea_cons ((ev_op ev_int ev_int (rd_i (C := CPow) (g := fun i j => i ^ j.toNat) (i := 10) (j := 20) ⟨by decide, by decide, by decide⟩)).is rfl) ea_nil))))))))) (show 9 ≤ 100000 by decide))) ea_nil)) rfl ⟨_, rfl, by simp [timeL], (show 9 ≤ 1000 by decide), by omega, rfl, fun e he => by
            obtain ⟨x, hx, rfl⟩ := List.mem_map.mp he
            have hall : ∀ x ∈ timeL, 0 < x ∧ x < 2 ^ 200 := by decide
            exact ⟨x, rfl, hall x hx⟩⟩
        have htm : EvE (tCall (SpE R_take) [] E0 (tCons (tVar 0) (tCons (tCall (SpE R_oneOf) [] E0 (tCons (tVar 0) (tCons (tLst (tCons (tC (.int 2)) (tCons (tC (.int 5)) (tCons (tC (.int 5)) (tCons (tC (.int 30)) (tCons (tC (.int 2)) (tCons (tC (.int 5)) (tCons (tC (.int 5)) (tCons (tC (.int 30)) (tCons (tOp (rI CPow fun i j => .int (i ^ j.toNat)) (tC (.int 10)) (tC (.int 20))) tNil)))))))))) tNil))) tNil))) env0 [(pj, .lst jd), (pf, .lst (ss.map sD)), (p, .pen c)] [(pj, .lst jd), (pf, .lst (ss.map sD)), (p, .pen (c + 2))] (fun d => ∃ r : Int, d = .int r ∧ 0 ≤ r) :=
          ev_callE (R := R_take) (j := 2) (k := c + 1) (k' := c + 2) (Ps := fun l => ∃ x : Int, l = [.int x] ∧ 0 < x ∧ x < 2 ^ 200) ((eae_cons (EvE.of v0) (eae_cons ho eae_nil)).imp (by
            rintro l ⟨d, r, rfl, rfl, d2, r2, rfl, ⟨x, rfl, hx⟩, rfl⟩
            exact ⟨[.int x], rfl, x, rfl, hx⟩)) rfl (by
            rintro l ⟨x, rfl, hx1, hx2⟩
            exact ⟨x, rfl, hx1, small_log hx1 hx2, by omega, rfl, fun r h1 h2 => ⟨r, rfl, h1⟩⟩)
        refine t_asgE (P := fun d => ∃ r : Int, d = .int r ∧ 1 ≤ r) (ev_opE (EvE.of ev_int) htm (by
          rintro d1 d2 rfl ⟨r, rfl, h1⟩
          exact ⟨.int (1 + r), ⟨_, rfl, by omega⟩, rd_addI⟩)) ?_
        rintro d ⟨tim, rfl, htim⟩
        rw [← hE]
        walk_at "n"
        generalize hE2 : ([some (.ptr p), some (.int kinds), some (.int many), some (.int most), some (.ptr pf), some (.int (0 + (i : Nat))), some (.ptr pj), some (.int (0 + (m : Nat))), some (.int tim)] : Env_) = env1
        have v0 : ∀ {mus : Mu}, EvD (tVar 0) env1 mus (.ptr p) := fun {mus} => by rw [← hE2]; exact ev_var rfl
        have v1 : ∀ {mus : Mu}, EvD (tVar 1) env1 mus (.int kinds) := fun {mus} => by rw [← hE2]; exact ev_var rfl
        have v6 : ∀ {mus : Mu}, EvD (tVar 6) env1 mus (.ptr pj) := fun {mus} => by rw [← hE2]; exact ev_var rfl
        have v8 : ∀ {mus : Mu}, EvD (tVar 8) env1 mus (.int tim) := fun {mus} => by rw [← hE2]; exact ev_var rfl
        have hjob := ev_tupE (eae_cons (htake (mus := [(pj, .lst jd), (pf, .lst (ss.map sD)), (p, .pen (c + 2))]) (j := 2) (c := c + 2) rfl v0 v1 hk1 (by omega) (by omega)) (eae_cons (EvE.of v8) (eae_cons (htake (mus := [(pj, .lst jd), (pf, .lst (ss.map sD)), (p, .pen (c + 3))]) (j := 2) (c := c + 3) (n := 9) rfl v0 ev_int (by omega) (by omega) (by omega)) eae_nil))) fun l hl => by
          obtain ⟨d, r, rfl, _, d2, r2, rfl, _, d3, r3, rfl, _, rfl⟩ := hl
          show 3 ≤ 100000
          decide
        refine t_appendE (j := 0) (p := pj) (ds := jd) (mus' := [(pj, .lst jd), (pf, .lst (ss.map sD)), (p, .pen (c + 4))]) rfl rfl v6 hjob (by omega) ?_
        rintro d ⟨l, rfl, d1, r1, rfl, ⟨kd, rfl, h1, h2⟩, d2, r2, rfl, rfl, d3, r3, rfl, ⟨du, rfl, h3, h4⟩, rfl⟩
        rw [← hE2]
        refine tr_asr ⟨js ++ [(kd, tim, du)], _, _, rfl, ?_, by rw [List.length_append, hjl, List.length_singleton], fun j hjm => ?_⟩
        · rw [← hM0, List.map_append, ← hc]
          show [(pj, MO.lst (js.map jbD ++ [jbD (kd, tim, du)])), _, (p, MO.pen (k + 1 + i * 50 + 1 + m * 4 + 4))] = _
          rw [show k + 1 + i * 50 + 1 + m * 4 + 4 = k + 1 + i * 50 + 1 + (m + 1) * 4 by omega]
          rfl
        · rcases List.mem_append.mp hjm with z | z
          · exact hj j z
          · rw [List.mem_singleton.mp z]
            exact ⟨h1, h2, htim⟩
      · rintro ds2 ⟨n2, ⟨hn3, hn4⟩, rfl⟩ env mus ⟨js, y7, y8, rfl, rfl, hjl, hj⟩
        rw [rgD_len] at hjl ⊢
        walk_at "n"
        refine t_append (j := 1) (d := sD js) rfl (ev_var rfl) (ev_cb (ea_cons (ev_var rfl) ea_nil) (rc_tupM (by simp))) (by rw [List.length_map]; omega) ?_
        walk_at "n"
        refine t_drop (mus' := [(pf, .lst (ss.map sD ++ [sD js])), (p, .pen (k + 1 + i * 50 + 1 + n2.toNat * 4))]) (by simp) ?_
        refine t_penW (j := 1) (k' := k + 1 + (i + 1) * 50) rfl (by omega) ?_
        refine tr_asr ⟨ss ++ [js], _, _, _, _, rfl, ?_, by rw [List.length_append, hsl, List.length_singleton], ⟨?_, fun s hs => ?_, fun s hs => ?_⟩⟩
        · rw [List.map_append]
          rfl
        · rw [List.length_append, hsl, List.length_singleton]
          exact Int.le_refl _
        · rcases List.mem_append.mp hs with z | z
          · exact hst.most s z
          · rw [List.mem_singleton.mp z]
            omega
        · rcases List.mem_append.mp hs with z | z
          · exact hst.job s z
          · rw [List.mem_singleton.mp z]
            exact hj
    · rintro ds ⟨n, ⟨hn1, hn2⟩, rfl⟩ env mus ⟨ss, x5, x6, x7, x8, rfl, rfl, hsl, hst⟩
      rw [rgD_len] at hsl hst ⊢
      refine t_penW (j := 1) (k' := k + 1000) rfl (by omega) ?_
      walk_at "n"
      refine t_ret (d := ssD ss) (ev_cb (ea_cons (ev_var rfl) ea_nil) (rc_tupM (by simp))) fun v F' H' g m r => q v _ F' H' (hp ss ⟨?_, hst.most, hst.job⟩) g (m.sub (fun x hx => by rw [List.mem_singleton.mp hx]; simp) (by simp)) r
      have := hst.len
      omega
def R_dweave : Nat → List Dt → Nat → (Dt → Prop) → Prop := fun k ds k' p => ∃ ss : List (List Jb), ds = [ssD ss] ∧ ss.length ≤ 100 ∧ (lens ss).sum ≤ 1000 ∧ k ≤ 900000 ∧ k' = k + (lens ss).sum ∧ ∀ wv js, Wv ss wv js → p (wvD wv)
abbrev s_L_draw_weave : Stmt := topS 24
theorem sc_L_draw_weave : FnScope ["_law_pen", "_law_strings", "_law_left", "_law_found", "_law_turn", "_law_k", "_law_string"] ["_law_pen", "_law_strings"] (defScope s_L_draw_weave) := ⟨rfl, rfl, rfl, by decide +kernel, rfl, by decide +kernel, by decide +kernel⟩
theorem ok_L_draw_weave {f : Addr} {fd : FuncData} (F : Fun K "_law_draw_weave" "_law_draw_weave" s_L_draw_weave f fd) (Z : Bz mg) (C_L_one_of : Cal P w K mg base 3 "_law_one_of" ["_law_pen", "_law_some"] (SpE R_oneOf)) : FnOk P w K mg base CX0 4 f fd ["_law_pen", "_law_strings"] (SpE R_dweave) := by
  refine ok_eff F sc_L_draw_weave (fun c ds c' p h => ?_) fun cdv A outer s H E hr => ?_
  · obtain ⟨_, rfl, _⟩ := h
    rfl
  · have nd := sc_L_draw_weave.nd
    refine ⟨_, (pss_cons (ps_asg (pe_tup (pa_cons (pe_lc (own := [("_law_string", 6)]) (g := (gName 6)) (tt := tYes) rfl nd (pi_seq (pv 1)) (blkOk_by (N := ["_law_pen", "_law_strings", "_law_left", "_law_found", "_law_turn", "_law_k", "_law_string"]) (sc := defScope s_L_draw_weave) (by decide +kernel)) (fun _ _ _ _ _ => (pg_name (i := 6) nd rfl (Or.inl rfl))) (fun _ _ _ _ _ => pts_nil) (fun _ _ _ _ _ => (pe_callB (call_lenK (K := K) rfl) (by rfl) Z.len (by decide +kernel) (pa_cons (pv 6) pa_nil)))) (pa_cons (pe_lst pa_nil) pa_nil))) (pg_tup rfl (pgs_cons (pg_name (i := 2) nd rfl (Or.inr rfl)) (pgs_cons (pg_name (i := 3) nd rfl (Or.inl rfl)) pgs_nil))))
      (pss_cons (ps_for PassesOwn.never rfl (pi_range1 (by rfl) Z.range (pa_cons (pe_callB (cr_sumXK (K := K) rfl rfl) (by rfl) Z.sum (by decide +kernel) (pa_cons (pv 2) pa_nil)) pa_nil)) (pg_name (i := 4) nd rfl (Or.inl rfl)) (pss_cons (ps_set (i := 5) nd rfl (Or.inl rfl) (pe_cal C_L_one_of hr (by decide) (by rfl) (pa_cons (pv 0) (pa_cons (pe_lc (own := [("_law_k", 5)]) (g := (gName 5)) rfl nd (pi_range1 (by rfl) Z.range (pa_cons (pe_callB (call_lenK (K := K) rfl) (by rfl) Z.len (by decide +kernel) (pa_cons (pv 2) pa_nil)) pa_nil)) (blkOk_by (N := ["_law_pen", "_law_strings", "_law_left", "_law_found", "_law_turn", "_law_k", "_law_string"]) (sc := defScope s_L_draw_weave) (by decide +kernel)) (fun _ _ _ _ _ => (pg_name (i := 5) nd rfl (Or.inl rfl))) (fun _ _ _ _ _ => (pts_one (pt_cmpR op_gt (pe_ix (ix_seqK (K := K) rfl) (pv 2) (pv 5) (fun _ _ => rfl)) pe_int (nomark _)))) (fun _ _ _ _ _ => (pv 5))) pa_nil))))
      (pss_cons (ps_asg (pe_op op_sub (pe_ix (ix_seqK (K := K) rfl) (pv 2) (pv 5) (fun _ _ => rfl)) pe_int) (pg_sub (pv 2) (pv 5) set_list))
      (pss_one (ps_expr (pe_bm PySem.F.plainAttrs_list PySem.F.slot_list_append PySem.F.type_list_append mt_append (pv 3) (pa_cons (pv 5) pa_nil)))))))
      (pss_one (ps_ret (pe_callTy (call_tupK (K := K) rfl) (by rfl) Z.tuple (by decide +kernel) (pa_cons (pv 3) pa_nil)))))), fun k ds k' pp h B F0 D p hBp q => ?_⟩
    obtain ⟨ss, rfl, hs1, hs2, hk, rfl, hp⟩ := h
    show Tr B F0 F0 [some (.ptr p), some (ssD ss), none, none, none, none, none] [(p, .pen k)] _
    refine t_seq ?_
    walk_at "n"
    refine t_tupNN (ds := (lens ss).map nD) (es := []) ?_ (en_lst ea_nil (Nat.zero_le _)) fun pl pf hpq => ?_
    · have := en_lcM (mus := [(p, .pen k)]) (mus0 := []) (l := ss) (G := sD) (F := fun s => nD s.length) (is := [6]) (vs := [6]) (g := gName 6) (te := tCB (rLenS K) (tCons (tVar 6) tNil)) (wi := iOr (iList K (tVar 1)) (iTup K (tVar 1))) (env := [some (.ptr p), some (ssD ss), none, none, none, none, none]) (it_right (it_tup (ev_var rfl))) (by simp) .nil (by simp) (fun n s hs => ⟨_, gd_name, (ev_cb (ea_cons (ev_var (d := .tup (s.map jbD)) rfl) ea_nil) rc_lenT).is (by rw [List.length_map]; rfl)⟩) (by omega)
      unfold lens
      rw [List.map_map]
      exact this
    walk_at "n"
    refine t_seq ?_
    refine t_for (it_range1 (n := (((lens ss).sum : Nat) : Int)) (ea_cons (ev_cb (ea_cons (ev_var rfl) ea_nil) (rc_sumNM (lens ss) (by simp))) ea_nil) (by omega) (by omega)) .nil (fun i env mus => ∃ (wv : List Nat) (js : List Jb) (ss' : List (List Jb)) (x4 x5 : Option Dt), env = [some (.ptr p), some (ssD ss), some (.ptr pl), some (.ptr pf), x4, x5, none] ∧ mus = [(pl, .lst ((lens ss').map nD)), (pf, .lst (wv.map nD)), (p, .pen (k + i))] ∧ Wp ss wv js ss' ∧ wv.length = i ∧ (lens ss').sum + i = (lens ss).sum)
      ⟨[], [], ss, none, none, rfl, rfl, .nil, rfl, rfl⟩ (fun _ _ _ _ _ x hx => nomatch hx) ?_ ?_
    · rintro X' hX i d env mus hd ⟨wv, js, ss', x4, x5, rfl, rfl, hwp, hwl, hsum⟩
      obtain ⟨rfl, hi⟩ := rgD_get hd
      rw [Int.toNat_natCast] at hi
      have hsl := hwp.len
      refine ⟨_, _, gd_name, ?_⟩
      walk_at "n"
      refine t_seq ?_
      have hll : (lens ss').length = ss'.length := List.length_map ..
      have hget : ∀ {x : Nat}, x < ss'.length → ∃ s, ss'[x]? = some s ∧ (lens ss')[x]? = some s.length := fun {x} hx => ⟨_, List.getElem?_eq_getElem hx, by unfold lens; rw [List.getElem?_map, List.getElem?_eq_getElem hx]; rfl⟩
      have hlist : EvD (tLc (iRng1 (tCons (tCB (rLenS K) (tCons (tVar 2) tNil)) tNil)) (gName 5) (tTest (tOp (rI0 fun i j => .bl (decide (j < i))) (tOp (rIx K) (tVar 2) (tVar 5)) (tC (.int 0)))) (tVar 5) [5]) [some (.ptr p), some (ssD ss), some (.ptr pl), some (.ptr pf), some (.int (0 + (i : Nat))), x5, none] [(pl, .lst ((lens ss').map nD)), (pf, .lst (wv.map nD)), (p, .pen (k + i))] (.lst (((List.range ss'.length).filter fun x => decide (0 < (lens ss').getD x 0)).map fun (x : Nat) => Dt.int (0 + (x : Nat)))) := by
        refine EvN.toD (en_lcF (l := List.range ss'.length) (G := fun (x : Nat) => Dt.int (0 + (x : Nat))) (F := fun (x : Nat) => Dt.int (0 + (x : Nat))) (is := [5]) (mus0 := []) (fun x => decide (0 < (lens ss').getD x 0)) ?_ (by simp) .nil (by simp) (fun n x hx => ⟨_, gd_name, ?_, fun _ => ev_var rfl⟩) (by rw [List.length_range]; omega))
        · have h1 := it_range1 (n := ((((lens ss').map nD).length : Nat) : Int)) (ta := tCons (tCB (rLenS K) (tCons (tVar 2) tNil)) tNil) (env := [some (.ptr p), some (ssD ss), some (.ptr pl), some (.ptr pf), some (.int (0 + (i : Nat))), x5, none]) (mus := [(pl, .lst ((lens ss').map nD)), (pf, .lst (wv.map nD)), (p, .pen (k + i))]) (ea_cons (ev_cb (ea_cons (ev_var rfl) ea_nil) (rc_lenM (by simp))) ea_nil) (by omega) (by rw [List.length_map]; omega)
          rw [Int.toNat_natCast, List.length_map, hll] at h1
          exact h1
        · have hxl : x < ss'.length := by
            have := List.mem_of_getElem? hx
            exact List.mem_range.mp this
          obtain ⟨s, hs1, hs2⟩ := hget hxl
          refine (et_test (ev_op (d1 := .int ((s.length : Nat) : Int)) (d2 := .int 0) (ev_op (d2 := .int (0 + (x : Nat))) (ev_var rfl) (ev_var rfl) (rd_xM (List.mem_cons_self ..) (d := nD s.length) (atI_of (i := x) (by rw [List.getElem?_map, hs2]; rfl) (by omega)))) ev_int rd_b0)).is ?_
          rw [List.getD_eq_getElem?_getD, hs2]
          show decide ((0 : Int) < (s.length : Nat)) = decide (0 < s.length)
          by_cases e : 0 < s.length
          · rw [decide_eq_true e, decide_eq_true (by omega)]
          · rw [decide_eq_false e, decide_eq_false (by omega)]
      obtain ⟨k0, j0, r0, hk0⟩ := some_left (ss := ss') (by show 0 < (lens ss').sum; omega)
      refine t_asgE (mus' := [(pl, .lst ((lens ss').map nD)), (pf, .lst (wv.map nD)), (p, .pen (k + i + 1))]) (P := fun d => ∃ (x : Nat) (j : Jb) (r : List Jb), d = nD x ∧ ss'[x]? = some (j :: r)) (ev_callE0 (R := R_oneOf) (j := 2) (k' := k + i + 1) (ea_cons (ev_var rfl) (ea_cons hlist ea_nil)) rfl ⟨_, rfl, ?_, ?_, by omega, rfl, fun e he => ?_⟩) ?_
      · intro e
        have hm : k0 ∈ (List.range ss'.length).filter fun x => decide (0 < (lens ss').getD x 0) := by
          refine List.mem_filter.mpr ⟨List.mem_range.mpr (getlt hk0), ?_⟩
          rw [List.getD_eq_getElem?_getD]
          unfold lens
          rw [List.getElem?_map, hk0]
          exact decide_eq_true (Nat.succ_pos _)
        rw [List.map_eq_nil_iff.mp e] at hm
        cases hm
      · rw [List.length_map]
        have := List.length_filter_le (fun x => decide (0 < (lens ss').getD x 0)) (List.range ss'.length)
        rw [List.length_range] at this
        omega
      · obtain ⟨x, hx, rfl⟩ := List.mem_map.mp he
        obtain ⟨hx1, hx2⟩ := List.mem_filter.mp hx
        have hx2' := of_decide_eq_true hx2
        obtain ⟨s, hs1, hs2⟩ := hget (List.mem_range.mp hx1)
        rw [List.getD_eq_getElem?_getD, hs2] at hx2'
        cases s with
        | nil => exact absurd hx2' (Nat.lt_irrefl 0)
        | cons j r => exact ⟨x, j, r, by unfold nD; congr 1; omega, hs1⟩
      rintro d ⟨x, j, r, rfl, hx⟩
      walk_at "n"
      refine t_seq ?_
      have hxl : x < ss'.length := getlt hx
      have hlx : (lens ss')[x]? = some (r.length + 1) := by unfold lens; rw [List.getElem?_map, hx]; rfl
      refine t_setitem (j := 0) (d := nD r.length) (n := x) (z := (x : Int)) rfl ((ev_op (d1 := .int ((r.length + 1 : Nat) : Int)) (d2 := .int 1) (ev_op (d2 := .int (x : Int)) (ev_var rfl) (ev_var rfl) (rd_xM (List.mem_cons_self ..) (atI_map nD hlx))) ev_int rd_i0).is (by unfold nD; congr 1; omega)) (ev_var rfl) (ev_var rfl) (ixN_nat (by rw [List.length_map, hll]; exact hxl)) ?_
      walk_at "n"
      refine t_append (j := 1) (d := nD x) rfl (ev_var rfl) (ev_var rfl) (by rw [List.length_map]; omega) ?_
      have hsum1 := sum_set1 hx
      refine tr_asr ⟨wv ++ [x], js ++ [j], ss'.set x r, _, _, rfl, ?_, hwp.snoc hx, by rw [List.length_append, hwl, List.length_singleton], ?_⟩
      · unfold lens
        rw [List.map_set, List.map_set, List.map_append]
        rfl
      · unfold lens at hsum ⊢
        omega
    · rintro env mus ⟨wv, js, ss', x4, x5, rfl, rfl, hwp, hwl, hsum⟩
      rw [rgD_len, Int.toNat_natCast] at hwl hsum ⊢
      have hz : (lens ss').sum = 0 := by omega
      have hw := hwp.wv (all_nil hz)
      exact t_ret (d := wvD wv) (ev_cb (ea_cons (ev_var rfl) ea_nil) (rc_tupM (by simp))) fun v F' H' g m r => q v _ F' H' (hp wv js hw) g (m.sub (fun x hx => by rw [List.mem_singleton.mp hx]; simp) (by simp)) r
end
end KB
namespace KB
/-! ### values, in plain Lean -/
def wS (l : List (Int × Int)) : Int := (l.map (·.1)).sum
def tS (l : List (Int × Int)) : Int := (l.map (·.2)).sum
theorem shr_eq (l : List (Int × Int)) : shr l = (wS l, tS l) := rfl
theorem wS_cons (p : Int × Int) (l : List (Int × Int)) : wS (p :: l) = p.1 + wS l := by unfold wS; rw [List.map_cons, List.sum_cons]
theorem tS_cons (p : Int × Int) (l : List (Int × Int)) : tS (p :: l) = p.2 + tS l := by unfold tS; rw [List.map_cons, List.sum_cons]
theorem wS_nil : wS [] = 0 := rfl
theorem tS_nil : tS [] = 0 := rfl
theorem wS_app (a b : List (Int × Int)) : wS (a ++ b) = wS a + wS b := by unfold wS; rw [List.map_append, List.sum_append]
theorem tS_app (a b : List (Int × Int)) : tS (a ++ b) = tS a + tS b := by unfold tS; rw [List.map_append, List.sum_append]
theorem val_nil (h : Int) : val h [] = 0 := rfl
theorem val_cons (h : Int) (p : Int × Int) (l : List (Int × Int)) : val h (p :: l) = p.1 * (h + p.2) + val (h + p.2) l := rfl
theorem val_app (h : Int) (a b : List (Int × Int)) : val h (a ++ b) = val h a + val (h + tS a) b := by
  induction a generalizing h with
  | nil => rw [List.nil_append, val_nil, tS_nil]; simp
  | cons p a ih => rw [List.cons_append, val_cons, val_cons, ih, tS_cons]; grind
theorem val_shift (h d : Int) (l : List (Int × Int)) : val (h + d) l = val h l + d * wS l := by
  induction l generalizing h with
  | nil => rw [val_nil, val_nil, wS_nil]; simp
  | cons p l ih =>
    rw [val_cons, val_cons, wS_cons]
    have e : h + d + p.2 = (h + p.2) + d := by omega
    rw [e, ih (h + p.2)]
    grind
/-- times are at least one -/
def TPos (l : List (Int × Int)) : Prop := ∀ p ∈ l, 1 ≤ p.2
theorem TPos.nn {l : List (Int × Int)} (h : TPos l) : 0 ≤ tS l := by
  induction l with
  | nil => exact Int.le_refl 0
  | cons p l ih =>
    rw [tS_cons]
    have := h p (List.mem_cons_self ..)
    have := ih fun q hq => h q (List.mem_cons_of_mem _ hq)
    omega
theorem TPos.pos {l : List (Int × Int)} (h : TPos l) (hn : l ≠ []) : 0 < tS l := by
  cases l with
  | nil => exact absurd rfl hn
  | cons p l =>
    rw [tS_cons]
    have := h p (List.mem_cons_self ..)
    have := TPos.nn (l := l) fun q hq => h q (List.mem_cons_of_mem _ hq)
    omega
theorem TPos.app {a b : List (Int × Int)} (h : TPos (a ++ b)) : TPos a ∧ TPos b := ⟨fun p hp => h p (List.mem_append_left _ hp), fun p hp => h p (List.mem_append_right _ hp)⟩
theorem TPos.take {l : List (Int × Int)} (h : TPos l) (n : Nat) : TPos (l.take n) := fun p hp => h p (List.mem_of_mem_take hp)
theorem TPos.drop {l : List (Int × Int)} (h : TPos l) (n : Nat) : TPos (l.drop n) := fun p hp => h p (List.mem_of_mem_drop hp)
theorem lss_f {a b : Int × Int} (h : lss a b = false) : b.1 * a.2 ≤ a.1 * b.2 := by
  unfold lss at h
  have := of_decide_eq_false h
  omega
theorem lss_t {a b : Int × Int} (h : lss a b = true) : a.1 * b.2 < b.1 * a.2 := by
  unfold lss at h
  exact of_decide_eq_true h
theorem lss_of {a b : Int × Int} (h : b.1 * a.2 ≤ a.1 * b.2) : lss a b = false := by
  unfold lss
  exact decide_eq_false (by omega)
theorem mul_le {a b c : Int} (h : a ≤ b) (hc : 0 ≤ c) : a * c ≤ b * c := Int.mul_le_mul_of_nonneg_right h hc
theorem mul_lt {a b c : Int} (h : a < b) (hc : 0 < c) : a * c < b * c := Int.mul_lt_mul_of_pos_right h hc
theorem mul_can {a b c : Int} (h : a * c ≤ b * c) (hc : 0 < c) : a ≤ b := Int.le_of_mul_le_mul_right h hc
/-- a block's beginnings, with none and all -/
theorem IsBlk.pre {l : List (Int × Int)} (h : IsBlk l) (k : Nat) : wS (l.take k) * tS l ≤ wS l * tS (l.take k) := by
  by_cases h0 : k = 0
  · rw [h0, List.take_zero, wS_nil, tS_nil]
    omega
  · by_cases h1 : k < l.length
    · exact lss_f (h k (by omega) h1)
    · rw [List.take_of_length_le (by omega)]
      exact Int.le_refl _
theorem take_split (l : List (Int × Int)) (k : Nat) : wS l = wS (l.take k) + wS (l.drop k) ∧ tS l = tS (l.take k) + tS (l.drop k) := by
  have := List.take_append_drop k l
  constructor
  · rw [← wS_app, this]
  · rw [← tS_app, this]
/-- a block's ends -/
theorem IsBlk.suf {l : List (Int × Int)} (h : IsBlk l) (k : Nat) : wS l * tS (l.drop k) ≤ wS (l.drop k) * tS l := by
  have h1 := h.pre k
  obtain ⟨e1, e2⟩ := take_split l k
  rw [e1, e2] at h1 ⊢
  clear e1 e2 h
  generalize wS (l.take k) = a at *
  generalize wS (l.drop k) = b at *
  generalize tS (l.take k) = c at *
  generalize tS (l.drop k) = d at *
  rw [Int.add_mul, Int.mul_add] at *
  omega
theorem isBlk_one (p : Int × Int) : IsBlk [p] := fun k h1 h2 => by
  simp at h2
  omega
/-- two blocks, the second of a greater share, are one -/
theorem IsBlk.join {a b : List (Int × Int)} (ha : IsBlk a) (hb : IsBlk b) (ta : TPos a) (tb : TPos b) (na : a ≠ []) (nb : b ≠ []) (h : lss (shr a) (shr b) = true) : IsBlk (a ++ b) := by
  have hl := lss_t h
  rw [shr_eq, shr_eq] at hl
  dsimp only at hl
  have pa := ta.pos na
  have pb := tb.pos nb
  intro k h1 h2
  refine lss_of ?_
  rw [shr_eq, shr_eq]
  dsimp only
  by_cases hk : k ≤ a.length
  · rw [List.take_append_of_le_length hk, wS_app, tS_app]
    have h3 := ha.pre k
    have h4 := (ta.take k).nn
    -- wS p * tA ≤ wA * tP, wA * tB < wB * tA: wS p * tB ≤ wB * tP
    have h5 : wS (a.take k) * tS b ≤ wS b * tS (a.take k) := by
      refine mul_can (c := tS a) ?_ pa
      have h6 := mul_le h3 (Int.le_of_lt pb)
      have h7 := mul_le (Int.le_of_lt hl) h4
      clear ha hb ta tb h
      grind
    rw [Int.mul_add, Int.add_mul]
    exact Int.add_le_add h3 h5
  · have e : (a ++ b).take k = a ++ b.take (k - a.length) := by
      rw [List.take_append, List.take_of_length_le (by omega)]
    rw [e, wS_app, tS_app, wS_app, tS_app]
    have h3 := hb.suf (k - a.length)
    have h4 := ((tb.drop (k - a.length))).nn
    obtain ⟨e1, e2⟩ := take_split b (k - a.length)
    have h5 : wS a * tS (b.drop (k - a.length)) ≤ wS (b.drop (k - a.length)) * tS a := by
      refine mul_can (c := tS b) ?_ pb
      have h6 := mul_le (Int.le_of_lt hl) h4
      have h7 := mul_le h3 (Int.le_of_lt pa)
      grind
    have h8 := hb.pre (k - a.length)
    rw [e1, e2] at h8 ⊢
    clear e1 e2 ha hb ta tb h e h3 hl pa pb h4
    generalize wS (b.take (k - a.length)) = p at *
    generalize wS (b.drop (k - a.length)) = q at *
    generalize tS (b.take (k - a.length)) = r at *
    generalize tS (b.drop (k - a.length)) = s at *
    generalize wS a = u at *
    generalize tS a = v at *
    simp only [Int.add_mul, Int.mul_add] at *
    omega

/-! ### moving a block to the front -/
inductive Il : List (Int × Int) → List (Int × Int) → List (Int × Int) → Prop
  | nil : Il [] [] []
  | left {b : Int × Int} {B O v : List (Int × Int)} : Il B O v → Il (b :: B) O (b :: v)
  | right {o : Int × Int} {B O v : List (Int × Int)} : Il B O v → Il B (o :: O) (o :: v)
theorem Il.all : ∀ O : List (Int × Int), Il [] O O
  | [] => .nil
  | _ :: O => .right (Il.all O)
theorem val_front (h : Int) (o : Int × Int) (B O : List (Int × Int)) : val h (o :: (B ++ O)) - val h (B ++ o :: O) = o.2 * wS B - o.1 * tS B := by
  rw [val_cons, val_app, val_app, val_cons, val_shift h o.2 B]
  have e : h + o.2 + tS B = h + tS B + o.2 := by omega
  rw [e]
  grind
theorem Il.low {W T : Int} {B O v : List (Int × Int)} (h : Il B O v) (hT : 0 < T) : ∀ (S : Int), 0 ≤ S → TPos B → TPos O → (∀ n, W * tS (B.drop n) ≤ wS (B.drop n) * T) → (∀ n, 0 ≤ S + (W * tS (O.take n) - T * wS (O.take n))) →
    ∀ x, 0 ≤ T * (val x v - val x (B ++ O)) + tS B * S := by
  induction h with
  | nil =>
    intro S _ _ _ _ _ x
    rw [List.append_nil, val_nil, tS_nil]
    omega
  | @left b B O v h ih =>
    intro S hS hB hO hs hp x
    have := ih S hS (fun p hp => hB p (List.mem_cons_of_mem _ hp)) hO (fun n => hs (n + 1)) hp (x + b.2)
    rw [List.cons_append, val_cons, val_cons, tS_cons]
    have hb := hB b (List.mem_cons_self ..)
    have h2 : 0 ≤ b.2 * S := Int.mul_nonneg (by omega) hS
    grind
  | @right o B O v h ih =>
    intro S hS hB hO hs hp x
    have h1 := hp 1
    rw [List.take_succ_cons, List.take_zero, tS_cons, wS_cons, tS_nil, wS_nil] at h1
    have := ih (S + (W * o.2 - T * o.1)) (by grind) hB (fun p hp => hO p (List.mem_cons_of_mem _ hp)) hs (fun n => by
      have := hp (n + 1)
      rw [List.take_succ_cons, tS_cons, wS_cons] at this
      grind) (x + o.2)
    have hf := val_front x o B O
    rw [val_cons] at hf
    rw [val_cons]
    have h0 := hs 0
    rw [List.drop_zero] at h0
    have ho := hO o (List.mem_cons_self ..)
    have h2 := mul_le h0 (show 0 ≤ o.2 by omega)
    have key : o.1 * (x + o.2) + val (x + o.2) v - val x (B ++ o :: O) = (val (x + o.2) v - val (x + o.2) (B ++ O)) + (o.2 * wS B - o.1 * tS B) := by omega
    rw [key]
    clear ih hs hp hf key h
    generalize val (x + o.2) v - val (x + o.2) (B ++ O) = z at *
    grind
theorem Il.ge {B O v : List (Int × Int)} (h : Il B O v) (hb : IsBlk B) (tb : TPos B) (nb : B ≠ []) (to : TPos O) (hq : ∀ n, 0 ≤ wS B * tS (O.take n) - tS B * wS (O.take n)) (x : Int) : val x (B ++ O) ≤ val x v := by
  have hT := tb.pos nb
  have := h.low hT 0 (Int.le_refl 0) tb to (fun n => hb.suf n) (fun n => by have := hq n; omega) x
  rw [Int.mul_zero, Int.add_zero] at this
  have h2 : 0 ≤ val x v - val x (B ++ O) := by
    refine mul_can (c := tS B) ?_ hT
    grind
  omega
end KB
namespace KB
/-! ### a weave as a row of blocks -/
theorem set_same {β : Type} {l : List β} {k : Nat} {x : β} (h : l[k]? = some x) : l.set k x = l := by
  apply List.ext_getElem?
  intro i
  by_cases e : k = i
  · subst e
    rw [List.getElem?_set_self (List.getElem?_eq_some_iff.mp h).1, h]
  · rw [List.getElem?_set_ne e]
theorem klt {β : Type} {l : List β} {k : Nat} {x : β} (h : l[k]? = some x) : k < l.length := (List.getElem?_eq_some_iff.mp h).1
section
variable {α : Type}
inductive Pt : List (List α) → List (Nat × List α) → Prop
  | nil {ss : List (List α)} : (∀ s ∈ ss, s = []) → Pt ss []
  | cons {ss : List (List α)} {k : Nat} {B rest : List α} {r : List (Nat × List α)} : ss[k]? = some (B ++ rest) → B ≠ [] → Pt (ss.set k rest) r → Pt ss ((k, B) :: r)
def rwB (n : Nat) (bl : List (Nat × List α)) : List (List (List α)) := (List.range n).map fun i => (bl.filter fun x => decide (x.1 = i)).map (·.2)
theorem rwB_len (n : Nat) (bl : List (Nat × List α)) : (rwB n bl).length = n := by unfold rwB; rw [List.length_map, List.length_range]
theorem rwB_get {n : Nat} {bl : List (Nat × List α)} {i : Nat} (h : i < n) : (rwB n bl)[i]? = some ((bl.filter fun x => decide (x.1 = i)).map (·.2)) := by
  unfold rwB
  rw [List.getElem?_map, List.getElem?_range h]
  rfl
theorem rwB_cons {n k : Nat} {B : List α} {r : List (Nat × List α)} (h : k < n) : ∃ R, (rwB n r)[k]? = some R ∧ rwB n ((k, B) :: r) = (rwB n r).set k (B :: R) := by
  refine ⟨_, rwB_get h, ?_⟩
  apply List.ext_getElem?
  intro i
  by_cases hi : i < n
  · rw [rwB_get hi, List.filter_cons]
    by_cases e : k = i
    · subst e
      rw [List.getElem?_set_self (by rw [rwB_len]; exact h)]
      simp
    · rw [List.getElem?_set_ne e, rwB_get hi]
      simp [e]
  · rw [List.getElem?_eq_none (by rw [rwB_len]; omega), List.getElem?_eq_none (by rw [List.length_set, rwB_len]; omega)]
theorem rwB_nil (n : Nat) : ∀ r ∈ rwB (α := α) n [], r = [] := fun r hr => by
  obtain ⟨i, _, rfl⟩ := List.mem_map.mp hr
  rfl
theorem pt_klt {ss : List (List α)} {k : Nat} {B : List α} {r : List (Nat × List α)} (h : Pt ss ((k, B) :: r)) : k < ss.length := by
  cases h with
  | cons h1 _ _ => exact KB.klt h1
/-- each string is its blocks in a row -/
theorem Pt.rows {ss : List (List α)} {bl : List (Nat × List α)} (h : Pt ss bl) : ss = (rwB ss.length bl).map List.flatten := by
  induction h with
  | @nil ss h =>
    apply List.ext_getElem?
    intro i
    by_cases hi : i < ss.length
    · rw [List.getElem?_map, rwB_get hi, List.getElem?_eq_getElem hi, h _ (List.getElem_mem hi)]
      rfl
    · rw [List.getElem?_eq_none (by omega), List.getElem?_eq_none (by rw [List.length_map, rwB_len]; omega)]
  | @cons ss k B rest r h1 h2 h3 ih =>
    have hk := KB.klt h1
    rw [List.length_set] at ih
    obtain ⟨R, e1, e2⟩ := rwB_cons (B := B) (r := r) hk
    rw [e2, List.map_set, ← ih]
    have e3 : (ss.set k rest)[k]? = some R.flatten := by
      rw [ih, List.getElem?_map, e1]
      rfl
    rw [List.getElem?_set_self hk] at e3
    rw [List.set_set, List.flatten_cons, ← Option.some.inj e3]
    exact (set_same h1).symm
theorem Pt.map {β : Type} (f : α → β) {ss : List (List α)} {bl : List (Nat × List α)} (h : Pt ss bl) : Pt (ss.map (List.map f)) (bl.map fun x => (x.1, x.2.map f)) := by
  induction h with
  | @nil ss h =>
    refine .nil fun s hs => ?_
    obtain ⟨t, ht, rfl⟩ := List.mem_map.mp hs
    rw [h t ht]
    rfl
  | @cons ss k B rest r h1 h2 h3 ih =>
    rw [List.map_set] at ih
    refine .cons (rest := rest.map f) ?_ (fun z => h2 (List.map_eq_nil_iff.mp z)) ih
    rw [List.getElem?_map, h1, Option.map_some, List.map_append]
theorem Wv.map {β : Type} (f : α → β) {ss : List (List α)} {w : List Nat} {js : List α} (h : Wv ss w js) : Wv (ss.map (List.map f)) w (js.map f) := by
  induction h with
  | @nil ss h =>
    refine .nil fun s hs => ?_
    obtain ⟨t, ht, rfl⟩ := List.mem_map.mp hs
    rw [h t ht]
    rfl
  | @cons ss k j r w js h1 h2 ih =>
    rw [List.map_set] at ih
    refine .cons (r := r.map f) ?_ ih
    rw [List.getElem?_map, h1]
    rfl
theorem Wv.memS {ss : List (List α)} {w : List Nat} {js : List α} (h : Wv ss w js) : ∀ j ∈ js, ∃ s ∈ ss, j ∈ s := by
  induction h with
  | nil _ => intro j hj; cases hj
  | @cons ss k j r w js h1 h2 ih =>
    intro x hx
    rcases List.mem_cons.mp hx with z | z
    · rw [z]
      exact ⟨_, List.mem_of_getElem? h1, List.mem_cons_self ..⟩
    · obtain ⟨s, hs, hxs⟩ := ih x z
      rcases List.mem_or_eq_of_mem_set hs with y | y
      · exact ⟨s, y, hxs⟩
      · rw [y] at hxs
        exact ⟨_, List.mem_of_getElem? h1, List.mem_cons_of_mem _ hxs⟩
theorem set_comm2 {β : Type} {l : List β} {i j : Nat} {a b : β} (h : i ≠ j) : (l.set i a).set j b = (l.set j b).set i a := List.set_comm a b h
end
/-- the first items of a string are woven among the others -/
theorem Wv.il {ss : List (List (Int × Int))} {w : List Nat} {js : List (Int × Int)} (h : Wv ss w js) : ∀ {k : Nat} {B rest : List (Int × Int)}, ss[k]? = some (B ++ rest) → ∃ O wO, Il B O js ∧ Wv (ss.set k rest) wO O := by
  induction h with
  | @nil ss h =>
    intro k B rest hk
    have e := h _ (List.mem_of_getElem? hk)
    obtain ⟨rfl, rfl⟩ := List.append_eq_nil_iff.mp e
    refine ⟨[], [], .nil, .nil fun s hs => ?_⟩
    rcases List.mem_or_eq_of_mem_set hs with z | z
    · exact h s z
    · exact z
  | @cons ss k' j r w js h1 h2 ih =>
    intro k B rest hk
    by_cases e : k = k'
    · subst e
      cases B with
      | nil =>
        refine ⟨j :: js, k :: w, Il.all _, ?_⟩
        rw [List.nil_append] at hk
        rw [set_same hk]
        exact .cons h1 h2
      | cons b B =>
        rw [h1] at hk
        obtain ⟨e1, e2⟩ := List.cons.inj (Option.some.inj hk)
        subst e1
        obtain ⟨O, wO, h3, h4⟩ := ih (k := k) (B := B) (rest := rest) (by rw [List.getElem?_set_self (klt h1), e2]; rfl)
        rw [List.set_set] at h4
        exact ⟨O, wO, .left h3, h4⟩
    · obtain ⟨O, wO, h3, h4⟩ := ih (k := k) (B := B) (rest := rest) (by rw [List.getElem?_set_ne (fun z => e z.symm)]; exact hk)
      refine ⟨j :: O, k' :: wO, .right h3, .cons (r := r) (by rw [List.getElem?_set_ne e]; exact h1) ?_⟩
      rw [set_comm2 e]
      exact h4
def eS (W T : Int) (l : List (Int × Int)) : Int := W * tS l - T * wS l
theorem eS_nil (W T : Int) : eS W T [] = 0 := by unfold eS; rw [wS_nil, tS_nil]; omega
theorem eS_cons (W T : Int) (p : Int × Int) (l : List (Int × Int)) : eS W T (p :: l) = eS W T [p] + eS W T l := by
  unfold eS
  rw [wS_cons, tS_cons, wS_cons, tS_cons, wS_nil, tS_nil]
  simp only [Int.mul_add]
  omega
theorem eS_app (W T : Int) (a b : List (Int × Int)) : eS W T (a ++ b) = eS W T a + eS W T b := by
  unfold eS
  rw [wS_app, tS_app]
  simp only [Int.mul_add]
  omega
theorem sum_rep0 : ∀ n : Nat, (List.replicate n (0 : Int)).sum = 0
  | 0 => rfl
  | n + 1 => by rw [List.replicate_succ, List.sum_cons, sum_rep0 n]; rfl
theorem sum_nn : ∀ {as : List Int}, (∀ a ∈ as, 0 ≤ a) → 0 ≤ as.sum
  | [], _ => Int.le_refl 0
  | a :: as, h => by
    rw [List.sum_cons]
    have := h a (List.mem_cons_self ..)
    have := sum_nn fun x hx => h x (List.mem_cons_of_mem _ hx)
    omega
theorem isum_set {as : List Int} : ∀ {k : Nat} {a b : Int}, as[k]? = some a → (as.set k b).sum + a = as.sum + b := by
  induction as with
  | nil => intro k a b h; simp at h
  | cons x as ih =>
    intro k a b h
    cases k with
    | zero =>
      have e : x = a := Option.some.inj h
      subst e
      rw [List.set_cons_zero, List.sum_cons, List.sum_cons]
      omega
    | succ k =>
      have := ih (k := k) (b := b) h
      rw [List.set_cons_succ, List.sum_cons, List.sum_cons]
      omega
/-- a weave's beginnings, from the strings' beginnings -/
theorem Wv.pre {W T : Int} {ss : List (List (Int × Int))} {w : List Nat} {O : List (Int × Int)} (h : Wv ss w O) : ∀ as : List Int, as.length = ss.length → (∀ (k : Nat) s a, ss[k]? = some s → as[k]? = some a → ∀ n, 0 ≤ a + eS W T (s.take n)) → ∀ n, 0 ≤ as.sum + eS W T (O.take n) := by
  have h00 : ∀ {ss : List (List (Int × Int))} (as : List Int), as.length = ss.length → (∀ (k : Nat) s a, ss[k]? = some s → as[k]? = some a → ∀ n, 0 ≤ a + eS W T (s.take n)) → 0 ≤ as.sum := fun {ss} as hl ha => sum_nn fun a hm => by
    obtain ⟨k, hk⟩ := List.mem_iff_getElem?.mp hm
    have hks : k < ss.length := by rw [← hl]; exact klt hk
    have := ha k _ a (List.getElem?_eq_getElem hks) hk 0
    rw [List.take_zero, eS_nil] at this
    omega
  induction h with
  | @nil ss h =>
    intro as hl ha n
    rw [List.take_nil, eS_nil]
    have := h00 as hl ha
    omega
  | @cons ss k j r w js h1 h2 ih =>
    intro as hl ha n
    have hkl : k < as.length := by rw [hl]; exact klt h1
    have hka : as[k]? = some as[k] := List.getElem?_eq_getElem hkl
    cases n with
    | zero =>
      rw [List.take_zero, eS_nil]
      have := h00 as hl ha
      omega
    | succ n =>
      have := ih (as.set k (as[k] + eS W T [j])) (by rw [List.length_set, List.length_set, hl]) (fun i s a hs hi m => by
        by_cases e : k = i
        · subst e
          rw [List.getElem?_set_self (klt h1)] at hs
          rw [List.getElem?_set_self hkl] at hi
          rw [← Option.some.inj hs, ← Option.some.inj hi]
          have := ha k _ _ h1 hka (m + 1)
          rw [List.take_succ_cons, eS_cons] at this
          omega
        · rw [List.getElem?_set_ne e] at hs hi
          exact ha i s a hs hi m) n
      have hs := isum_set (b := as[k] + eS W T [j]) hka
      rw [List.take_succ_cons, eS_cons]
      omega
/-- what a block row is made of -/
def BlOk (bl : List (Nat × List (Int × Int))) : Prop := ∀ x ∈ bl, IsBlk x.2 ∧ TPos x.2
theorem Pt.pre {W T : Int} {ss : List (List (Int × Int))} {bl : List (Nat × List (Int × Int))} (h : Pt ss bl) : BlOk bl → (∀ x ∈ bl, wS x.2 * T ≤ W * tS x.2) → 0 < T → ∀ s ∈ ss, ∀ n, 0 ≤ eS W T (s.take n) := by
  induction h with
  | @nil ss h =>
    intro _ _ _ s hs n
    rw [h s hs, List.take_nil, eS_nil]
    exact Int.le_refl 0
  | @cons ss k B rest r h1 h2 h3 ih =>
    intro hb hl hT s hs n
    have ih' := ih (fun x hx => hb x (List.mem_cons_of_mem _ hx)) (fun x hx => hl x (List.mem_cons_of_mem _ hx)) hT
    obtain ⟨i, hi⟩ := List.mem_iff_getElem?.mp hs
    by_cases e : k = i
    · subst e
      rw [h1] at hi
      rw [← Option.some.inj hi]
      obtain ⟨b1, b2⟩ := hb _ (List.mem_cons_self ..)
      have b3 := hl _ (List.mem_cons_self ..)
      dsimp only at b1 b2 b3
      have bp := b2.pos h2
      by_cases hn : n ≤ B.length
      · rw [List.take_append_of_le_length hn]
        have c1 := b1.pre n
        have c2 := (b2.take n).nn
        have c3 : wS (B.take n) * T ≤ W * tS (B.take n) := by
          refine mul_can (c := tS B) ?_ bp
          have c4 := mul_le c1 (Int.le_of_lt hT)
          have c5 := mul_le b3 c2
          clear ih ih' hb hl h3 h1 b1 b2
          generalize wS (B.take n) = x1 at *
          generalize tS (B.take n) = x2 at *
          generalize wS B = x3 at *
          generalize tS B = x4 at *
          grind
        unfold eS
        grind
      · rw [List.take_append, List.take_of_length_le (by omega), eS_app]
        have c1 := ih' rest (List.mem_of_getElem? (List.getElem?_set_self (klt h1))) (n - B.length)
        unfold eS at c1 ⊢
        have c2 : T * wS B ≤ W * tS B := by rw [Int.mul_comm]; exact b3
        omega
    · exact ih' s (List.mem_of_getElem? (by rw [List.getElem?_set_ne e]; exact hi)) n
theorem Il.mem {B O v : List (Int × Int)} (h : Il B O v) : ∀ x ∈ O, x ∈ v := by
  induction h with
  | nil => intro x hx; cases hx
  | left _ ih => intro x hx; exact List.mem_cons_of_mem _ (ih x hx)
  | right _ ih =>
    intro x hx
    rcases List.mem_cons.mp hx with z | z
    · rw [z]; exact List.mem_cons_self ..
    · exact List.mem_cons_of_mem _ (ih x z)
def Fall (bl : List (Nat × List (Int × Int))) : Prop := bl.Pairwise fun x y => lss (shr x.2) (shr y.2) = false
def flatB {α : Type} (bl : List (Nat × List α)) : List α := (bl.map (·.2)).flatten
/-- no weave has a lower value than a falling row of blocks -/
theorem Pt.min {ss : List (List (Int × Int))} {bl : List (Nat × List (Int × Int))} (h : Pt ss bl) : BlOk bl → Fall bl → (∀ s ∈ ss, TPos s) → ∀ (x : Int) {w : List Nat} {js : List (Int × Int)}, Wv ss w js → val x (flatB bl) ≤ val x js := by
  induction h with
  | @nil ss h =>
    intro _ _ _ x w js hw
    cases hw with
    | nil _ => exact Int.le_refl _
    | cons h1 _ => exact absurd (h _ (List.mem_of_getElem? h1)) (by simp)
  | @cons ss k B rest r h1 h2 h3 ih =>
    intro hb hf ht x w js hw
    have hf' := List.pairwise_cons.mp hf
    obtain ⟨O, wO, hil, hwO⟩ := hw.il h1
    have ht' : ∀ s ∈ ss.set k rest, TPos s := fun s hs => by
      rcases List.mem_or_eq_of_mem_set hs with z | z
      · exact ht s z
      · rw [z]
        exact (ht _ (List.mem_of_getElem? h1)).app.2
    obtain ⟨b1, b2⟩ := hb _ (List.mem_cons_self ..)
    dsimp only at b1 b2
    have hO : TPos O := fun p hp => by
      obtain ⟨s, hs, hps⟩ := hw.memS p (hil.mem p hp)
      exact ht s hs p hps
    have hpre := h3.pre (W := wS B) (T := tS B) (fun x hx => hb x (List.mem_cons_of_mem _ hx)) (fun y hy => lss_f (hf'.1 y hy)) (b2.pos h2)
    have hq : ∀ n, 0 ≤ eS (wS B) (tS B) (O.take n) := fun n => by
      have := hwO.pre (W := wS B) (T := tS B) (List.replicate (ss.set k rest).length 0) (List.length_replicate) (fun i s a hs ha m => by
        have e : a = 0 := (List.mem_replicate.mp (List.mem_of_getElem? ha)).2
        rw [e, Int.zero_add]
        exact hpre s (List.mem_of_getElem? hs) m) n
      rw [sum_rep0] at this
      simpa using this
    have hge := hil.ge b1 b2 h2 hO hq x
    have ih' := ih (fun x hx => hb x (List.mem_cons_of_mem _ hx)) hf'.2 ht' (x + tS B) hwO
    have e : flatB ((k, B) :: r) = B ++ flatB r := rfl
    rw [e, val_app]
    rw [val_app] at hge
    omega
end KB
namespace KB
/-! ### the floor of a falling row of blocks -/
theorem crs_cons_l (b : Int × Int) (R r2 : List (Int × Int)) : crs (b :: R) r2 = (r2.map (mn b)).sum + crs R r2 := by
  unfold crs
  rw [List.map_cons, List.sum_cons]
theorem crs_nil (r2 : List (Int × Int)) : crs [] r2 = 0 := rfl
theorem mn_comm (a b : Int × Int) : mn a b = mn b a := by
  unfold mn
  omega
theorem crs_cons_r (b : Int × Int) : ∀ (r R : List (Int × Int)), crs r (b :: R) = (r.map (mn b)).sum + crs r R
  | [], R => rfl
  | a :: r, R => by
    have ih := crs_cons_r b r R
    rw [crs_cons_l, crs_cons_l, ih, List.map_cons, List.sum_cons, List.map_cons, List.sum_cons, mn_comm a b]
    omega
theorem crsAll_cons (r : List (Int × Int)) (rs : List (List (Int × Int))) : crsAll (r :: rs) = (rs.map (crs r)).sum + crsAll rs := rfl
theorem sum_crs_cons (b : Int × Int) (R : List (Int × Int)) : ∀ rs : List (List (Int × Int)), (rs.map (crs (b :: R))).sum = (rs.map fun r => (r.map (mn b)).sum).sum + (rs.map (crs R)).sum
  | [] => rfl
  | r :: rs => by
    have ih := sum_crs_cons b R rs
    rw [List.map_cons, List.sum_cons, List.map_cons, List.sum_cons, List.map_cons, List.sum_cons, ih, crs_cons_l]
    omega
theorem sum_crs_set (r : List (Int × Int)) (b : Int × Int) {R : List (Int × Int)} : ∀ {rs : List (List (Int × Int))} {k : Nat}, rs[k]? = some R → ((rs.set k (b :: R)).map (crs r)).sum = (r.map (mn b)).sum + (rs.map (crs r)).sum
  | [], k, h => by simp at h
  | x :: rs, 0, h => by
    have e : x = R := Option.some.inj h
    subst e
    rw [List.set_cons_zero, List.map_cons, List.sum_cons, List.map_cons, List.sum_cons, crs_cons_r]
    omega
  | x :: rs, k + 1, h => by
    have ih := sum_crs_set r b (rs := rs) (k := k) h
    rw [List.set_cons_succ, List.map_cons, List.sum_cons, List.map_cons, List.sum_cons, ih]
    omega
/-- the sum of f over all rows but the k-th -/
def oth (f : List (Int × Int) → Int) (rs : List (List (Int × Int))) (k : Nat) : Int := ((rs.set k []).map f).sum
theorem crsAll_set (b : Int × Int) {R : List (Int × Int)} : ∀ {rs : List (List (Int × Int))} {k : Nat}, rs[k]? = some R → crsAll (rs.set k (b :: R)) = crsAll rs + oth (fun r => (r.map (mn b)).sum) rs k
  | [], k, h => by simp at h
  | x :: rs, 0, h => by
    have e : x = R := Option.some.inj h
    subst e
    unfold oth
    rw [List.set_cons_zero, List.set_cons_zero, crsAll_cons, crsAll_cons, sum_crs_cons, List.map_cons, List.sum_cons]
    show _ = _ + (0 + _)
    omega
  | x :: rs, k + 1, h => by
    have ih := crsAll_set b (rs := rs) (k := k) h
    unfold oth at ih ⊢
    rw [List.set_cons_succ, List.set_cons_succ, crsAll_cons, crsAll_cons, sum_crs_set x b (rs := rs) (k := k) h, ih, List.map_cons, List.sum_cons]
    omega
theorem oth_eq (f : List (Int × Int) → Int) (h0 : f [] = 0) {R : List (Int × Int)} : ∀ {rs : List (List (Int × Int))} {k : Nat}, rs[k]? = some R → oth f rs k + f R = (rs.map f).sum
  | [], k, h => by simp at h
  | x :: rs, 0, h => by
    have e : x = R := Option.some.inj h
    subst e
    unfold oth
    rw [List.set_cons_zero, List.map_cons, List.sum_cons, List.map_cons, List.sum_cons, h0]
    omega
  | x :: rs, k + 1, h => by
    have ih := oth_eq f h0 (rs := rs) (k := k) h
    unfold oth at ih ⊢
    rw [List.set_cons_succ, List.map_cons, List.sum_cons, List.map_cons, List.sum_cons]
    omega
theorem oth_congr {f g : List (Int × Int) → Int} {rs : List (List (Int × Int))} (h0 : f [] = g []) (h : ∀ r ∈ rs, f r = g r) (k : Nat) : oth f rs k = oth g rs k := by
  unfold oth
  congr 1
  refine List.map_congr_left fun r hr => ?_
  rcases List.mem_or_eq_of_mem_set hr with z | z
  · exact h r z
  · rw [z, h0]
/-- the shares of the rows -/
def shR (n : Nat) (bl : List (Nat × List (Int × Int))) : List (List (Int × Int)) := (rwB n bl).map fun r => r.map shr
theorem shR_cons {n k : Nat} {B : List (Int × Int)} {r : List (Nat × List (Int × Int))} (h : k < n) : ∃ R, (shR n r)[k]? = some R ∧ shR n ((k, B) :: r) = (shR n r).set k (shr B :: R) := by
  obtain ⟨R, e1, e2⟩ := rwB_cons (B := B) (r := r) h
  refine ⟨R.map shr, by unfold shR; rw [List.getElem?_map, e1]; rfl, ?_⟩
  unfold shR
  rw [e2, List.map_set, List.map_cons]
theorem wS_flat : ∀ R : List (List (Int × Int)), wS R.flatten = ((R.map shr).map (·.1)).sum
  | [] => rfl
  | b :: R => by
    rw [List.flatten_cons, wS_app, wS_flat R, List.map_cons, List.map_cons, List.sum_cons]
    rfl
theorem rows_w {ss : List (List (Int × Int))} {bl : List (Nat × List (Int × Int))} (h : Pt ss bl) : ss.map wS = (shR ss.length bl).map fun r => (r.map (·.1)).sum := by
  have e := h.rows
  unfold shR
  rw [List.map_map]
  conv => lhs; rw [e]
  rw [List.map_map]
  refine List.map_congr_left fun R _ => ?_
  exact wS_flat R
theorem shR_mem {n : Nat} {bl : List (Nat × List (Int × Int))} {r : List (Int × Int)} (hr : r ∈ shR n bl) : ∀ s ∈ r, ∃ x ∈ bl, s = shr x.2 := fun s hs => by
  obtain ⟨R, hR, rfl⟩ := List.mem_map.mp hr
  obtain ⟨b, hb, rfl⟩ := List.mem_map.mp hs
  unfold rwB at hR
  obtain ⟨i, _, rfl⟩ := List.mem_map.mp hR
  obtain ⟨x, hx, rfl⟩ := List.mem_map.mp hb
  exact ⟨x, (List.mem_filter.mp hx).1, rfl⟩
theorem sum_mul_left (c : Int) : ∀ l : List (Int × Int), (l.map fun b => c * b.1).sum = c * (l.map (·.1)).sum
  | [] => by simp
  | p :: l => by
    rw [List.map_cons, List.sum_cons, List.map_cons, List.sum_cons, sum_mul_left c l, Int.mul_add]
theorem sum_mul_left' (c : Int) (f : List (Int × Int) → Int) : ∀ l : List (List (Int × Int)), (l.map fun b => c * f b).sum = c * (l.map f).sum
  | [] => by simp
  | p :: l => by
    rw [List.map_cons, List.sum_cons, List.map_cons, List.sum_cons, sum_mul_left' c f l, Int.mul_add]
theorem val_sum_set (x : Int) {B rest : List (Int × Int)} : ∀ {ss : List (List (Int × Int))} {k : Nat}, ss[k]? = some (B ++ rest) → (ss.map (val x)).sum = ((ss.set k rest).map (val x)).sum + (val x (B ++ rest) - val x rest)
  | [], k, h => by simp at h
  | s :: ss, 0, h => by
    have e : s = B ++ rest := Option.some.inj h
    subst e
    rw [List.set_cons_zero, List.map_cons, List.sum_cons, List.map_cons, List.sum_cons]
    omega
  | s :: ss, k + 1, h => by
    have ih := val_sum_set x (ss := ss) (k := k) h
    rw [List.set_cons_succ, List.map_cons, List.sum_cons, List.map_cons, List.sum_cons]
    omega
theorem Pt.wAll {ss : List (List (Int × Int))} {bl : List (Nat × List (Int × Int))} (h : Pt ss bl) : wS (flatB bl) = (ss.map wS).sum := by
  induction h with
  | @nil ss h =>
    have : ss.map wS = List.replicate ss.length 0 := by
      apply List.ext_getElem?
      intro i
      by_cases hi : i < ss.length
      · rw [List.getElem?_map, List.getElem?_eq_getElem hi, h _ (List.getElem_mem hi), List.getElem?_replicate, if_pos hi]
        rfl
      · rw [List.getElem?_eq_none (by rw [List.length_map]; omega), List.getElem?_eq_none (by rw [List.length_replicate]; omega)]
    rw [this, sum_rep0]
    rfl
  | @cons ss k B rest r h1 h2 h3 ih =>
    show wS (B ++ flatB r) = _
    rw [wS_app, ih, List.map_set]
    have h4 : (ss.map wS)[k]? = some (wS (B ++ rest)) := by rw [List.getElem?_map, h1]; rfl
    have := isum_set (b := wS rest) h4
    rw [wS_app] at this
    omega
theorem Pt.floor {ss : List (List (Int × Int))} {bl : List (Nat × List (Int × Int))} (h : Pt ss bl) : Fall bl → ∀ x : Int, val x (flatB bl) = (ss.map (val x)).sum + crsAll (shR ss.length bl) := by
  induction h with
  | @nil ss h =>
    intro _ x
    have e1 : ss.map (val x) = List.replicate ss.length 0 := by
      apply List.ext_getElem?
      intro i
      by_cases hi : i < ss.length
      · rw [List.getElem?_map, List.getElem?_eq_getElem hi, h _ (List.getElem_mem hi), List.getElem?_replicate, if_pos hi]
        rfl
      · rw [List.getElem?_eq_none (by rw [List.length_map]; omega), List.getElem?_eq_none (by rw [List.length_replicate]; omega)]
    have e2 : ∀ rs : List (List (Int × Int)), (∀ r ∈ rs, r = []) → crsAll rs = 0 := fun rs => by
      induction rs with
      | nil => intro _; rfl
      | cons r rs ih =>
        intro h
        rw [crsAll_cons, ih fun y hy => h y (List.mem_cons_of_mem _ hy), h r (List.mem_cons_self ..)]
        have : ∀ l : List (List (Int × Int)), (l.map (crs [])).sum = 0 := fun l => by
          induction l with
          | nil => rfl
          | cons a l ih => rw [List.map_cons, List.sum_cons, ih, crs_nil]; rfl
        rw [this]
        rfl
    rw [e1, sum_rep0, e2]
    · rfl
    · intro r hr
      obtain ⟨R, hR, rfl⟩ := List.mem_map.mp hr
      rw [rwB_nil _ R hR]
      rfl
  | @cons ss k B rest r h1 h2 h3 ih =>
    intro hf x
    have hf' := List.pairwise_cons.mp hf
    have hk : k < ss.length := klt h1
    obtain ⟨R, e1, e2⟩ := shR_cons (B := B) (r := r) hk
    have ih' := ih hf'.2 x
    rw [List.length_set] at ih'
    have hw := rows_w h3
    rw [List.length_set] at hw
    rw [e2, crsAll_set _ e1]
    show val x (B ++ flatB r) = _
    rw [val_app, val_shift, h3.wAll, ih', val_sum_set x h1, val_app, val_shift]
    have hoth : oth (fun q => (q.map (mn (shr B))).sum) (shR ss.length r) k = oth (fun q => tS B * (q.map (·.1)).sum) (shR ss.length r) k := by
      refine oth_congr (by simp) (fun q hq => ?_) k
      rw [← sum_mul_left]
      congr 1
      refine List.map_congr_left fun s hs => ?_
      obtain ⟨y, hy, rfl⟩ := shR_mem hq s hs
      have := lss_f (hf'.1 y hy)
      unfold mn
      rw [shr_eq] at this ⊢
      rw [shr_eq] at this ⊢
      dsimp only at this ⊢
      rw [Int.mul_comm (tS y.2), Int.mul_comm (tS B)]
      omega
    have hsum := oth_eq (fun q => tS B * (q.map (·.1)).sum) (by simp) e1
    have hR : (R.map (·.1)).sum = wS rest := by
      have h4 : ((ss.set k rest).map wS)[k]? = some (wS rest) := by rw [List.getElem?_map, List.getElem?_set_self hk]; rfl
      rw [hw, List.getElem?_map, e1] at h4
      exact Option.some.inj h4
    rw [hR, sum_mul_left' (tS B) (fun q => (q.map (·.1)).sum), ← hw] at hsum
    rw [hoth]
    generalize oth (fun q => tS B * (q.map (·.1)).sum) (shR ss.length r) k = o at *
    omega
end KB
namespace KB
/-! ### neighbours -/
def Adj {β : Type} (R : β → β → Prop) (l : List β) : Prop := ∀ (i : Nat) x y, l[i]? = some x → l[i + 1]? = some y → R x y
section
variable {β : Type} {R S : β → β → Prop}
theorem Adj.nil : Adj R ([] : List β) := fun i x y h => by simp at h
theorem Adj.one {a : β} : Adj R [a] := fun i x y _ h => by simp at h
theorem Adj.tail {a : β} {l : List β} (h : Adj R (a :: l)) : Adj R l := fun i x y h1 h2 => h (i + 1) x y h1 h2
theorem Adj.cons {a : β} {l : List β} (h : Adj R l) (ha : ∀ b, l[0]? = some b → R a b) : Adj R (a :: l) := fun i x y h1 h2 => by
  cases i with
  | zero => rw [← Option.some.inj h1]; exact ha y h2
  | succ i => exact h i x y h1 h2
theorem Adj.append {l r : List β} (hl : Adj R l) (hr : Adj R r) (h : ∀ a b, l.getLast? = some a → r[0]? = some b → R a b) : Adj R (l ++ r) := by
  induction l with
  | nil => exact hr
  | cons a l ih =>
    rw [List.cons_append]
    refine Adj.cons (ih hl.tail fun x y hx hy => h x y ?_ hy) fun b hb => ?_
    · cases l with
      | nil => simp at hx
      | cons c l => rw [List.getLast?_cons_cons]; exact hx
    · cases l with
      | nil => exact h a b rfl hb
      | cons c l => exact hl 0 a b rfl hb
theorem Adj.imp {l : List β} (h : Adj R l) (f : ∀ x y, R x y → S x y) : Adj S l := fun i x y h1 h2 => f x y (h i x y h1 h2)
theorem Adj.pair {l : List β} (h : Adj R l) (t : ∀ x y z, x ∈ l → y ∈ l → z ∈ l → R x y → R y z → R x z) : l.Pairwise R := by
  induction l with
  | nil => exact .nil
  | cons a l ih =>
    have ih' := ih h.tail fun x y z hx hy hz => t x y z (List.mem_cons_of_mem _ hx) (List.mem_cons_of_mem _ hy) (List.mem_cons_of_mem _ hz)
    refine List.pairwise_cons.mpr ⟨fun b hb => ?_, ih'⟩
    cases l with
    | nil => cases hb
    | cons c l =>
      have hac := h 0 a c rfl rfl
      rcases List.mem_cons.mp hb with z | z
      · rw [z]; exact hac
      · exact t a c b (List.mem_cons_self ..) (List.mem_cons_of_mem _ (List.mem_cons_self ..)) (List.mem_cons_of_mem _ hb) hac ((List.pairwise_cons.mp ih').1 b z)
theorem adj_of_pair {l : List β} (h : l.Pairwise R) : Adj R l := by
  induction l with
  | nil => exact .nil
  | cons a l ih =>
    have h' := List.pairwise_cons.mp h
    exact (ih h'.2).cons fun b hb => h'.1 b (List.mem_of_getElem? hb)
theorem Adj.rev {l : List β} (h : Adj R l) : Adj (fun x y => R y x) l.reverse := fun i x y h1 h2 => by
  have hi := (List.getElem?_eq_some_iff.mp h2).1
  rw [List.length_reverse] at hi
  rw [List.getElem?_reverse (by omega)] at h1 h2
  refine h (l.length - 1 - (i + 1)) y x h2 ?_
  rw [show l.length - 1 - (i + 1) + 1 = l.length - 1 - i by omega]
  exact h1
end
/-! ### stretches -/
def seg {β : Type} (l : List β) (x : Nat × Nat) : List β := (l.drop x.1).take (x.2 - x.1)
theorem shAt_seg (ps : List (Int × Int)) (x : Nat × Nat) : shAt ps x = shr (seg ps x) := rfl
theorem seg_join {β : Type} (l : List β) {a b c : Nat} (h1 : a ≤ b) (h2 : b ≤ c) : seg l (a, c) = seg l (a, b) ++ seg l (b, c) := by
  unfold seg
  dsimp only
  rw [show c - a = (b - a) + (c - b) by omega, List.take_add, List.drop_drop, show a + (b - a) = b by omega]
theorem seg_map {β γ : Type} (f : β → γ) (l : List β) (x : Nat × Nat) : seg (l.map f) x = (seg l x).map f := by
  unfold seg
  rw [List.map_take, List.map_drop]
theorem seg_len {β : Type} (l : List β) {x : Nat × Nat} (h : x.2 ≤ l.length) : (seg l x).length = x.2 - x.1 := by
  unfold seg
  rw [List.length_take, List.length_drop]
  omega
theorem seg_ne {β : Type} (l : List β) {x : Nat × Nat} (h1 : x.1 < x.2) (h : x.2 ≤ l.length) : seg l x ≠ [] := fun e => by
  have := seg_len l h
  rw [e, List.length_nil] at this
  omega
theorem TPos.seg {l : List (Int × Int)} (h : TPos l) (x : Nat × Nat) : TPos (KB.seg l x) := (h.drop _).take _
/-! ### the stack -/
structure StI (ps : List (Int × Int)) (a b : Nat) (st : List (Nat × Nat)) : Prop where
  co : Cont a b st.reverse
  bl : ∀ x ∈ st, IsBlk (seg ps x)
theorem StI.col {ps : List (Int × Int)} {a b : Nat} (ht : TPos ps) (hb : b ≤ ps.length) : ∀ (n : Nat) (st : List (Nat × Nat)), StI ps a b st → StI ps a b (colps ps n st)
  | 0, st, h => h
  | n + 1, [], h => h
  | n + 1, [x], h => h
  | n + 1, y :: x :: r, h => by
    show StI ps a b (if lss (shAt ps x) (shAt ps y) = true then colps ps n ((x.1, y.2) :: r) else y :: x :: r)
    split
    · rename_i hl
      refine StI.col ht hb n _ ?_
      have hc := h.co
      rw [List.reverse_cons, List.reverse_cons] at hc
      obtain ⟨h1, h2, h3⟩ := hc.last
      obtain ⟨h4, h5, h6⟩ := h1.last
      refine ⟨?_, fun z hz => ?_⟩
      · rw [List.reverse_cons, ← h3]
        exact h4.snoc (by omega)
      · rcases List.mem_cons.mp hz with e | e
        · subst e
          rw [seg_join ps (b := x.2) (by omega) (by omega)]
          have ey : seg ps (x.2, y.2) = seg ps y := by rw [h6]
          have ex : seg ps (x.1, x.2) = seg ps x := rfl
          rw [ey, ex]
          exact (h.bl x (by simp)).join (h.bl y (by simp)) (ht.seg x) (ht.seg y) (seg_ne ps h5 (by omega)) (seg_ne ps h2 (by omega)) hl
        · exact h.bl z (by simp [e])
    · exact h
theorem colps_adj (ps : List (Int × Int)) : ∀ (n : Nat) (y : Nat × Nat) (r : List (Nat × Nat)), r.length ≤ n → Adj (fun y x => lss (shAt ps x) (shAt ps y) = false) r → Adj (fun y x => lss (shAt ps x) (shAt ps y) = false) (colps ps n (y :: r))
  | 0, y, r, hn, h => by
    have : r = [] := List.length_eq_zero_iff.mp (by omega)
    subst this
    exact .one
  | n + 1, y, [], hn, h => .one
  | n + 1, y, x :: r, hn, h => by
    show Adj _ (if lss (shAt ps x) (shAt ps y) = true then colps ps n ((x.1, y.2) :: r) else y :: x :: r)
    split
    · exact colps_adj ps n (x.1, y.2) r (by rw [List.length_cons] at hn; omega) h.tail
    · rename_i hl
      refine h.cons fun b hb => ?_
      rw [← Option.some.inj hb]
      cases e : lss (shAt ps x) (shAt ps y) with
      | true => exact absurd e hl
      | false => rfl
theorem stackN_ok {ps : List (Int × Int)} (ht : TPos ps) (a : Nat) : ∀ n, a + n ≤ ps.length → StI ps a (a + n) (stackN ps a n) ∧ Adj (fun y x => lss (shAt ps x) (shAt ps y) = false) (stackN ps a n)
  | 0, _ => ⟨⟨.nil, fun x hx => by cases hx⟩, .nil⟩
  | n + 1, h => by
    obtain ⟨h1, h2⟩ := stackN_ok ht a n (by omega)
    refine ⟨StI.col ht h _ _ ⟨?_, fun x hx => ?_⟩, colps_adj ps _ _ _ (by omega) h2⟩
    · rw [List.reverse_cons]
      exact h1.co.snoc (Nat.lt_succ_self _)
    · rcases List.mem_cons.mp hx with e | e
      · subst e
        have hl : a + n < ps.length := by omega
        unfold seg
        dsimp only
        rw [Nat.add_sub_cancel_left, List.drop_eq_getElem_cons hl]
        exact isBlk_one _
      · exact h1.bl x e
theorem blocksIn_ok {ps : List (Int × Int)} (ht : TPos ps) {r : Nat × Nat} (h1 : r.1 ≤ r.2) (h2 : r.2 ≤ ps.length) : (∀ x ∈ blocksIn ps r, IsBlk (seg ps x)) ∧ Adj (fun x y => lss (shAt ps x) (shAt ps y) = false) (blocksIn ps r) := by
  obtain ⟨a1, a2⟩ := stackN_ok ht r.1 (r.2 - r.1) (by omega)
  refine ⟨fun x hx => a1.bl x (List.mem_reverse.mp hx), ?_⟩
  exact a2.rev
/-! ### the runs -/
structure RunOk (w : List Nat) (l : List (Nat × Nat)) : Prop where
  one : ∀ x ∈ l, ∀ i, x.1 ≤ i → i < x.2 → w[i]? = w[x.1]?
  ne : Adj (fun x y => w[x.1]? ≠ w[y.1]?) l
theorem runsN_ok (w : List Nat) : ∀ n, RunOk w (runsN w n)
  | 0 => ⟨fun x hx => (by cases hx), .nil⟩
  | n + 1 => by
    have ih := runsN_ok w n
    have ic := runsN_cont w n
    show RunOk w (stepR w (runsN w n) n)
    unfold stepR
    split
    · rename_i h
      obtain ⟨ini, r, er⟩ := snoc_of (runsN_ne w n h.1)
      rw [er, List.getLast?_concat, List.dropLast_concat]
      rw [er] at ih ic
      obtain ⟨c1, c2, c3⟩ := ic.last
      have hr := ih.one r (by simp)
      refine ⟨fun x hx i h1 h2 => ?_, ?_⟩
      · rcases List.mem_append.mp hx with z | z
        · exact ih.one x (by simp [z]) i h1 h2
        · rw [List.mem_singleton.mp z] at h1 h2 ⊢
          dsimp only at h1 h2 ⊢
          by_cases e : i = n
          · rw [e, ← h.2]
            exact hr (n - 1) (by omega) (by omega)
          · exact hr i h1 (by omega)
      · intro i x y h1 h2
        by_cases hi : i + 1 < ini.length
        · rw [List.getElem?_append_left (by omega)] at h1
          rw [List.getElem?_append_left hi] at h2
          exact ih.ne i x y (by rw [List.getElem?_append_left (by omega)]; exact h1) (by rw [List.getElem?_append_left hi]; exact h2)
        · have hi2 : i + 1 = ini.length := by
            have := klt h2
            rw [List.length_append, List.length_singleton] at this
            omega
          rw [hi2, List.getElem?_append_right (Nat.le_refl _), Nat.sub_self] at h2
          have e2 : (r.1, n + 1) = y := Option.some.inj h2
          have := ih.ne i x r (by rw [List.getElem?_append_left (by omega)]; rw [List.getElem?_append_left (by omega)] at h1; exact h1) (by rw [hi2, List.getElem?_append_right (Nat.le_refl _), Nat.sub_self]; rfl)
          rw [← e2]
          exact this
    · rename_i h
      refine ⟨fun x hx i h1 h2 => ?_, ?_⟩
      · rcases List.mem_append.mp hx with z | z
        · exact ih.one x z i h1 h2
        · rw [List.mem_singleton.mp z] at h1 h2 ⊢
          dsimp only at h1 h2 ⊢
          rw [show i = n by omega]
      · refine ih.ne.append .one fun a b ha hb => ?_
        have eb : (n, n + 1) = b := Option.some.inj hb
        rw [← eb]
        dsimp only
        obtain ⟨ini, r, er⟩ := snoc_of (l := runsN w n) (fun z => by rw [z] at ha; cases ha)
        rw [er, List.getLast?_concat] at ha
        have ea : r = a := Option.some.inj ha
        subst ea
        rw [er] at ic
        obtain ⟨c1, c2, c3⟩ := ic.last
        have hr := ih.one r (by rw [er]; simp) (n - 1) (by omega) (by omega)
        intro z
        exact h ⟨by omega, by rw [hr, z]⟩
/-! ### the blocks of a weave -/
structure BksOk (ps : List (Int × Int)) (w : List Nat) (bl : List (Nat × Nat)) : Prop where
  one : ∀ x ∈ bl, ∀ i, x.1 ≤ i → i < x.2 → w[i]? = w[x.1]?
  blk : ∀ x ∈ bl, IsBlk (seg ps x)
  adj : Adj (fun x y => lss (shAt ps x) (shAt ps y) = false ∨ w[x.1]? ≠ w[y.1]?) bl
theorem bks_of {ps : List (Int × Int)} {w : List Nat} (ht : TPos ps) : ∀ {l : List (Nat × Nat)} {a b : Nat}, b ≤ ps.length → Cont a b l → RunOk w l → BksOk ps w (l.flatMap (blocksIn ps))
  | [], a, b, hb, hc, hr => ⟨fun x hx => (by cases hx), fun x hx => (by cases hx), .nil⟩
  | r :: l, a, b, hb, hc, hr => by
    cases hc with
    | @cons _ _ c _ h1 h2 =>
      have hle := h2.le
      have ih := bks_of ht hb h2 ⟨fun x hx => hr.one x (List.mem_cons_of_mem _ hx), hr.ne.tail⟩
      obtain ⟨b1, b2⟩ := blocksIn_ok ht (r := (a, c)) (Nat.le_of_lt h1) (by dsimp only; omega)
      have bc := blocksIn_cont ps (a, c) (Nat.le_of_lt h1)
      have hone := hr.one (a, c) (List.mem_cons_self ..)
      have hin : ∀ x ∈ blocksIn ps (a, c), w[x.1]? = w[a]? ∧ ∀ i, x.1 ≤ i → i < x.2 → w[i]? = w[x.1]? := fun x hx => by
        obtain ⟨m1, m2, m3⟩ := bc.mem x hx
        have e0 := hone x.1 m1 (by dsimp only at m3 ⊢; omega)
        refine ⟨e0, fun i hi1 hi2 => ?_⟩
        rw [e0]
        exact hone i (by dsimp only at m1 ⊢; omega) (by dsimp only at m3 ⊢; omega)
      rw [List.flatMap_cons]
      refine ⟨fun x hx => ?_, fun x hx => ?_, ?_⟩
      · rcases List.mem_append.mp hx with z | z
        · exact (hin x z).2
        · exact ih.one x z
      · rcases List.mem_append.mp hx with z | z
        · exact b1 x z
        · exact ih.blk x z
      · refine (b2.imp fun x y h => .inl h).append ih.adj fun x y hx hy => .inr ?_
        have hxm : x ∈ blocksIn ps (a, c) := List.mem_of_getLast? hx
        rw [(hin x hxm).1]
        cases l with
        | nil => cases hy
        | cons r2 l =>
          cases h2 with
          | @cons _ _ c2 _ h3 h4 =>
            have hne := hr.ne 0 (a, c) (c, c2) rfl rfl
            dsimp only at hne
            have bc2 := blocksIn_cont ps (c, c2) (Nat.le_of_lt h3)
            rw [List.flatMap_cons] at hy
            have hym : y ∈ blocksIn ps (c, c2) := by
              cases hbl : blocksIn ps (c, c2) with
              | nil =>
                rw [hbl] at bc2
                generalize hcc : ((c, c2) : Nat × Nat).1 = q1 at bc2
                generalize hcd : ((c, c2) : Nat × Nat).2 = q2 at bc2
                cases bc2
                dsimp only at hcc hcd
                omega
              | cons z zs =>
                rw [hbl] at hy
                have e : z = y := Option.some.inj hy
                rw [e]
                exact List.mem_cons_self ..
            obtain ⟨m1, m2, m3⟩ := bc2.mem y hym
            have := hr.one (c, c2) (by simp) y.1 m1 (by dsimp only at m3 ⊢; omega)
            rw [this]
            exact hne
theorem blocks_ok {ps : List (Int × Int)} {w : List Nat} (ht : TPos ps) (hl : w.length = ps.length) : BksOk ps w (blocks ps w) := bks_of ht (by rw [← hl]; exact Nat.le_refl _) (runsN_cont w w.length) (runsN_ok w w.length)
theorem swp_some {ps : List (Int × Int)} : ∀ {l : List (Nat × Nat)} {t : Nat × Nat × Nat}, swp ps l = some t → ∃ (i : Nat) (x y : Nat × Nat), l[i]? = some x ∧ l[i + 1]? = some y ∧ lss (shAt ps x) (shAt ps y) = true ∧ t = (x.1, y.1, y.2)
  | [], t, h => by cases h
  | [x], t, h => by cases h
  | x :: y :: r, t, h => by
    rw [swp] at h
    split at h
    · rename_i hl
      exact ⟨0, x, y, rfl, rfl, hl, (Option.some.inj h).symm⟩
    · obtain ⟨i, x', y', h1, h2, h3⟩ := swp_some h
      exact ⟨i + 1, x', y', h1, h2, h3⟩
theorem swp_none {ps : List (Int × Int)} : ∀ {l : List (Nat × Nat)}, swp ps l = none → Adj (fun x y => lss (shAt ps x) (shAt ps y) = false) l
  | [], h => .nil
  | [x], h => .one
  | x :: y :: r, h => by
    rw [swp] at h
    split at h
    · cases h
    · rename_i hl
      refine (swp_none h).cons fun b hb => ?_
      rw [← Option.some.inj hb]
      cases e : lss (shAt ps x) (shAt ps y) with
      | true => exact absurd e hl
      | false => rfl
theorem Cont.adj {a b : Nat} {l : List (Nat × Nat)} (h : Cont a b l) : Adj (fun x y => x.2 = y.1) l := by
  induction h with
  | nil => exact .nil
  | @cons a b c r h1 h2 ih =>
    refine ih.cons fun y hy => ?_
    cases h2 with
    | nil => cases hy
    | cons h3 h4 => rw [← Option.some.inj hy]
end KB
namespace KB
/-! ### the parting of a weave without a swap -/
section
variable {α : Type}
theorem Wv.stretch {k : Nat} {w' : List Nat} : ∀ (l : Nat) {ss : List (List α)} {js : List α}, Wv ss (List.replicate (l + 1) k ++ w') js → ∃ rest, ss[k]? = some (js.take (l + 1) ++ rest) ∧ Wv (ss.set k rest) w' (js.drop (l + 1))
  | 0, ss, js, h => by
    rw [List.replicate_succ, List.replicate_zero, List.cons_append, List.nil_append] at h
    cases h with
    | @cons _ _ j r _ js' h1 h2 => exact ⟨r, h1, h2⟩
  | l + 1, ss, js, h => by
    rw [List.replicate_succ, List.cons_append] at h
    cases h with
    | @cons _ _ j r _ js' h1 h2 =>
      obtain ⟨rest, h3, h4⟩ := Wv.stretch l h2
      rw [List.getElem?_set_self (klt h1)] at h3
      rw [List.set_set] at h4
      refine ⟨rest, ?_, h4⟩
      rw [h1, Option.some.inj h3]
      rfl
theorem drop_rep {w : List Nat} {a c : Nat} (hac : a ≤ c) (hc : c ≤ w.length) (h : ∀ i, a ≤ i → i < c → w[i]? = w[a]?) (hk : a < c) : w.drop a = List.replicate (c - a) (w.getD a 0) ++ w.drop c := by
  have e1 : w.drop a = (w.drop a).take (c - a) ++ w.drop c := by
    conv => lhs; rw [← List.take_append_drop (c - a) (w.drop a)]
    rw [List.drop_drop, show a + (c - a) = c by omega]
  rw [e1]
  congr 1
  apply List.ext_getElem?
  intro i
  by_cases hi : i < c - a
  · rw [List.getElem?_take_of_lt hi, List.getElem?_drop, h (a + i) (by omega) (by omega), List.getElem?_replicate, if_pos hi, List.getD_eq_getElem?_getD, List.getElem?_eq_getElem (by omega)]
    rfl
  · rw [List.getElem?_eq_none (by rw [List.length_take, List.length_drop]; omega), List.getElem?_eq_none (by rw [List.length_replicate]; omega)]
theorem pt_of {w : List Nat} {js : List α} (hwj : w.length = js.length) : ∀ {l : List (Nat × Nat)} {a : Nat} {ss : List (List α)}, Cont a w.length l → (∀ x ∈ l, ∀ i, x.1 ≤ i → i < x.2 → w[i]? = w[x.1]?) → Wv ss (w.drop a) (js.drop a) → Pt ss (l.map fun x => (w.getD x.1 0, seg js x)) := by
  intro l
  induction l with
  | nil =>
    intro a ss hc _ hw
    generalize hn : w.length = n at hc
    cases hc
    rw [List.drop_of_length_le (by omega)] at hw
    generalize js.drop a = js' at hw
    cases hw with
    | nil h => exact .nil h
  | cons x l ih =>
    intro a ss hc hx hw
    cases hc with
    | @cons _ _ c _ h1 h2 =>
      have hle := h2.le
      have hone := hx (a, c) (List.mem_cons_self ..)
      dsimp only at hone
      rw [drop_rep (Nat.le_of_lt h1) hle hone h1, show c - a = (c - a - 1) + 1 by omega] at hw
      obtain ⟨rest, h3, h4⟩ := hw.stretch
      rw [show (c - a - 1) + 1 = c - a by omega] at h3 h4
      rw [List.drop_drop, show a + (c - a) = c by omega] at h4
      exact .cons h3 (seg_ne js (x := (a, c)) h1 (by dsimp only; omega)) (ih h2 (fun y hy => hx y (List.mem_cons_of_mem _ hy)) h4)
theorem cont_flat {js : List α} : ∀ {l : List (Nat × Nat)} {a : Nat}, Cont a js.length l → (l.map (seg js)).flatten = js.drop a := by
  intro l
  induction l with
  | nil =>
    intro a hc
    generalize hn : js.length = n at hc
    cases hc
    rw [List.drop_of_length_le (by omega)]
    rfl
  | cons x l ih =>
    intro a hc
    cases hc with
    | @cons _ _ c _ h1 h2 =>
      rw [List.map_cons, List.flatten_cons, ih h2]
      unfold seg
      dsimp only
      conv => rhs; rw [← List.take_append_drop (c - a) (js.drop a), List.drop_drop, show a + (c - a) = c by omega]
theorem cont_blocks {js : List α} {b : Nat} : ∀ {l : List (Nat × Nat)} {a : Nat}, Cont a b l → blocksOf (js.drop a) (l.map fun x => x.2 - x.1) = l.map (seg js) := by
  intro l
  induction l with
  | nil => intro a _; rfl
  | cons x l ih =>
    intro a hc
    cases hc with
    | @cons _ _ c _ h1 h2 =>
      rw [List.map_cons, List.map_cons, ← ih h2]
      show (js.drop a).take (c - a) :: blocksOf ((js.drop a).drop (c - a)) _ = _
      rw [List.drop_drop, show a + (c - a) = c by omega]
      rfl
end
theorem cont_at {b : Nat} : ∀ {l : List (Nat × Nat)} {a : Nat}, Cont a b l → ∀ {i : Nat} {x : Nat × Nat}, l[i]? = some x → x.1 = a + ((l.map fun x => x.2 - x.1).take i).sum := by
  intro l
  induction l with
  | nil => intro a _ i x h; simp at h
  | cons y l ih =>
    intro a hc i x h
    cases hc with
    | @cons _ _ c _ h1 h2 =>
      cases i with
      | zero =>
        rw [← Option.some.inj h]
        rfl
      | succ i =>
        have := ih h2 (i := i) h
        rw [List.map_cons, List.take_succ_cons, List.sum_cons]
        dsimp only
        omega
theorem cont_sum {b : Nat} : ∀ {l : List (Nat × Nat)} {a : Nat}, Cont a b l → a + (l.map fun x => x.2 - x.1).sum = b := by
  intro l
  induction l with
  | nil => intro a hc; cases hc; rfl
  | cons y l ih =>
    intro a hc
    cases hc with
    | @cons _ _ c _ h1 h2 =>
      have := ih h2
      rw [List.map_cons, List.sum_cons]
      dsimp only
      omega
theorem lss_trans {a b c : Int × Int} (hb : 0 < b.2) (ha : 0 ≤ a.2) (hc : 0 ≤ c.2) (h1 : lss a b = false) (h2 : lss b c = false) : lss a c = false := by
  refine lss_of (mul_can (c := b.2) ?_ hb)
  have e1 := mul_le (lss_f h1) hc
  have e2 := mul_le (lss_f h2) ha
  grind
theorem Wv.ixlt {α : Type} {ss : List (List α)} {w : List Nat} {js : List α} (h : Wv ss w js) : ∀ k ∈ w, k < ss.length := by
  induction h with
  | nil _ => intro k hk; cases hk
  | @cons ss k j r w js h1 h2 ih =>
    intro x hx
    rcases List.mem_cons.mp hx with z | z
    · rw [z]; exact klt h1
    · have := ih x z
      rw [List.length_set] at this
      exact this
theorem tpos_of {W : List Int} {js : List Jb} (hj : ∀ j ∈ js, JOk W j) : TPos (js.map (pr W)) := fun p hp => by
  obtain ⟨j, hjm, rfl⟩ := List.mem_map.mp hp
  exact (hj j hjm).t1
theorem plok_of {w : List Nat} {n : Nat} (hn : ∀ k ∈ w, k < n) : ∀ {l : List (Nat × Nat)} {a : Nat}, Cont a w.length l → PlOk w n (l.map fun x => x.2 - x.1) a := by
  intro l
  induction l with
  | nil => intro a _; exact .nil
  | cons y l ih =>
    intro a hc
    cases hc with
    | @cons _ _ c _ h1 h2 =>
      have hle := h2.le
      have hw : w[a]? = some (w[a]'(by omega)) := List.getElem?_eq_getElem (by omega)
      refine .cons hw (hn _ (List.getElem_mem _)) ?_
      dsimp only
      rw [show a + (c - a) = c by omega]
      exact ih h2
/-- the cuts, row by row -/
theorem cutsGo_eq {w : List Nat} {js : List Jb} {n : Nat} (hwj : w.length = js.length) : ∀ {l : List (Nat × Nat)} {a : Nat} {f : List (List Nat)}, Cont a w.length l → f.length = n → (∀ k ∈ w, k < n) →
    cutsGo w (l.map fun x => x.2 - x.1) a f = (List.range n).map fun i => f.getD i [] ++ ((l.map fun x => (w.getD x.1 0, seg js x)).filter fun x => decide (x.1 = i)).map fun x => x.2.length := by
  intro l
  induction l with
  | nil =>
    intro a f _ hf _
    show f = _
    apply List.ext_getElem?
    intro i
    by_cases hi : i < n
    · rw [List.getElem?_map, List.getElem?_range hi, List.getElem?_eq_getElem (by omega)]
      simp
      rw [List.getElem?_eq_getElem (by omega)]
      rfl
    · rw [List.getElem?_eq_none (by omega), List.getElem?_eq_none (by rw [List.length_map, List.length_range]; omega)]
  | cons y l ih =>
    intro a f hc hf hn
    cases hc with
    | @cons _ _ c _ h1 h2 =>
      have hle := h2.le
      have hw : w[a]? = some (w[a]'(by omega)) := List.getElem?_eq_getElem (by omega)
      have hkn : w[a]'(by omega) < n := hn _ (List.getElem_mem _)
      have hwd : w.getD a 0 = w[a]'(by omega) := by
        rw [List.getD_eq_getElem?_getD, hw]
        rfl
      rw [List.map_cons, List.map_cons]
      dsimp only
      show cutsGo w _ (a + (c - a)) (match w[a]? with | some k => f.set k (f.getD k [] ++ [c - a]) | none => f) = _
      rw [hw, show a + (c - a) = c by omega, hwd]
      dsimp only
      generalize w[a]'(by omega) = k at *
      rw [ih h2 (by rw [List.length_set]; exact hf) hn]
      refine List.map_congr_left fun i hi => ?_
      have hi' := List.mem_range.mp hi
      rw [List.filter_cons]
      have hsl : (seg js (a, c)).length = c - a := seg_len js (x := (a, c)) (by dsimp only; omega)
      by_cases e : k = i
      · subst e
        rw [List.getD_eq_getElem?_getD, List.getElem?_set_self (by omega)]
        simp [hsl]
      · rw [List.getD_eq_getElem?_getD, List.getElem?_set_ne e, ← List.getD_eq_getElem?_getD]
        simp [e]
/-- the row of blocks of a weave without a swap -/
structure PartF (W : List Int) (ss : List (List Jb)) (wv : List Nat) (js : List Jb) (bl : List (Nat × List Jb)) : Prop where
  pt : Pt ss bl
  flat : flatB bl = js
  blk : BlOk (bl.map fun x => (x.1, x.2.map (pr W)))
  fall : Fall (bl.map fun x => (x.1, x.2.map (pr W)))
  pa : PaOk W wv js (fpart (js.map (pr W)) wv)
  pl : PlOk wv ss.length (fpart (js.map (pr W)) wv) 0
  cuts : cutsGo wv (fpart (js.map (pr W)) wv) 0 (List.replicate ss.length []) = (rwB ss.length bl).map fun r => r.map List.length
  plen : (fpart (js.map (pr W)) wv).length ≤ wv.length
theorem fall_pair {ps : List (Int × Int)} (ht : TPos ps) {l : List (Nat × Nat)} (hx : ∀ x ∈ l, x.1 < x.2 ∧ x.2 ≤ ps.length) (h : Adj (fun x y => lss (shAt ps x) (shAt ps y) = false) l) : l.Pairwise fun x y => lss (shAt ps x) (shAt ps y) = false :=
  h.pair fun x y z hxm hym hzm h1 h2 => by
    have hy := hx y hym
    exact lss_trans (b := shAt ps y) ((ht.seg y).pos (seg_ne ps hy.1 hy.2)) (ht.seg x).nn (ht.seg z).nn h1 h2
theorem len_le_sum : ∀ {ls : List Nat}, (∀ l ∈ ls, 1 ≤ l) → ls.length ≤ ls.sum
  | [], _ => Nat.le_refl 0
  | a :: r, h => by
    have := h a (List.mem_cons_self ..)
    have := len_le_sum fun l hl => h l (List.mem_cons_of_mem _ hl)
    rw [List.length_cons, List.sum_cons]
    omega
theorem part_facts {W : List Int} {ss : List (List Jb)} {wv : List Nat} {js : List Jb} (hj : ∀ j ∈ js, JOk W j) (h : Wv ss wv js) (hn : fswap (js.map (pr W)) wv = none) :
    PartF W ss wv js ((blocks (js.map (pr W)) wv).map fun x => (wv.getD x.1 0, seg js x)) := by
  have hlen := h.len
  have ht := tpos_of hj
  have hpl : (js.map (pr W)).length = wv.length := by rw [List.length_map, hlen]
  have hc := blocks_cont (js.map (pr W)) wv
  have hb := blocks_ok ht hpl.symm
  have ha := swp_none hn
  have hm : ∀ x ∈ blocks (js.map (pr W)) wv, x.1 < x.2 ∧ x.2 ≤ wv.length := fun x hx => by
    have := hc.mem x hx
    exact ⟨this.2.1, this.2.2⟩
  have hlp : fpart (js.map (pr W)) wv = (blocks (js.map (pr W)) wv).map fun x => x.2 - x.1 := rfl
  have hpair := fall_pair ht (fun x hx => by rw [hpl]; exact hm x hx) ha
  have hcj : Cont 0 js.length (blocks (js.map (pr W)) wv) := by rw [← hlen]; exact hc
  have hbo : blocksOf js (fpart (js.map (pr W)) wv) = (blocks (js.map (pr W)) wv).map (seg js) := by
    have := cont_blocks (js := js) hcj
    rw [List.drop_zero] at this
    exact this
  have hsum0 := cont_sum hc
  rw [Nat.zero_add] at hsum0
  have hsum : (fpart (js.map (pr W)) wv).sum = wv.length := hsum0
  clear hsum0
  have hpos : ∀ l ∈ fpart (js.map (pr W)) wv, 1 ≤ l := fun l hl => by
    rw [hlp] at hl
    obtain ⟨x, hx, rfl⟩ := List.mem_map.mp hl
    have := hm x hx
    omega
  generalize hbs : blocks (js.map (pr W)) wv = bs at *
  refine ⟨pt_of hlen hc hb.one h, ?_, ?_, ?_, ⟨hpos, hsum, ?_, ?_, ?_⟩, ?_, ?_, ?_⟩
  · unfold flatB
    rw [List.map_map]
    exact cont_flat hcj
  · intro x hx
    rw [List.map_map] at hx
    obtain ⟨y, hy, rfl⟩ := List.mem_map.mp hx
    dsimp only [Function.comp_apply]
    rw [← seg_map]
    exact ⟨hb.blk y hy, ht.seg y⟩
  · unfold Fall
    rw [List.map_map, List.pairwise_map]
    refine hpair.imp fun {x y} h => ?_
    dsimp only [Function.comp_apply]
    rw [← seg_map, ← seg_map]
    exact h
  · intro i l hl
    rw [hlp, List.getElem?_map] at hl
    obtain ⟨x, hx, rfl⟩ := Option.map_eq_some_iff.mp hl
    have hat := cont_at hc hx
    rw [Nat.zero_add, ← hlp] at hat
    have hxm := List.mem_of_getElem? hx
    have h12 := hm x hxm
    have hwx : wv[x.1]? = some (wv[x.1]'(by omega)) := List.getElem?_eq_getElem (by omega)
    rw [← hat]
    refine ⟨_, hwx, fun y hy => ?_⟩
    obtain ⟨i', hi'⟩ := List.mem_iff_getElem?.mp hy
    have hil := klt hi'
    rw [List.length_take, List.length_drop] at hil
    rw [List.getElem?_take_of_lt (by omega), List.getElem?_drop, hb.one x hxm (x.1 + i') (by omega) (by omega), hwx] at hi'
    exact (Option.some.inj hi').symm
  · intro b hbm
    rw [hbo] at hbm
    obtain ⟨x, hx, rfl⟩ := List.mem_map.mp hbm
    rw [← seg_map]
    exact hb.blk x hx
  · intro n x y hx hy
    unfold shares at hx hy
    rw [hbo, List.map_map, List.getElem?_map] at hx hy
    obtain ⟨u, hu, rfl⟩ := Option.map_eq_some_iff.mp hx
    obtain ⟨v, hv, rfl⟩ := Option.map_eq_some_iff.mp hy
    dsimp only [Function.comp_apply]
    rw [← seg_map, ← seg_map]
    exact ha n u v hu hv
  · rw [hlp]
    exact plok_of h.ixlt hc
  · rw [hlp, cutsGo_eq (js := js) hlen hc List.length_replicate h.ixlt]
    unfold rwB
    rw [List.map_map]
    refine List.map_congr_left fun i hi => ?_
    have e : (List.replicate ss.length ([] : List Nat)).getD i [] = [] := by
      rw [List.getD_eq_getElem?_getD, List.getElem?_replicate]
      split <;> rfl
    rw [e, List.nil_append]
    dsimp only [Function.comp_apply]
    rw [List.map_map]
    rfl
  · have h1 := len_le_sum hpos
    omega
end KB
namespace KB
/-! ### cuts of a parting; a swap's weave -/
theorem Pt.ne {α : Type} {ss : List (List α)} {bl : List (Nat × List α)} (h : Pt ss bl) : ∀ x ∈ bl, x.2 ≠ [] := by
  induction h with
  | nil _ => intro x hx; cases hx
  | cons _ h2 _ ih =>
    intro x hx
    rcases List.mem_cons.mp hx with z | z
    · rw [z]; exact h2
    · exact ih x z
theorem blocksOf_flat {α : Type} : ∀ R : List (List α), blocksOf R.flatten (R.map List.length) = R
  | [] => rfl
  | b :: R => by
    rw [List.flatten_cons, List.map_cons]
    show (b ++ R.flatten).take b.length :: blocksOf ((b ++ R.flatten).drop b.length) _ = _
    rw [List.take_left, List.drop_left, blocksOf_flat R]
theorem row_of {α : Type} {n i : Nat} {bl : List (Nat × List α)} {R : List (List α)} (h : (rwB n bl)[i]? = some R) : R = (bl.filter fun x => decide (x.1 = i)).map (·.2) := by
  have hi := klt h
  rw [rwB_len] at hi
  rw [rwB_get hi] at h
  exact (Option.some.inj h).symm
theorem falls_of {W : List Int} {ss : List (List Jb)} {wv : List Nat} {js : List Jb} {bl : List (Nat × List Jb)} (F : PartF W ss wv js bl) (hj : ∀ s ∈ ss, ∀ j ∈ s, JOk W j) (hl : ss.length ≤ 100) (hs : ∀ s ∈ ss, s.length ≤ 1000) :
    FallOk W ss ((rwB ss.length bl).map fun r => r.map List.length) := by
  have hr := F.pt.rows
  have key : ∀ (i : Nat) st ls, ss[i]? = some st → ((rwB ss.length bl).map fun r => r.map List.length)[i]? = some ls → ∃ R : List (List Jb), R = (bl.filter fun x => decide (x.1 = i)).map (·.2) ∧ st = R.flatten ∧ ls = R.map List.length := fun i st ls h1 h2 => by
    rw [List.getElem?_map] at h2
    obtain ⟨R, hR, rfl⟩ := Option.map_eq_some_iff.mp h2
    refine ⟨R, row_of hR, ?_, rfl⟩
    rw [hr, List.getElem?_map, hR] at h1
    exact (Option.some.inj h1).symm
  have hsub : ∀ {i : Nat} {b : List Jb}, b ∈ (bl.filter fun x => decide (x.1 = i)).map (·.2) → ∃ x ∈ bl, b = x.2 := fun hb => by
    obtain ⟨x, hx, rfl⟩ := List.mem_map.mp hb
    exact ⟨x, (List.mem_filter.mp hx).1, rfl⟩
  refine ⟨⟨by rw [List.length_map, rwB_len], hl, fun i st ls h1 h2 => ?_⟩, fun i st ls h1 h2 => ?_⟩
  · obtain ⟨R, eR, rfl, rfl⟩ := key i st ls h1 h2
    have hst := hs _ (List.mem_of_getElem? h1)
    have hpos : ∀ l ∈ R.map List.length, 1 ≤ l := fun l hl => by
      obtain ⟨b, hb, rfl⟩ := List.mem_map.mp hl
      rw [eR] at hb
      obtain ⟨x, hx, rfl⟩ := hsub hb
      exact List.length_pos_iff.mpr (F.pt.ne x hx)
    have hsum : (R.map List.length).sum = R.flatten.length := List.length_flatten.symm
    refine ⟨hpos, hsum, fun b hb => ?_, ?_, hst, fun j hjm => hj _ (List.mem_of_getElem? h1) j hjm⟩
    · rw [blocksOf_flat, eR] at hb
      obtain ⟨x, hx, rfl⟩ := hsub hb
      exact (F.blk _ (List.mem_map.mpr ⟨x, hx, rfl⟩)).1
    · have := len_le_sum hpos
      omega
  · obtain ⟨R, eR, rfl, rfl⟩ := key i st ls h1 h2
    have hf := F.fall
    unfold Fall at hf
    rw [List.pairwise_map] at hf
    have hp : (R.map fun b => shr (b.map (pr W))).Pairwise fun x y => lss x y = false := by
      rw [eR, List.map_map, List.pairwise_map]
      exact hf.sublist List.filter_sublist
    have := adj_of_pair hp
    intro n x y hx hy
    unfold shares at hx hy
    rw [blocksOf_flat] at hx hy
    exact this n x y hx hy
theorem flatB_map {W : List Int} (bl : List (Nat × List Jb)) : flatB (bl.map fun x => (x.1, x.2.map (pr W))) = (flatB bl).map (pr W) := by
  unfold flatB
  rw [List.map_map, List.map_flatten, List.map_map]
  rfl
theorem rwB_map {W : List Int} (n : Nat) (bl : List (Nat × List Jb)) : rwB n (bl.map fun x => (x.1, x.2.map (pr W))) = (rwB n bl).map fun r => r.map (List.map (pr W)) := by
  unfold rwB
  rw [List.map_map]
  refine List.map_congr_left fun i _ => ?_
  dsimp only [Function.comp_apply]
  rw [List.filter_map, List.map_map, List.map_map]
  rfl
theorem floor_of {W : List Int} {ss : List (List Jb)} {wv : List Nat} {js : List Jb} {bl : List (Nat × List Jb)} (F : PartF W ss wv js bl) (start : Int) : floorV W start ss ((rwB ss.length bl).map fun r => r.map List.length) = val start (js.map (pr W)) := by
  have h := (F.pt.map (pr W)).floor F.fall start
  rw [flatB_map, F.flat] at h
  rw [h]
  unfold floorV
  rw [List.map_map, List.length_map]
  congr 2
  unfold allShares shR
  rw [rwB_map]
  have hr := F.pt.rows
  apply List.ext_getElem?
  intro i
  rw [List.getElem?_zipWith, List.getElem?_map, List.getElem?_map, List.getElem?_map]
  cases hR : (rwB ss.length bl)[i]? with
  | none =>
    have : ss[i]? = none := by
      rw [hr, List.getElem?_map, hR]
      rfl
    rw [this]
    rfl
  | some R =>
    have : ss[i]? = some R.flatten := by
      rw [hr, List.getElem?_map, hR]
      rfl
    rw [this]
    show some (shares W R.flatten (R.map List.length)) = some _
    unfold shares
    rw [blocksOf_flat]
    dsimp only
    rw [List.map_map]
    rfl
theorem least_of {W : List Int} {ss : List (List Jb)} {wv : List Nat} {js : List Jb} {bl : List (Nat × List Jb)} (F : PartF W ss wv js bl) (hj : ∀ s ∈ ss, ∀ j ∈ s, JOk W j) (start : Int) {w2 : List Nat} {js2 : List Jb} (h2 : Wv ss w2 js2) : val start (js.map (pr W)) ≤ val start (js2.map (pr W)) := by
  have h := (F.pt.map (pr W)).min F.blk F.fall (fun s hs => by
    obtain ⟨t, ht, rfl⟩ := List.mem_map.mp hs
    exact tpos_of (hj t ht)) start (h2.map (pr W))
  rw [flatB_map, F.flat] at h
  exact h
/-! #### the swap -/
section
variable {α : Type}
theorem Wv.split {w : List Nat} : ∀ (A : List Nat) {ss : List (List α)} {js : List α}, Wv ss (A ++ w) js → ∃ ss', Wv ss' w (js.drop A.length) ∧ ∀ w' js', Wv ss' w' js' → Wv ss (A ++ w') (js.take A.length ++ js')
  | [], ss, js, h => ⟨ss, h, fun _ _ h => h⟩
  | k :: A, ss, js, h => by
    rw [List.cons_append] at h
    cases h with
    | @cons _ _ j r _ js' h1 h2 =>
      obtain ⟨ss', h3, h4⟩ := Wv.split A h2
      exact ⟨ss', h3, fun w' js2 h5 => .cons h1 (h4 w' js2 h5)⟩
theorem Wv.unstretch {k : Nat} {w' : List Nat} {js' rest : List α} : ∀ (X : List α) {ss : List (List α)}, ss[k]? = some (X ++ rest) → Wv (ss.set k rest) w' js' → Wv ss (List.replicate X.length k ++ w') (X ++ js')
  | [], ss, h, h2 => by
    rw [List.nil_append] at h
    rw [set_same h] at h2
    exact h2
  | x :: X, ss, h, h2 => by
    rw [List.length_cons, List.replicate_succ, List.cons_append, List.cons_append]
    refine .cons (r := X ++ rest) h (Wv.unstretch (rest := rest) X ?_ ?_)
    · rw [List.getElem?_set_self (klt h)]
    · rw [List.set_set]
      exact h2
def chgG (l : List α) (a b c : Nat) : List α := l.take a ++ (l.drop b).take (c - b) ++ (l.drop a).take (b - a) ++ l.drop c
theorem Wv.swap {ss : List (List α)} {w : List Nat} {js : List α} (h : Wv ss w js) {a b c : Nat} (h1 : a < b) (h2 : b < c) (h3 : c ≤ w.length) (ha : ∀ i, a ≤ i → i < b → w[i]? = w[a]?) (hb : ∀ i, b ≤ i → i < c → w[i]? = w[b]?) (hne : w[a]? ≠ w[b]?) : Wv ss (chgG w a b c) (chgG js a b c) := by
  have hl := h.len
  have e1 : w = w.take a ++ (List.replicate (b - a) (w.getD a 0) ++ (List.replicate (c - b) (w.getD b 0) ++ w.drop c)) := by
    rw [← drop_rep (Nat.le_of_lt h2) h3 hb h2, ← drop_rep (Nat.le_of_lt h1) (by omega) ha h1, List.take_append_drop]
  have hpq : w.getD a 0 ≠ w.getD b 0 := fun z => hne (by
    rw [List.getD_eq_getElem?_getD, List.getD_eq_getElem?_getD, List.getElem?_eq_getElem (by omega), List.getElem?_eq_getElem (by omega)] at z
    rw [List.getElem?_eq_getElem (by omega), List.getElem?_eq_getElem (by omega)]
    exact congrArg some z)
  have hta : (w.take a).length = a := by rw [List.length_take]; omega
  rw [e1] at h
  obtain ⟨ss', h4, h5⟩ := h.split
  rw [hta] at h4 h5
  rw [show b - a = (b - a - 1) + 1 by omega] at h4
  obtain ⟨r1, h6, h7⟩ := h4.stretch
  rw [show (b - a - 1) + 1 = b - a by omega] at h6 h7
  rw [List.drop_drop, show a + (b - a) = b by omega] at h7
  rw [show c - b = (c - b - 1) + 1 by omega] at h7
  obtain ⟨r2, h8, h9⟩ := h7.stretch
  rw [show (c - b - 1) + 1 = c - b by omega] at h8 h9
  rw [List.drop_drop, show b + (c - b) = c by omega] at h9
  rw [List.getElem?_set_ne hpq] at h8
  rw [set_comm2 hpq] at h9
  have h10 := Wv.unstretch ((js.drop a).take (b - a)) (ss := ss'.set (w.getD b 0) r2) (by rw [List.getElem?_set_ne hpq.symm]; exact h6) h9
  have h11 := Wv.unstretch ((js.drop b).take (c - b)) h8 h10
  have h12 := h5 _ _ h11
  rw [List.length_take, List.length_drop, List.length_take, List.length_drop, show min (c - b) (js.length - b) = c - b by omega, show min (b - a) (js.length - a) = b - a by omega] at h12
  have e2 : (w.drop b).take (c - b) = List.replicate (c - b) (w.getD b 0) := by
    rw [drop_rep (Nat.le_of_lt h2) h3 hb h2, List.take_left' List.length_replicate]
  have e3 : (w.drop a).take (b - a) = List.replicate (b - a) (w.getD a 0) := by
    rw [drop_rep (Nat.le_of_lt h1) (by omega) ha h1, List.take_left' List.length_replicate]
  unfold chgG
  rw [e2, e3, List.append_assoc, List.append_assoc, List.append_assoc, List.append_assoc]
  exact h12
theorem Wv.cnt {ss : List (List α)} {w : List Nat} {js : List α} (h : Wv ss w js) : w.length = (ss.map List.length).sum ∧ ∀ (k : Nat) s, ss[k]? = some s → (w.filter fun x => decide (x = k)).length = s.length := by
  induction h with
  | @nil ss h =>
    refine ⟨?_, fun k s hs => by rw [h s (List.mem_of_getElem? hs)]; rfl⟩
    have : ∀ {ss : List (List α)}, (∀ s ∈ ss, s = []) → (ss.map List.length).sum = 0 := fun {ss} => by
      induction ss with
      | nil => intro _; rfl
      | cons s ss ih =>
        intro h
        rw [List.map_cons, List.sum_cons, ih fun x hx => h x (List.mem_cons_of_mem _ hx), h s (List.mem_cons_self ..)]
        rfl
    rw [this h]
    rfl
  | @cons ss k j r w js h1 h2 ih =>
    obtain ⟨i1, i2⟩ := ih
    refine ⟨by rw [List.length_cons, i1]; exact sum_set1 h1, fun x s hs => ?_⟩
    rw [List.filter_cons]
    by_cases e : k = x
    · subst e
      rw [h1] at hs
      have := i2 k r (List.getElem?_set_self (klt h1))
      rw [← Option.some.inj hs]
      simp [this]
    · have := i2 x s (by rw [List.getElem?_set_ne e]; exact hs)
      simp [e, this]
end
theorem chgG_map {α β : Type} (f : α → β) (l : List α) (a b c : Nat) : chgG (l.map f) a b c = (chgG l a b c).map f := by
  unfold chgG
  simp only [List.map_append, List.map_take, List.map_drop]
theorem val_swap {ps : List (Int × Int)} {a b c : Nat} (h1 : a ≤ b) (h2 : b ≤ c) (hl : lss (shAt ps (a, b)) (shAt ps (b, c)) = true) (x : Int) : val x (chgG ps a b c) < val x ps := by
  have e : ps = ps.take a ++ ((ps.drop a).take (b - a) ++ ((ps.drop b).take (c - b) ++ ps.drop c)) := by
    conv => lhs; rw [← List.take_append_drop a ps, ← List.take_append_drop (b - a) (ps.drop a), List.drop_drop, show a + (b - a) = b by omega, ← List.take_append_drop (c - b) (ps.drop b), List.drop_drop, show b + (c - b) = c by omega]
  have hl' := lss_t hl
  unfold shAt at hl'
  dsimp only at hl'
  rw [shr_eq, shr_eq] at hl'
  conv => rhs; rw [e]
  unfold chgG
  generalize ps.take a = A at *
  generalize (ps.drop a).take (b - a) = X at *
  generalize (ps.drop b).take (c - b) = Y at *
  generalize ps.drop c = C at *
  clear e hl
  dsimp only at hl'
  rw [List.append_assoc, List.append_assoc, val_app, val_app, val_app, val_app x A, val_app _ X, val_app _ Y C]
  generalize x + tS A = y
  rw [val_shift y (tS Y) X, val_shift y (tS X) Y, show y + tS Y + tS X = y + tS X + tS Y by omega, Int.mul_comm (tS Y), Int.mul_comm (tS X)]
  omega
structure SwapF (W : List Int) (ss : List (List Jb)) (wv : List Nat) (js : List Jb) (x : Nat × Nat × Nat) : Prop where
  sw : SwOk W wv js x
  wv : ∃ js2, Wv ss (chg wv x) js2 ∧ (∀ j ∈ js2, j ∈ js) ∧ ∀ start : Int, val start (js2.map (pr W)) < val start (js.map (pr W))
theorem swap_facts {W : List Int} {ss : List (List Jb)} {wv : List Nat} {js : List Jb} (hj : ∀ j ∈ js, JOk W j) (h : Wv ss wv js) {t : Nat × Nat × Nat} (hn : fswap (js.map (pr W)) wv = some t) : SwapF W ss wv js t := by
  have hlen := h.len
  have ht := tpos_of hj
  have hpl : (js.map (pr W)).length = wv.length := by rw [List.length_map, hlen]
  have hc := blocks_cont (js.map (pr W)) wv
  have hb := blocks_ok ht hpl.symm
  obtain ⟨i, x, y, hx, hy, hl, rfl⟩ := swp_some hn
  have hxm := List.mem_of_getElem? hx
  have hym := List.mem_of_getElem? hy
  have h1 := hc.mem x hxm
  have h2 := hc.mem y hym
  have h3 := hc.adj i x y hx hy
  have hne : wv[x.1]? ≠ wv[y.1]? := by
    rcases hb.adj i x y hx hy with z | z
    · rw [hl] at z; cases z
    · exact z
  have hox := hb.one x hxm
  have hoy := hb.one y hym
  obtain ⟨x1, x2⟩ := x
  obtain ⟨y1, y2⟩ := y
  dsimp only at h1 h2 h3 hne hox hoy ⊢
  subst h3
  have hsw := h.swap h1.2.1 h2.2.1 h2.2.2 hox hoy hne
  refine ⟨⟨h1.2.1, h2.2.1, h2.2.2, fun a ha hab => ?_, hl⟩, _, hsw, fun j hjm => ?_, fun start => ?_⟩
  · dsimp only at ha hab
    obtain ⟨p, hp⟩ := List.mem_iff_getElem?.mp ha
    obtain ⟨q, hq⟩ := List.mem_iff_getElem?.mp hab
    have hpl' := klt hp
    have hql' := klt hq
    rw [List.length_take, List.length_drop] at hpl' hql'
    rw [List.getElem?_take_of_lt (by omega), List.getElem?_drop, hox _ (by omega) (by omega)] at hp
    rw [List.getElem?_take_of_lt (by omega), List.getElem?_drop, hoy _ (by omega) (by omega)] at hq
    exact hne (by rw [hp, hq])
  · unfold chgG at hjm
    simp only [List.mem_append] at hjm
    rcases hjm with ((z | z) | z) | z
    · exact List.mem_of_mem_take z
    · exact List.mem_of_mem_drop (List.mem_of_mem_take z)
    · exact List.mem_of_mem_drop (List.mem_of_mem_take z)
    · exact List.mem_of_mem_drop z
  · rw [← chgG_map]
    exact val_swap (Nat.le_of_lt h1.2.1) (Nat.le_of_lt h2.2.1) hl start
end KB
namespace KB
/-! ### the table holds the least values -/
inductive Wq {α : Type} (ss : List (List α)) : List Nat → List Nat → List α → Prop
  | nil : Wq ss (List.replicate ss.length 0) [] []
  | snoc {at_ w : List Nat} {js : List α} {k m : Nat} {s : List α} {j : α} : Wq ss at_ w js → ss[k]? = some s → at_[k]? = some m → s[m]? = some j → Wq ss (at_.set k (m + 1)) (w ++ [k]) (js ++ [j])
theorem dropE_get {α : Type} {ss : List (List α)} {pl : List Nat} {k m : Nat} {s : List α} (h1 : ss[k]? = some s) (h2 : pl[k]? = some m) : (dropE ss pl)[k]? = some (s.drop m) := by
  unfold dropE
  rw [List.getElem?_zipWith, h1, h2]
theorem Wq.wp {α : Type} {ss : List (List α)} {at_ w : List Nat} {js : List α} (h : Wq ss at_ w js) : Wp ss w js (dropE ss at_) ∧ at_.length = ss.length := by
  induction h with
  | nil =>
    rw [dropE_zero]
    exact ⟨.nil, List.length_replicate⟩
  | @snoc at_ w js k m s j _ h1 h2 h3 ih =>
    have e : (dropE ss at_)[k]? = some (j :: s.drop (m + 1)) := by rw [dropE_get h1 h2, drop_get h3]
    obtain ⟨s', n, g1, g2, g3, g4⟩ := dropE_at e
    rw [h2] at g2
    have en := Option.some.inj g2
    subst en
    rw [g4]
    exact ⟨ih.1.snoc e, by rw [List.length_set]; exact ih.2⟩
theorem Wq.inB {ss : List (List Jb)} {at_ w : List Nat} {js : List Jb} (h : Wq ss at_ w js) : InB ss at_ := by
  induction h with
  | nil => exact InB.zero ss
  | @snoc at_ w js k m s j _ h1 h2 h3 ih => exact ih.set h1 (by have := klt h3; omega)
theorem dropE_lens {α : Type} : ∀ ss : List (List α), ∀ s ∈ dropE ss (ss.map List.length), s = []
  | [], s, h => by cases h
  | a :: r, s, h => by
    have h' : s ∈ a.drop a.length :: dropE r (r.map List.length) := h
    rcases List.mem_cons.mp h' with z | z
    · rw [z, List.drop_length]
    · exact dropE_lens r s z
theorem Wq.wv {α : Type} {ss : List (List α)} {w : List Nat} {js : List α} (h : Wq ss (ss.map List.length) w js) : Wv ss w js := h.wp.1.wv (dropE_lens ss)
theorem Wq.more {α : Type} {ss : List (List α)} {w2 : List Nat} : ∀ {js2 : List α} {at_ w1 : List Nat} {js1 : List α}, Wq ss at_ w1 js1 → Wv (dropE ss at_) w2 js2 → ∃ at2, Wq ss at2 (w1 ++ w2) (js1 ++ js2) ∧ ∀ s ∈ dropE ss at2, s = [] := by
  induction w2 with
  | nil =>
    intro js2 at_ w1 js1 h1 h2
    cases h2 with
    | nil h => exact ⟨at_, by rw [List.append_nil, List.append_nil]; exact h1, h⟩
  | cons k w2 ih =>
    intro js2 at_ w1 js1 h1 h2
    cases h2 with
    | @cons _ _ j r _ js' h3 h4 =>
      obtain ⟨s, n, g1, g2, g3, g4⟩ := dropE_at h3
      rw [← g4] at h4
      obtain ⟨at2, h5, h6⟩ := ih (h1.snoc g1 g2 g3) h4
      refine ⟨at2, ?_, h6⟩
      rw [List.append_assoc, List.append_assoc] at h5
      exact h5
theorem inB_full {ss : List (List Jb)} {at_ : List Nat} (h : InB ss at_) (he : ∀ s ∈ dropE ss at_, s = []) : at_ = lens ss := by
  induction h with
  | nil => rfl
  | @cons s ss m ms h1 h2 ih =>
    have e0 : s.drop m = [] := he _ (List.mem_cons_self ..)
    have e1 := List.drop_eq_nil_iff.mp e0
    rw [ih fun x hx => he x (List.mem_cons_of_mem _ hx)]
    show m :: lens ss = s.length :: lens ss
    rw [show m = s.length by omega]
theorem Wv.wq {ss : List (List Jb)} {w : List Nat} {js : List Jb} (h : Wv ss w js) : Wq ss (lens ss) w js := by
  obtain ⟨at2, h1, h2⟩ := Wq.more (ss := ss) .nil (by rw [dropE_zero]; exact h)
  rw [← inB_full h1.inB h2]
  exact h1
theorem hrs_zero : ∀ ss : List (List Jb), hrs ss (List.replicate ss.length 0) = 0
  | [] => rfl
  | s :: r => by
    have ih := hrs_zero r
    show ((s.take 0).map tm).sum + hrs r (List.replicate r.length 0) = 0
    rw [ih]
    rfl
theorem hrs_set {ss : List (List Jb)} : ∀ {ms : List Nat} {k m : Nat} {s : List Jb} {j : Jb}, ss[k]? = some s → ms[k]? = some m → s[m]? = some j → hrs ss (ms.set k (m + 1)) = hrs ss ms + tm j := by
  induction ss with
  | nil => intro ms k m s j h; simp at h
  | cons a ss ih =>
    intro ms k m s j h1 h2 h3
    cases ms with
    | nil => simp at h2
    | cons b ms =>
      cases k with
      | zero =>
        have e1 : a = s := Option.some.inj h1
        have e2 : b = m := Option.some.inj h2
        subst e1 e2
        show ((a.take (b + 1)).map tm).sum + hrs ss ms = ((a.take b).map tm).sum + hrs ss ms + tm j
        rw [take_succ_get h3, List.map_append, List.sum_append]
        simp
        omega
      | succ k =>
        have := ih (ms := ms) (k := k) h1 h2 h3
        show ((a.take b).map tm).sum + hrs ss (ms.set k (m + 1)) = ((a.take b).map tm).sum + hrs ss ms + tm j
        omega
theorem Wq.hour {ss : List (List Jb)} {at_ w : List Nat} {js : List Jb} (h : Wq ss at_ w js) : hrs ss at_ = (js.map tm).sum := by
  induction h with
  | nil => exact hrs_zero ss
  | @snoc at_ w js k m s j _ h1 h2 h3 ih =>
    rw [hrs_set h1 h2 h3, ih, List.map_append, List.sum_append]
    simp
theorem tS_pr (W : List Int) (js : List Jb) : tS (js.map (pr W)) = (js.map tm).sum := by
  unfold tS
  rw [List.map_map]
  rfl
theorem val_snoc (W : List Int) (start : Int) (js : List Jb) (j : Jb) : val start ((js ++ [j]).map (pr W)) = val start (js.map (pr W)) + wt W j * (start + (js.map tm).sum + tm j) := by
  rw [List.map_append, val_app, tS_pr]
  show _ + (wt W j * (start + (js.map tm).sum + tm j) + 0) = _
  omega
section
variable {W : List Int} {ss : List (List Jb)} {start : Int}
def Snd (W : List Int) (ss : List (List Jb)) (start : Int) (t : Nat) (tb : Tbl) : Prop := ∀ key v, getT tb key = some v → ∃ w js, Wq ss key w js ∧ js.length = t ∧ val start (js.map (pr W)) = v
def Cmp (W : List Int) (ss : List (List Jb)) (start : Int) (t : Nat) (tb : Tbl) : Prop := ∀ key w js, Wq ss key w js → js.length = t → ∃ v, getT tb key = some v ∧ v ≤ val start (js.map (pr W))
def LeT (tb tb' : Tbl) : Prop := ∀ key v, getT tb key = some v → ∃ v', getT tb' key = some v' ∧ v' ≤ v
theorem LeT.refl (tb : Tbl) : LeT tb tb := fun key v h => ⟨v, h, Int.le_refl v⟩
theorem LeT.trans {a b c : Tbl} (h1 : LeT a b) (h2 : LeT b c) : LeT a c := fun key v h => by
  obtain ⟨v1, e1, l1⟩ := h1 key v h
  obtain ⟨v2, e2, l2⟩ := h2 key v1 e1
  exact ⟨v2, e2, by omega⟩
theorem LeT.put {tb : Tbl} {k : List Nat} {num : Int} : LeT tb (putT tb k (min ((getT tb k).getD num) num)) := fun key v h => by
  rw [getT_put]
  by_cases e : k = key
  · subst e
    rw [if_pos rfl, h]
    exact ⟨_, rfl, by show min v num ≤ v; omega⟩
  · rw [if_neg e]
    exact ⟨v, h, Int.le_refl v⟩
theorem LeT.step {fv hr : Int} {at_ : List Nat} (n : Nat) (tb : Tbl) : LeT tb (stepLe W ss fv hr at_ n tb) := by
  unfold stepLe
  split
  · split
    · exact LeT.put
    · exact .refl tb
  · exact .refl tb
theorem LeT.row {fv hr : Int} {at_ : List Nat} {tb : Tbl} : ∀ (n d : Nat), LeT (rowLe W ss fv hr at_ tb n) (rowLe W ss fv hr at_ tb (n + d))
  | n, 0 => .refl _
  | n, d + 1 => (LeT.row n d).trans (LeT.step (n + d) _)
theorem LeT.turn {found : Tbl} : ∀ (i d : Nat), LeT (turnLe W ss start found i) (turnLe W ss start found (i + d))
  | i, 0 => .refl _
  | i, d + 1 => (LeT.turn i d).trans (by
    show LeT _ (match found[i + d]? with | some p => rowLe W ss p.2 (start + hrs ss p.1) p.1 (turnLe W ss start found (i + d)) ss.length | none => turnLe W ss start found (i + d))
    split
    · rename_i p _
      have := LeT.row (W := W) (ss := ss) (fv := p.2) (hr := start + hrs ss p.1) (at_ := p.1) (tb := turnLe W ss start found (i + d)) 0 ss.length
      rw [Nat.zero_add] at this
      exact this
    · exact .refl _)
theorem Snd.step {t : Nat} {fv hr : Int} {at_ w : List Nat} {js : List Jb} (hq : Wq ss at_ w js) (hl : js.length = t) (hf : val start (js.map (pr W)) = fv) (hh : hr = start + (js.map tm).sum) {tb : Tbl} (h : Snd W ss start (t + 1) tb) (n : Nat) : Snd W ss start (t + 1) (stepLe W ss fv hr at_ n tb) := by
  unfold stepLe
  split
  · rename_i s m h1 h2
    split
    · rename_i j h3
      intro key v hv
      rw [getT_put] at hv
      by_cases e : at_.set n (m + 1) = key
      · rw [if_pos e] at hv
        have ev := Option.some.inj hv
        have hnum : val start ((js ++ [j]).map (pr W)) = fv + wt W j * (hr + tm j) := by rw [val_snoc, hf, hh]
        have hsn : ∃ w js, Wq ss key w js ∧ js.length = t + 1 ∧ val start (js.map (pr W)) = fv + wt W j * (hr + tm j) := ⟨_, _, e ▸ hq.snoc h1 h2 h3, by rw [List.length_append, hl, List.length_singleton], hnum⟩
        cases hg : getT tb (at_.set n (m + 1)) with
        | none =>
          rw [hg] at ev
          have e2 : v = fv + wt W j * (hr + tm j) := by rw [← ev]; exact Int.min_self _
          rw [e2]
          exact hsn
        | some v0 =>
          rw [hg] at ev
          have e2 : v = v0 ∨ v = fv + wt W j * (hr + tm j) := by
            have : min v0 (fv + wt W j * (hr + tm j)) = v := ev
            omega
          rcases e2 with e2 | e2
          · rw [e] at hg
            rw [e2]
            exact h key v0 hg
          · rw [e2]
            exact hsn
      · rw [if_neg e] at hv
        exact h key v hv
    · exact h
  · exact h
theorem Snd.row {t : Nat} {fv hr : Int} {at_ w : List Nat} {js : List Jb} (hq : Wq ss at_ w js) (hl : js.length = t) (hf : val start (js.map (pr W)) = fv) (hh : hr = start + (js.map tm).sum) {tb : Tbl} (h : Snd W ss start (t + 1) tb) : ∀ n : Nat, Snd W ss start (t + 1) (rowLe W ss fv hr at_ tb n)
  | 0 => h
  | n + 1 => (Snd.row hq hl hf hh h n).step hq hl hf hh n
theorem Snd.turn {t : Nat} {found : Tbl} (hk : TOk ss found) (h : Snd W ss start t found) : ∀ i : Nat, Snd W ss start (t + 1) (turnLe W ss start found i)
  | 0 => fun key v hv => by cases hv
  | i + 1 => by
    rw [turnLe]
    split
    · rename_i p hp
      obtain ⟨w, js, hq, hl, hf⟩ := h p.1 p.2 (getT_mem hk.nd (List.mem_of_getElem? hp))
      exact (Snd.turn hk h i).row hq hl hf (by rw [hq.hour]) _
    · exact Snd.turn hk h i
theorem getT_ix {k : List Nat} {v : Int} : ∀ {tb : Tbl}, getT tb k = some v → ∃ i : Nat, tb[i]? = some (k, v)
  | [], h => by cases h
  | p :: r, h => by
    rw [getT] at h
    by_cases e : p.1 = k
    · rw [if_pos e] at h
      refine ⟨0, ?_⟩
      rw [← Option.some.inj h, ← e]
      rfl
    · rw [if_neg e] at h
      obtain ⟨i, hi⟩ := getT_ix h
      exact ⟨i + 1, hi⟩
theorem Cmp.turn {t : Nat} {found : Tbl} (h : Cmp W ss start t found) : Cmp W ss start (t + 1) (turnLe W ss start found found.length) := by
  intro key w' js' hq hl
  cases hq with
  | nil => cases hl
  | @snoc at_ w js k m s j hq h1 h2 h3 =>
    have hl' : js.length = t := by
      rw [List.length_append, List.length_singleton] at hl
      omega
    obtain ⟨fv, e1, l1⟩ := h at_ w js hq hl'
    obtain ⟨i, hi⟩ := getT_ix e1
    have hil := klt hi
    have hks := klt h1
    have e2 : turnLe W ss start found (i + 1) = rowLe W ss fv (start + hrs ss at_) at_ (turnLe W ss start found i) ss.length := by rw [turnLe, hi]
    have hm1 := LeT.turn (W := W) (ss := ss) (start := start) (found := found) (i + 1) (found.length - (i + 1))
    rw [show i + 1 + (found.length - (i + 1)) = found.length by omega, e2] at hm1
    have hm2 := LeT.row (W := W) (ss := ss) (fv := fv) (hr := start + hrs ss at_) (at_ := at_) (tb := turnLe W ss start found i) (k + 1) (ss.length - (k + 1))
    rw [show k + 1 + (ss.length - (k + 1)) = ss.length by omega] at hm2
    have e3 : rowLe W ss fv (start + hrs ss at_) at_ (turnLe W ss start found i) (k + 1) = stepLe W ss fv (start + hrs ss at_) at_ k (rowLe W ss fv (start + hrs ss at_) at_ (turnLe W ss start found i) k) := rfl
    rw [e3] at hm2
    generalize rowLe W ss fv (start + hrs ss at_) at_ (turnLe W ss start found i) k = tb at *
    have e4 : stepLe W ss fv (start + hrs ss at_) at_ k tb = putT tb (at_.set k (m + 1)) (min ((getT tb (at_.set k (m + 1))).getD (fv + wt W j * (start + hrs ss at_ + tm j))) (fv + wt W j * (start + hrs ss at_ + tm j))) := by
      unfold stepLe
      rw [h1, h2]
      dsimp only
      rw [h3]
    rw [e4] at hm2
    obtain ⟨v1, e5, l5⟩ := (hm2.trans hm1) (at_.set k (m + 1)) _ (by rw [getT_put, if_pos rfl])
    refine ⟨v1, e5, ?_⟩
    rw [val_snoc, ← hq.hour]
    omega
theorem least_inv (W : List Int) (ss : List (List Jb)) (start : Int) : ∀ t, Snd W ss start t (leastN W ss start t) ∧ Cmp W ss start t (leastN W ss start t)
  | 0 => by
    constructor
    · intro key v hv
      have hv' : (if List.replicate ss.length 0 = key then some (0 : Int) else none) = some v := hv
      by_cases e : List.replicate ss.length 0 = key
      · rw [if_pos e] at hv'
        rw [← e, ← Option.some.inj hv']
        exact ⟨[], [], .nil, rfl, rfl⟩
      · rw [if_neg e] at hv'
        cases hv'
    · intro key w js hq hl
      cases hq with
      | nil =>
        refine ⟨0, ?_, Int.le_refl 0⟩
        show (if List.replicate ss.length 0 = List.replicate ss.length 0 then some (0 : Int) else none) = some 0
        rw [if_pos rfl]
      | snoc _ _ _ _ =>
        rw [List.length_append, List.length_singleton] at hl
        omega
  | t + 1 => by
    obtain ⟨h1, h2⟩ := least_inv W ss start t
    exact ⟨Snd.turn (leastN_ok W ss start t) h1 _, h2.turn⟩
/-- the least value of all weaves -/
theorem least_facts (W : List Int) (start : Int) (hw : ∃ w js, Wv ss w js) : ∃ v, getT (leastN W ss start (lens ss).sum) (lens ss) = some v ∧ (∃ w js, Wv ss w js ∧ val start (js.map (pr W)) = v) ∧ ∀ w js, Wv ss w js → v ≤ val start (js.map (pr W)) := by
  obtain ⟨h1, h2⟩ := least_inv W ss start (lens ss).sum
  have hlen : ∀ {w js}, Wv ss w js → js.length = (lens ss).sum := fun h => by rw [← h.len, h.cnt.1]; rfl
  obtain ⟨w, js, h⟩ := hw
  obtain ⟨v, e, _⟩ := h2 _ w js h.wq (hlen h)
  refine ⟨v, e, ?_, fun w' js' h' => ?_⟩
  · obtain ⟨w1, js1, hq, _, hv⟩ := h1 _ v e
    exact ⟨w1, js1, hq.wv, hv⟩
  · obtain ⟨v', e', l'⟩ := h2 _ w' js' h'.wq (hlen h')
    rw [e] at e'
    rw [Option.some.inj e']
    exact l'
end
/-! ### the greedy weave is a weave -/
theorem Wp.rep {α : Type} {ss ss' : List (List α)} {w : List Nat} {js : List α} (h : Wp ss w js ss') {k : Nat} {st : List α} (hk : ss'[k]? = some st) : ∀ l : Nat, l ≤ st.length → ∃ js2, Wp ss (w ++ List.replicate l k) js2 (ss'.set k (st.drop l))
  | 0, _ => ⟨js, by rw [List.replicate_zero, List.append_nil, List.drop_zero, set_same hk]; exact h⟩
  | l + 1, hl => by
    obtain ⟨js2, h2⟩ := Wp.rep h hk l (by omega)
    have hj : st[l]? = some (st[l]'(by omega)) := List.getElem?_eq_getElem (by omega)
    have := h2.snoc (k := k) (j := st[l]'(by omega)) (r := st.drop (l + 1)) (by rw [List.getElem?_set_self (klt hk), drop_get hj])
    refine ⟨js2 ++ [st[l]'(by omega)], ?_⟩
    rw [List.set_set, List.append_assoc, ← List.replicate_succ'] at this
    exact this
theorem woven_wv {W : List Int} {ss : List (List Jb)} {cs : List (List Nat)} (h : WvIn W ss cs) : ∃ js, Wv ss (wovenW W ss cs) js := by
  have key : ∀ n, n ≤ (cs.map List.length).sum → ∃ js ss', Wp ss (wvN (parts0 W ss cs) n).2 js ss' ∧ ∀ (k : Nat) r, (wvN (parts0 W ss cs) n).1[k]? = some r → ∃ st, ss'[k]? = some st ∧ (r.map (·.2.2)).sum = st.length := fun n => by
    induction n with
    | zero =>
      intro _
      refine ⟨[], ss, .nil, fun k r hk => ?_⟩
      have hk' : (List.zipWith (fun st ls => (blocksOf st ls).map (bl3 W)) ss cs)[k]? = some r := hk
      rw [List.getElem?_zipWith] at hk'
      cases h1 : ss[k]? with
      | none => rw [h1] at hk'; cases hk'
      | some st =>
        cases h2 : cs[k]? with
        | none => rw [h1, h2] at hk'; cases hk'
        | some ls =>
          rw [h1, h2] at hk'
          refine ⟨st, rfl, ?_⟩
          rw [← Option.some.inj hk', List.map_map]
          have ha := (h.at_ k st ls h1 h2).1
          have := blocksOf_sum st ls (by omega)
          rw [← ha, ← this]
          rfl
    | succ n ih =>
      intro hn
      obtain ⟨js, ss', h1, h2⟩ := ih (by omega)
      have hst := h.nth n (by omega)
      rw [show (cs.map List.length).sum - n = ((cs.map List.length).sum - (n + 1)) + 1 by omega] at hst
      obtain ⟨b, x, r, hb, hbx, hstep, _⟩ := hst.best
      obtain ⟨st, h3, h4⟩ := h2 b _ hbx
      rw [List.map_cons, List.sum_cons] at h4
      obtain ⟨js2, h5⟩ := h1.rep h3 x.2.2 (by omega)
      have e : wvN (parts0 W ss cs) (n + 1) = wvStep (wvN (parts0 W ss cs) n) := rfl
      rw [e, hstep]
      refine ⟨js2, _, h5, fun k r' hk => ?_⟩
      dsimp only at hk
      by_cases e2 : b = k
      · subst e2
        rw [List.getElem?_set_self (klt hbx)] at hk
        rw [← Option.some.inj hk]
        refine ⟨_, List.getElem?_set_self (klt h3), ?_⟩
        rw [List.length_drop]
        omega
      · rw [List.getElem?_set_ne e2] at hk
        obtain ⟨st', g1, g2⟩ := h2 k r' hk
        exact ⟨st', by rw [List.getElem?_set_ne e2]; exact g1, g2⟩
  obtain ⟨js, ss', h1, h2⟩ := key _ (Nat.le_refl _)
  have hst := h.nth _ (Nat.le_refl _)
  rw [Nat.sub_self] at hst
  refine ⟨js, h1.wv fun s hs => ?_⟩
  obtain ⟨k, hk⟩ := List.mem_iff_getElem?.mp hs
  have hl := hst.len
  have hl2 := h1.len
  have hkl := klt hk
  obtain ⟨r, hr⟩ : ∃ r, (wvN (parts0 W ss cs) (cs.map List.length).sum).1[k]? = some r := ⟨_, List.getElem?_eq_getElem (by omega)⟩
  have hc := hst.cnt
  have hr0 : r = [] := by
    have hm : r.length ∈ (wvN (parts0 W ss cs) (cs.map List.length).sum).1.map List.length := List.mem_map.mpr ⟨r, List.mem_of_getElem? hr, rfl⟩
    have := le_sum_of_mem hm
    unfold cnt at hc
    exact List.length_eq_zero_iff.mp (by omega)
  obtain ⟨st, g1, g2⟩ := h2 k r hr
  rw [hk] at g1
  rw [Option.some.inj g1]
  rw [hr0] at g2
  exact List.length_eq_zero_iff.mp g2.symm
theorem fallCut_in {W : List Int} {ss : List (List Jb)} (hW : WOk W) (hl : ss.length ≤ 100) (hj : ∀ s ∈ ss, ∀ j ∈ s, JOk W j) (hs : (lens ss).sum ≤ 1000) : WvIn W ss (ss.map fun st => fallCut (st.map (pr W))) := by
  refine ⟨hW, List.length_map .., hl, hj, hs, fun i st ls h1 h2 => ?_⟩
  rw [List.getElem?_map, h1] at h2
  rw [← Option.some.inj h2]
  have hps : ∀ p ∈ st.map (pr W), 0 ≤ p.1 ∧ p.1 ≤ 9 := fun p hp => by
    obtain ⟨j, hjm, rfl⟩ := List.mem_map.mp hp
    exact (hj st (List.mem_of_getElem? h1) j hjm).wb hW
  have hf := fcN_ok hps (st.map (pr W)).length (Nat.le_refl _)
  have h3 := hf.s
  have h4 := hf.len
  unfold fallCut
  dsimp only
  rw [List.map_reverse, List.sum_reverse, List.length_reverse, List.length_map]
  rw [List.length_map] at h3 h4
  rw [List.length_map]
  exact ⟨h3, h4⟩
end KB
namespace KB
open PySem PySem.Spec PyProof.Rows L2
local macro_rules | `(tactic| walk_at "at") => `(tactic| first | assumption | (exact atI_nat (j := 0) rfl) | (exact atI_nat (j := 1) rfl) | (exact atI_nat (j := 2) rfl) | (exact atI_nat (by assumption)) | (exact atI_map _ (by assumption)) | (exact atI_of (by assumption) (by omega)))
local macro_rules | `(tactic| walk_at "side") => `(tactic| first | assumption | decide | omega | (simp; done))
local macro_rules | `(tactic| walk_at "rd") => `(tactic| first
  | exact rd_addI | exact rd_i0 | exact rd_b0 | exact rd_eq | exact rd_ne | exact rd_neB
  | (refine' rd_xT ?ka; (case ka => walk_at "at")) | (refine' rd_xL ?ka; (case ka => walk_at "at")) | (refine' rd_xM ?kb ?ka; (case kb => simp; done); (case ka => walk_at "at"))
  | (refine' rd_mulI ?ka; (case ka => walk_at "side"))
  | (refine' rd_addT ?ka; (case ka => walk_at "side"))
  | (refine' rd_i ?ka; (case ka => walk_at "side"))
  | exact rd_isN | (exact rd_isN0 (by intro z; cases z)) | exact rd_notN | (exact rd_notN1 (by intro z; cases z)) | exact rd_inB | exact rd_inT)
local macro_rules | `(tactic| walk_at "rc") => `(tactic| first | exact rc_lenT | exact rc_lenL | (refine' rc_lenM ?ka; (case ka => simp; done)) | exact rc_sumXL | exact rc_sumXT | (refine' rc_sumXM ?ka; (case ka => simp; done)) | exact rc_tupL | (refine' rc_tupM ?ka; (case ka => simp; done)) | exact rc_int | exact rc_min2 | (exact rc_isi (by decide) (by decide +kernel)) | (exact rc_isiT (by decide) (by decide +kernel) (by decide +kernel)))
local macro_rules | `(tactic| walk_at "eo") => `(tactic| first | exact eo_none | (refine' eo_some ?ka; (case ka => walk_at "ev")))
local macro_rules | `(tactic| walk_at "ea") => `(tactic| first | exact ea_nil | (refine' ea_cons ?ka ?kb; (case ka => walk_at "ev"); (case kb => walk_at "ea")))
local macro_rules | `(tactic| walk_at "en") => `(tactic| first
  | (refine' en_lst ?ka ?kb; (case ka => walk_at "ea"); (case kb => walk_at "side"))
  | (refine' en_sliceL ?ka ?kb ?kc; (case ka => walk_at "ev"); (case kb => walk_at "eo"); (case kc => walk_at "eo"))
  | (refine' en_op ?ka ?kb ?kc; (case ka => walk_at "ev"); (case kb => walk_at "ev"); (case kc => first | (refine' rn_addL ?kd; (case kd => walk_at "side")) | (refine' rn_mulL ?kd ?ke ?kf; (case kd => walk_at "side"); (case ke => walk_at "side"); (case kf => walk_at "side")))))
local macro_rules | `(tactic| walk_at "ev") => `(tactic| first
  | exact ev_var rfl | exact ev_int | exact ev_bl | exact ev_non | exact ev_str | exact ev_ty | assumption
  | (refine' ev_op ?ka ?kb ?kc; (case ka => walk_at "ev"); (case kb => walk_at "ev"); (case kc => walk_at "rd"))
  | (refine' ev_un ?ka; (case ka => walk_at "ev"))
  | (refine' ev_tup ?ka ?kb; (case ka => walk_at "ea"); (case kb => walk_at "side"))
  | (refine' ev_cb ?ka ?kb; (case ka => walk_at "ea"); (case kb => walk_at "rc"))
  | (refine' ev_sliceT ?ka ?kb ?kc; (case ka => walk_at "ev"); (case kb => walk_at "eo"); (case kc => walk_at "eo"))
  | (refine' ev_notV ?ka; (case ka => walk_at "ev"))
  | (refine' EvN.toD ?ka; (case ka => walk_at "en")))
local macro_rules | `(tactic| walk_at "n") => `(tactic| first | dsimp only [List.set_cons_zero, List.set_cons_succ, List.map_cons, List.map_nil, List.cons_append, List.nil_append, List.length_cons, List.length_nil, Nat.add_sub_cancel, List.replicate] | skip)
theorem boxN_le {m : Nat} : ∀ {ss : List (List Jb)}, (∀ s ∈ ss, s.length ≤ m) → boxN ss ≤ (m + 1) ^ ss.length
  | [], _ => Nat.le_refl 1
  | s :: r, h => by
    have h1 := h s (List.mem_cons_self ..)
    have h2 := boxN_le (ss := r) fun x hx => h x (List.mem_cons_of_mem _ hx)
    show (s.length + 1) * boxN r ≤ (m + 1) ^ (r.length + 1)
    rw [Nat.pow_succ, Nat.mul_comm]
    exact Nat.mul_le_mul h2 (by omega)
theorem lens_le {m : Nat} : ∀ {ss : List (List Jb)}, (∀ s ∈ ss, s.length ≤ m) → (lens ss).sum ≤ ss.length * m
  | [], _ => Nat.zero_le _
  | s :: r, h => by
    have h1 := h s (List.mem_cons_self ..)
    have h2 := lens_le (ss := r) fun x hx => h x (List.mem_cons_of_mem _ hx)
    show s.length + (lens r).sum ≤ (r.length + 1) * m
    rw [Nat.succ_mul]
    omega
/-- what is known of the drawn strings -/
structure DrawOk (W : List Int) (ss : List (List Jb)) : Prop where
  w : WOk W
  len : ss.length ≤ 6
  job : ∀ s ∈ ss, ∀ j ∈ s, JOk W j
  most : ∀ s ∈ ss, s.length ≤ 5
theorem DrawOk.of {W : List Int} {ss : List (List Jb)} {many most : Int} (hW : WOk W) (h : StOk W.length many most ss) (h1 : many ≤ 6) (h2 : most ≤ 5) : DrawOk W ss :=
  ⟨hW, by have := h.len; omega, fun s hs j hj => ⟨(h.job s hs j hj).1, (h.job s hs j hj).2.1, (h.job s hs j hj).2.2⟩, fun s hs => by have := h.most s hs; omega⟩
theorem DrawOk.sum {W : List Int} {ss : List (List Jb)} (h : DrawOk W ss) : (lens ss).sum ≤ 30 := by
  have h1 := lens_le h.most
  have h2 := h.len
  omega
theorem DrawOk.box {W : List Int} {ss : List (List Jb)} (h : DrawOk W ss) (h4 : ss.length ≤ 4) : boxN ss < 100000 := by
  have h1 := boxN_le h.most
  have h2 : (5 + 1) ^ ss.length ≤ 6 ^ 4 := Nat.pow_le_pow_right (by decide) h4
  have h3 : (6 : Nat) ^ 4 = 1296 := by decide
  omega
theorem DrawOk.wlen {W : List Int} {ss : List (List Jb)} (h : DrawOk W ss) {wv : List Nat} {js : List Jb} (hw : Wv ss wv js) : wv.length ≤ 30 ∧ ∀ j ∈ js, JOk W j := by
  have h1 := h.sum
  have h2 := hw.cnt.1
  refine ⟨by unfold lens at h1; omega, fun j hj => ?_⟩
  obtain ⟨s, hs, hjs⟩ := hw.memS j hj
  exact h.job s hs j hjs
section
variable {P : Program} {w : World} {K : PySem.W.Frag} {mg : Str → Option Value} {base : Heap}
theorem t_asgOpen {B F0 X : Hp} {env : Env_} {mus : Mu} {D : Ends} {i : Nat} {a : Addr} {ns : List Int} {E : XK} (hq : SqL K B a (ns.map V.int)) (hn : ns.length ≤ 63) (h : env[0]? = some (some (.ptr a)))
    (k : ∀ p (cells : List Int), cells.length ≤ 63 → Tr B F0 X (env.set i (some (.ptr p))) ((p, .lst [.lst (cells.map Dt.int), .int 0, .int 0]) :: mus) D.nx) : Tr B F0 X env mus (tAsg (tCall (SpO K) [] E (tCons (tVar 0) tNil)) (gName i) D) := fun σ H as => by
  obtain ⟨F, g0, M, E', hB⟩ := as
  unfold tAsg tCall
  refine ea_cons (mus := mus) (ev_var h) ea_nil F σ H M E' _ fun vs F1 H1 g1 r1 => ?_
  obtain ⟨x, rfl, hx⟩ := one_of r1
  refine ⟨F1, a, ns, g1.fh, by rw [rp_ptr.mp hx]; rfl, sql_up hq (g0.bh.trans g1.bh), hn, fun p xs F2 H2 cells hc g2 n1 n0 e1 r2 => ?_⟩
  have n0' := g1.bh.free n0
  obtain ⟨b0, hne⟩ := newkey g0 M n0'
  refine k p cells hc _ _ ⟨F2, (g0.trans g1).trans g2, ((M.grow g1).grow g2).cons n1 e1 ⟨xs, rfl, r2⟩ hne, ((E'.mono g1.ff).mono g2.ff).set (rp_ptr.mpr rfl), fun m hm => ?_⟩
  rcases List.mem_cons.mp hm with z | z
  · rw [z]; exact b0
  · exact hB m z
def SpLaw (K : PySem.W.Frag) : Sp := fun vs H Q _ => ∃ (a : Addr) (ns : List Int), vs = [.ref a] ∧ SqL K H a (ns.map V.int) ∧ ns.length ≤ 63 ∧ ∀ H', Q (.bl true) H'
abbrev R_same3 := R_sameS (R_sameS (R_sameS fun _ _ => False))
theorem same_wv (l : List Nat) (hl : l.length ≤ 1000) : R_same3 [wvD l, wvD l] (.bl true) := by
  refine ⟨rfl, .inr ⟨_, rfl, by rw [List.length_map]; exact hl, fun e he => ?_⟩⟩
  obtain ⟨x, _, rfl⟩ := List.mem_map.mp he
  exact ⟨rfl, .inl ⟨_, rfl⟩⟩
theorem same_cuts (cs : List (List Nat)) (hl : cs.length ≤ 1000) (h : ∀ c ∈ cs, c.length ≤ 1000) : R_same3 [.tup (cs.map cutD2), .tup (cs.map cutD2)] (.bl true) := by
  refine ⟨rfl, .inr ⟨_, rfl, by rw [List.length_map]; exact hl, fun e he => ?_⟩⟩
  obtain ⟨c, hc, rfl⟩ := List.mem_map.mp he
  refine ⟨rfl, .inr ⟨_, rfl, by rw [List.length_map]; exact h c hc, fun e he => ?_⟩⟩
  obtain ⟨x, _, rfl⟩ := List.mem_map.mp he
  exact ⟨rfl, .inl ⟨_, rfl⟩⟩
abbrev s_law : Stmt := topS 42
theorem sc_law : FnScope ["_law_script", "_law_pen", "_law_many", "_law_most", "_law_measure", "_law_strings", "_law_start", "_law_least_here", "_law_best", "_law_weave", "_law_number", "_law_swap", "_law_parting", "_law_later", "_law_cuts", "_law_string"] ["_law_script"] (defScope s_law) := ⟨rfl, rfl, rfl, by decide +kernel, rfl, by decide +kernel, by decide +kernel⟩
theorem ok_law {f : Addr} {fd : FuncData} (F : Fun K "law" "law" s_law f fd) (Z : Bz mg)
    (C_L_open : Cal P w K mg base 1 "_law_open" ["_law_script"] (SpO K))
    (C_L_draw_weights : Cal P w K mg base 4 "_law_draw_weights" ["_law_pen"] (SpE R_dweights))
    (C_L_draw_strings : Cal P w K mg base 4 "_law_draw_strings" ["_law_pen", "_law_kinds", "_law_many", "_law_most"] (SpE R_dstrings))
    (C_L_hours : Cal P w K mg base 3 "_law_hours" ["_law_pen"] (SpE R_hours))
    (C_L_least : Cal P w K mg base 1 "_law_least" ["_law_measure", "_law_strings", "_law_start"] (SpD R_least))
    (C_L_falling_cut : Cal P w K mg base 2 "_law_falling_cut" ["_law_measure", "_law_string"] (SpD R_fcut))
    (C_L_woven : Cal P w K mg base 2 "_law_woven" ["_law_measure", "_law_strings", "_law_cuts"] (SpD R_woven))
    (C_L_draw_weave : Cal P w K mg base 4 "_law_draw_weave" ["_law_pen", "_law_strings"] (SpE R_dweave))
    (C_L_weave_value : Cal P w K mg base 1 "_law_weave_value" ["_law_measure", "_law_strings", "_law_start", "_law_weave"] (SpD R_value))
    (C_find_swap : Cal P w K mg base 6 "find_swap" ["measure", "strings", "weave"] (SpD R_fswap))
    (C_find_parting : Cal P w K mg base 6 "find_parting" ["measure", "strings", "weave"] (SpD R_fpart))
    (C_L_is_swap : Cal P w K mg base 2 "_law_is_swap" ["_law_measure", "_law_strings", "_law_weave", "_law_value"] (SpD R_isSwap))
    (C_changed : Cal P w K mg base 1 "changed" ["weave", "swap"] (SpD R_changed))
    (C_L_changed : Cal P w K mg base 1 "_law_changed" ["_law_weave", "_law_value"] (SpD R_changed))
    (C_L_same : Cal P w K mg base 3 "_law_same" ["_law_found", "_law_due"] (SpD R_same3))
    (C_L_is_weave : Cal P w K mg base 2 "_law_is_weave" ["_law_strings", "_law_value"] (SpD R_isWeave))
    (C_L_is_parting : Cal P w K mg base 2 "_law_is_parting" ["_law_measure", "_law_strings", "_law_weave", "_law_value"] (SpD R_isPart))
    (C_cuts_of : Cal P w K mg base 1 "cuts_of" ["strings", "weave", "parting"] (SpD R_cuts))
    (C_L_cuts_of : Cal P w K mg base 1 "_law_cuts_of" ["_law_strings", "_law_weave", "_law_value"] (SpD R_cuts))
    (C_L_is_falling : Cal P w K mg base 4 "_law_is_falling" ["_law_measure", "_law_strings", "_law_value"] (SpD R_isFalling))
    (C_L_floor : Cal P w K mg base 2 "_law_floor" ["_law_measure", "_law_strings", "_law_start", "_law_cuts"] (SpD R_floor)) :
    FnOk P w K mg base CX0 7 f fd ["_law_script"] (SpLaw K) := by
  refine F.ok sc_law (fun vs H Q E h => ?_) (fun cdv A outer s H vs Q E hr h => ?_)
  · obtain ⟨a, ns, rfl, _⟩ := h
    rfl
  · have nd := sc_law.nd
    obtain ⟨a, ns, rfl, hq, hn, q⟩ := h
    refine ⟨_, (pss_cons (ps_set (i := 1) nd rfl (Or.inl rfl) (pe_cal C_L_open hr (by decide) (by rfl) (pa_cons (pv 0) pa_nil)))
      (pss_cons (ps_for PassesOwn.never rfl (pi_seq (pe_lst (pa_cons (pe_tup (pa_cons pe_int (pa_cons pe_int pa_nil))) (pa_cons (pe_tup (pa_cons pe_int (pa_cons pe_int pa_nil))) pa_nil)))) (pg_tup rfl (pgs_cons (pg_name (i := 2) nd rfl (Or.inl rfl)) (pgs_cons (pg_name (i := 3) nd rfl (Or.inl rfl)) pgs_nil))) (pss_cons (ps_set (i := 4) nd rfl (Or.inr rfl) (pe_cal C_L_draw_weights hr (by decide) (by rfl) (pa_cons (pv 1) pa_nil)))
      (pss_cons (ps_set (i := 5) nd rfl (Or.inl rfl) (pe_cal C_L_draw_strings hr (by decide) (by rfl) (pa_cons (pv 1) (pa_cons (pe_callB (call_lenK (K := K) rfl) (by rfl) Z.len (by decide +kernel) (pa_cons (pe_ix (ix_seqK (K := K) rfl) (pv 4) pe_int (fun _ _ => rfl)) pa_nil)) (pa_cons (pv 2) (pa_cons (pv 3) pa_nil))))))
      (pss_cons (ps_set (i := 6) nd rfl (Or.inl rfl) (pe_cal C_L_hours hr (by decide) (by rfl) (pa_cons (pv 1) pa_nil)))
      (pss_cons (ps_set (i := 7) nd rfl (Or.inl rfl) (pe_ifExp (pt_cmpR op_gt (pe_callB (call_lenK (K := K) rfl) (by rfl) Z.len (by decide +kernel) (pa_cons (pv 5) pa_nil)) pe_int (nomark _)) pe_non (pe_cal C_L_least hr (by decide) (by rfl) (pa_cons (pv 4) (pa_cons (pv 5) (pa_cons (pv 6) pa_nil))))))
      (pss_cons (ps_set (i := 8) nd rfl (Or.inl rfl) (pe_cal C_L_woven hr (by decide) (by rfl) (pa_cons (pv 4) (pa_cons (pv 5) (pa_cons (pe_callTy (call_tupK (K := K) rfl) (by rfl) Z.tuple (by decide +kernel) (pa_cons (pe_lc (own := [("_law_string", 15)]) (g := (gName 15)) (tt := tYes) rfl nd (pi_seq (pv 5)) (blkOk_by (N := ["_law_script", "_law_pen", "_law_many", "_law_most", "_law_measure", "_law_strings", "_law_start", "_law_least_here", "_law_best", "_law_weave", "_law_number", "_law_swap", "_law_parting", "_law_later", "_law_cuts", "_law_string"]) (sc := defScope s_law) (by decide +kernel)) (fun _ _ _ _ _ => (pg_name (i := 15) nd rfl (Or.inl rfl))) (fun _ _ _ _ _ => pts_nil) (fun _ _ _ _ _ => (pe_cal C_L_falling_cut hr (by decide) (by rfl) (pa_cons (pv 4) (pa_cons (pv 15) pa_nil))))) pa_nil)) pa_nil)))))
      (pss_one (ps_for PassesOwn.never rfl (pi_seq (pe_lst (pa_cons (pv 8) (pa_cons (pe_cal C_L_draw_weave hr (by decide) (by rfl) (pa_cons (pv 1) (pa_cons (pv 5) pa_nil))) (pa_cons (pe_cal C_L_draw_weave hr (by decide) (by rfl) (pa_cons (pv 1) (pa_cons (pv 5) pa_nil))) pa_nil))))) (pg_name (i := 9) nd rfl (Or.inl rfl)) (pss_cons (ps_set (i := 10) nd rfl (Or.inl rfl) (pe_cal C_L_weave_value hr (by decide) (by rfl) (pa_cons (pv 4) (pa_cons (pv 5) (pa_cons (pv 6) (pa_cons (pv 9) pa_nil))))))
      (pss_cons (ps_par (i := 11) (j := 12) rfl nd rfl rfl (by decide) rfl rfl (pa_cons (pe_cal C_find_swap hr (by decide) (by rfl) (pa_cons (pv 4) (pa_cons (pv 5) (pa_cons (pv 9) pa_nil)))) (pa_cons (pe_cal C_find_parting hr (by decide) (by rfl) (pa_cons (pv 4) (pa_cons (pv 5) (pa_cons (pv 9) pa_nil)))) pa_nil)) rfl)
      (pss_cons (ps_if (PW.pt (pw_and (pt_cmpR op_notN (pv 7) pe_non (nomark _)) (pw_and1 (pt_cmpR op_ne (pe_cmpR op_isN (pv 11) pe_non (nomark _)) (pe_cmpR op_eq (pv 10) (pv 7) (nomark _)) (nomark _))))) (pss_one (ps_ret pe_bl)) pss_nil)
      (pss_cons (ps_if (pt_cmpR op_notN (pv 11) pe_non (nomark _)) (pss_cons (ps_if (PW.pt (pw_or (pt_cmpR op_notN (pv 12) pe_non (nomark _)) (pw_or1 (pt_not (pt_val (pe_cal C_L_is_swap hr (by decide) (by rfl) (pa_cons (pv 4) (pa_cons (pv 5) (pa_cons (pv 9) (pa_cons (pv 11) pa_nil)))))))))) (pss_one (ps_ret pe_bl)) pss_nil)
      (pss_cons (ps_set (i := 13) nd rfl (Or.inl rfl) (pe_cal C_changed hr (by decide) (by rfl) (pa_cons (pv 9) (pa_cons (pv 11) pa_nil))))
      (pss_cons (ps_if (pt_not (pt_val (pe_cal C_L_same hr (by decide) (by rfl) (pa_cons (pv 13) (pa_cons (pe_cal C_L_changed hr (by decide) (by rfl) (pa_cons (pv 9) (pa_cons (pv 11) pa_nil))) pa_nil))))) (pss_one (ps_ret pe_bl)) pss_nil)
      (pss_cons (ps_if (PW.pt (pw_or (pt_not (pt_val (pe_cal C_L_is_weave hr (by decide) (by rfl) (pa_cons (pv 5) (pa_cons (pv 13) pa_nil))))) (pw_or1 (pt_cmpR op_ge (pe_cal C_L_weave_value hr (by decide) (by rfl) (pa_cons (pv 4) (pa_cons (pv 5) (pa_cons (pv 6) (pa_cons (pv 13) pa_nil))))) (pv 10) (nomark _))))) (pss_one (ps_ret pe_bl)) pss_nil)
      (pss_one ps_continue))))) pss_nil)
      (pss_cons (ps_if (pt_not (pt_val (pe_cal C_L_is_parting hr (by decide) (by rfl) (pa_cons (pv 4) (pa_cons (pv 5) (pa_cons (pv 9) (pa_cons (pv 12) pa_nil))))))) (pss_one (ps_ret pe_bl)) pss_nil)
      (pss_cons (ps_set (i := 14) nd rfl (Or.inl rfl) (pe_cal C_cuts_of hr (by decide) (by rfl) (pa_cons (pv 5) (pa_cons (pv 9) (pa_cons (pv 12) pa_nil)))))
      (pss_cons (ps_if (pt_not (pt_val (pe_cal C_L_same hr (by decide) (by rfl) (pa_cons (pv 14) (pa_cons (pe_cal C_L_cuts_of hr (by decide) (by rfl) (pa_cons (pv 5) (pa_cons (pv 9) (pa_cons (pv 12) pa_nil)))) pa_nil))))) (pss_one (ps_ret pe_bl)) pss_nil)
      (pss_one (ps_if (PW.pt (pw_or (pt_not (pt_val (pe_cal C_L_is_falling hr (by decide) (by rfl) (pa_cons (pv 4) (pa_cons (pv 5) (pa_cons (pv 14) pa_nil)))))) (pw_or1 (pt_cmpR op_ne (pe_cal C_L_floor hr (by decide) (by rfl) (pa_cons (pv 4) (pa_cons (pv 5) (pa_cons (pv 6) (pa_cons (pv 14) pa_nil))))) (pv 10) (nomark _))))) (pss_one (ps_ret pe_bl)) pss_nil)))))))))))))))))
      (pss_one (ps_ret pe_bl)))), ?_⟩
    suffices hT : Tr H (fun _ => none) (fun _ => none) [some (.ptr a), none, none, none, none, none, none, none, none, none, none, none, none, none, none, none] [] (_ : L2.St → Hp → Prop) from
      hT _ _ ⟨fun _ => none, ⟨Gr.refl same_none, Same.refl _⟩, ⟨same_none, fun m hm => (nomatch hm), .nil⟩, ⟨rfl, fun i d' hi => by
        match i, hi with
        | 0, hi =>
          cases hi
          exact ⟨_, rfl, rp_ptr.mpr rfl⟩
        | i + 1, hi =>
          by_cases hlt : i < 15
          · have : ([none, none, none, none, none, none, none, none, none, none, none, none, none, none, none] : List (Option Dt))[i]? = some none := by
              rw [show ([none, none, none, none, none, none, none, none, none, none, none, none, none, none, none] : List (Option Dt)) = List.replicate 15 none from rfl, List.getElem?_replicate, if_pos hlt]
            rw [List.getElem?_cons_succ, this] at hi
            cases hi
          · rw [List.getElem?_eq_none (by simp; omega)] at hi
            cases hi⟩, fun m hm => (nomatch hm)⟩
    generalize hF0 : (fun _ => none : Hp) = F0
    clear hF0
    refine t_seq ?_
    walk_at "n"
    refine t_asgOpen hq hn rfl fun p cells hcl => ?_
    refine t_penShut (j := 0) (k := 0) (cells := cells) (a := 0) (z := 0) rfl (by omega) (by omega) (by omega) hcl ?_
    walk_at "n"
    refine t_seq ?_
    refine t_for (it_left (it_list (ds := [.tup [.int 5, .int 5], .tup [.int 6, .int 3]]) (EvN.toD (en_lst (ea_cons (ev_tup (ea_cons ev_int (ea_cons ev_int ea_nil)) (show 2 ≤ 100000 by decide)) (ea_cons (ev_tup (ea_cons ev_int (ea_cons ev_int ea_nil)) (show 2 ≤ 100000 by decide)) ea_nil)) (show 2 ≤ 100000 by decide))))) .nil
      (fun i env mus => ∃ (x2 x3 x4 x5 x6 x7 x8 x9 x10 x11 x12 x13 x14 : Option Dt), env = [some (.ptr a), some (.ptr p), x2, x3, x4, x5, x6, x7, x8, x9, x10, x11, x12, x13, x14, none] ∧ mus = [(p, .pen (i * 2000))])
      ⟨none, none, none, none, none, none, none, none, none, none, none, none, none, rfl, rfl⟩ (fun _ _ _ _ _ x hx => nomatch hx) ?_ ?_
    · rintro X1 hX1 i d env mus hd ⟨x2, x3, x4, x5, x6, x7, x8, x9, x10, x11, x12, x13, x14, rfl, rfl⟩
      obtain ⟨many, most, rfl, hm1, hm2, hm3, hm4, hi2⟩ : ∃ many most : Int, d = .tup [.int many, .int most] ∧ 0 ≤ many ∧ many ≤ 6 ∧ 0 ≤ most ∧ most ≤ 5 ∧ i < 2 := by
        match i, hd with
        | 0, hd =>
          rw [← Option.some.inj hd]
          exact ⟨5, 5, rfl, by decide, by decide, by decide, by decide, by decide⟩
        | 1, hd =>
          rw [← Option.some.inj hd]
          exact ⟨6, 3, rfl, by decide, by decide, by decide, by decide, by decide⟩
        | i + 2, hd => simp at hd
      generalize hk0 : i * 2000 = k0
      have hk0b : k0 ≤ 2000 := by omega
      refine ⟨_, _, gd_tup2, ?_⟩
      walk_at "n"
      refine t_seq ?_
      refine t_asgE (mus' := [(p, .pen (k0 + 4))]) (P := fun d => ∃ W : List Int, d = mD W ∧ WOk W ∧ 1 ≤ W.length ∧ W.length ≤ 3) (ev_callE0 (R := R_dweights) (j := 0) (k' := k0 + 4) (ea_cons (ev_var rfl) ea_nil) rfl ⟨rfl, by omega, rfl, fun W h1 h2 h3 => ⟨W, rfl, h1, h2, h3⟩⟩) ?_
      rintro d ⟨W, rfl, hW, hW1, hW3⟩
      walk_at "n"
      refine t_seq ?_
      refine t_asgE (mus' := [(p, .pen (k0 + 1004))]) (P := fun d => ∃ ss : List (List Jb), d = ssD ss ∧ StOk W.length many most ss) (ev_callE0 (R := R_dstrings) (j := 0) (k' := k0 + 1004) (ds := [.int (W.length : Nat), .int many, .int most]) (ea_cons (ev_var rfl) (ea_cons ((ev_cb (ea_cons (ev_op (d1 := mD W) (d2 := .int 1) (ev_var rfl) ev_int (rd_xT (atI_nat (j := 1) rfl))) ea_nil) rc_lenT).is (by rw [List.length_map])) (ea_cons (ev_var rfl) (ea_cons (ev_var rfl) ea_nil)))) rfl ⟨_, many, most, rfl, by omega, by omega, hm1, by omega, hm3, by omega, by omega, rfl, fun ss h => ⟨ss, rfl, h⟩⟩) ?_
      rintro d ⟨ss, rfl, hst⟩
      have hD := DrawOk.of hW hst hm2 hm4
      clear hst
      walk_at "n"
      refine t_seq ?_
      refine t_asgE (mus' := [(p, .pen (k0 + 1006))]) (P := fun d => ∃ start : Int, d = .int start) (ev_callE0 (R := R_hours) (j := 0) (k' := k0 + 1006) (ds := []) (ea_cons (ev_var rfl) ea_nil) rfl ⟨rfl, by omega, rfl, fun r _ => ⟨r, rfl⟩⟩) ?_
      rintro d ⟨start, rfl⟩
      walk_at "n"
      have hsum := hD.sum
      have hssl := hD.len
      have hin := fallCut_in hW (show ss.length ≤ 100 by omega) hD.job (by omega)
      obtain ⟨jb, hjb⟩ := woven_wv hin
      have hleast := least_facts (ss := ss) W start ⟨_, _, hjb⟩
      -- the least value here, or None
      obtain ⟨lh, hlh, hlhc⟩ : ∃ lh : Dt, (lh = if ss.length ≤ 4 then lh else .non) ∧ ((lh = .non ∧ 4 < ss.length) ∨ (ss.length ≤ 4 ∧ ∃ v : Int, lh = .int v ∧ getT (leastN W ss start (lens ss).sum) (lens ss) = some v ∧ (∃ w js, Wv ss w js ∧ val start (js.map (pr W)) = v) ∧ ∀ w js, Wv ss w js → v ≤ val start (js.map (pr W)))) := by
        by_cases h4 : ss.length ≤ 4
        · obtain ⟨v, h1, h2, h3⟩ := hleast
          exact ⟨.int v, by rw [if_pos h4], .inr ⟨h4, v, rfl, h1, h2, h3⟩⟩
        · exact ⟨.non, by rw [if_neg h4], .inl ⟨rfl, by omega⟩⟩
      clear hlh hleast
      refine t_seq ?_
      refine t_asg (d := lh) (ev_if (b := decide ((4 : Int) < ((ss.map sD).length : Nat))) (et_test (ev_op (d2 := .int 4) (ev_cb (ea_cons (ev_var rfl) ea_nil) rc_lenT) ev_int rd_b0)) (fun hb => ?_) (fun hb => ?_)) ?_
      · have hb' := of_decide_eq_true hb
        rw [List.length_map] at hb'
        rcases hlhc with ⟨rfl, _⟩ | ⟨h4, _⟩
        · exact ev_non
        · omega
      · have hb' := of_decide_eq_false hb
        rw [List.length_map] at hb'
        rcases hlhc with ⟨_, h4⟩ | ⟨h4, v, rfl, h1, _⟩
        · omega
        · exact ev_call (ea_cons (ev_var rfl) (ea_cons (ev_var rfl) (ea_cons (ev_var rfl) ea_nil))) ⟨W, ss, start, v, hW, hD.job, by omega, by omega, hD.box h4, h1, rfl, rfl⟩
      walk_at "n"
      refine t_seq ?_
      refine t_asg (d := wvD (wovenW W ss (ss.map fun st => fallCut (st.map (pr W))))) (ev_call (ea_cons (ev_var rfl) (ea_cons (ev_var rfl) (ea_cons (d := .tup ((ss.map fun st => fallCut (st.map (pr W))).map cutD2)) (EvD.is (ev_cb (ea_cons (EvN.toD (en_lcM (l := ss) (G := sD) (F := fun st => cutD2 (fallCut (st.map (pr W)))) (is := [15]) (it_right (it_tup (ev_var rfl))) (by simp) .nil (by simp) (fun n st hs => ⟨_, gd_name, ev_call (ea_cons (ev_var rfl) (ea_cons (ev_var rfl) ea_nil)) ⟨W, st, hW, hD.job st (List.mem_of_getElem? hs), by have := hD.most st (List.mem_of_getElem? hs); omega, rfl, rfl⟩⟩) (by omega))) ea_nil) rc_tupL) (by rw [List.map_map]; rfl)) ea_nil))) ⟨W, ss, _, hin, rfl, rfl⟩) ?_
      walk_at "n"
      generalize hbest : wovenW W ss (ss.map fun st => fallCut (st.map (pr W))) = best
      rw [hbest] at hjb
      have hdw : ∀ {c : Nat}, c ≤ 900000 → EvE (tCall (SpE R_dweave) [] E0 (tCons (tVar 1) (tCons (tVar 5) tNil))) [some (.ptr a), some (.ptr p), some (.int many), some (.int most), some (mD W), some (ssD ss), some (.int start), some lh, some (wvD best), x9, x10, x11, x12, x13, x14, none] [(p, .pen c)] [(p, .pen (c + (lens ss).sum))] (fun d => ∃ wv js, d = wvD wv ∧ Wv ss wv js) := fun {c} hc =>
        ev_callE0 (R := R_dweave) (j := 0) (k' := c + (lens ss).sum) (ds := [ssD ss]) (ea_cons (ev_var rfl) (ea_cons (ev_var rfl) ea_nil)) rfl ⟨ss, rfl, by omega, by omega, hc, rfl, fun wv js h => ⟨wv, js, rfl, h⟩⟩
      have hlst : EvE _ _ _ _ (fun d => ∃ l, d = .lst l ∧ ∀ d ∈ l, ∃ wv js, d = wvD wv ∧ Wv ss wv js) := (ev_lstE (eae_cons (EvE.of (ev_var (i := 8) (d := wvD best) (mus := [(p, .pen (k0 + 1006))]) rfl)) (eae_cons (hdw (c := k0 + 1006) (by omega)) (eae_cons (hdw (c := k0 + 1006 + (lens ss).sum) (by omega)) eae_nil))) fun l hl => by
        obtain ⟨d1, r1, rfl, _, d2, r2, rfl, _, d3, r3, rfl, _, rfl⟩ := hl
        show 3 ≤ 100000
        decide).imp (by
        rintro d ⟨l, rfl, d1, r1, rfl, rfl, d2, r2, rfl, h2, d3, r3, rfl, h3, rfl⟩
        refine ⟨_, rfl, fun d hd => ?_⟩
        rcases List.mem_cons.mp hd with z | z
        · rw [z]; exact ⟨best, jb, rfl, hjb⟩
        · rcases List.mem_cons.mp z with z | z
          · rw [z]; exact h2
          · rw [List.mem_singleton.mp z]; exact h3)
      refine t_forE (it_listE hlst) .nil (fun ds n env mus => ∃ (y9 y10 y11 y12 y13 y14 : Option Dt), env = [some (.ptr a), some (.ptr p), some (.int many), some (.int most), some (mD W), some (ssD ss), some (.int start), some lh, some (wvD best), y9, y10, y11, y12, y13, y14, none] ∧ mus = [(p, .pen (k0 + 1006 + (lens ss).sum + (lens ss).sum))])
        (fun ds _ => ⟨x9, x10, x11, x12, x13, x14, rfl, rfl⟩) (fun _ _ _ _ _ _ _ x hx => nomatch hx) ?_ ?_
      · rintro ds hds X2 hX2 n d env mus hdn ⟨y9, y10, y11, y12, y13, y14, rfl, rfl⟩
        obtain ⟨wv, js, rfl, hwv⟩ := hds d (List.mem_of_getElem? hdn)
        obtain ⟨hwl, hjs⟩ := hD.wlen hwv
        generalize k0 + 1006 + (lens ss).sum + (lens ss).sum = kk
        refine ⟨_, _, gd_name, ?_⟩
        walk_at "n"
        refine t_seq ?_
        refine t_asg (d := .int (val start (js.map (pr W)))) (ev_call (ea_cons (ev_var rfl) (ea_cons (ev_var rfl) (ea_cons (ev_var rfl) (ea_cons (ev_var rfl) ea_nil)))) ⟨W, ss, start, wv, js, hW, hjs, hwv, by omega, by omega, rfl, rfl⟩) ?_
        walk_at "n"
        refine t_seq ?_
        cases hsw : fswap (js.map (pr W)) wv with
        | none =>
          have PF := part_facts hjs hwv hsw
          generalize ((blocks (js.map (pr W)) wv).map fun x => (wv.getD x.1 0, seg js x)) = bl at PF
          have hpl := PF.plen
          have hpa := PF.pa
          have hpk := PF.pl
          have hfl := falls_of PF hD.job (by omega) (fun s hs => by have := hD.most s hs; omega)
          have hcl := PF.cuts
          generalize hls : fpart (js.map (pr W)) wv = ls at *
          have hfo := floor_of PF start
          generalize hcs : (rwB ss.length bl).map (fun r => r.map List.length) = cs at *
          refine t_parDD (d1 := .non) (d2 := .tup (ls.map nD)) (ev_call (ea_cons (ev_var rfl) (ea_cons (ev_var rfl) (ea_cons (ev_var rfl) ea_nil))) ⟨W, ss, wv, js, hW, hjs, hwv, by omega, by omega, rfl, by rw [hsw]⟩) (ev_call (ea_cons (ev_var rfl) (ea_cons (ev_var rfl) (ea_cons (ev_var rfl) ea_nil))) ⟨W, ss, wv, js, hW, hjs, hwv, by omega, by omega, rfl, by rw [hsw, hls]⟩) ?_
          walk_at "n"
          refine t_seq ?_
          refine t_ifF ?_ ?_
          · rcases hlhc with ⟨rfl, _⟩ | ⟨h4, v, rfl, _, ⟨w2, js2, h2, h3⟩, hmin⟩
            · exact et_and (a := false) (b := true) ((et_test (ev_op (ev_var rfl) ev_non rd_notN)).is rfl) fun z => nomatch z
            · have e : val start (js.map (pr W)) = v := by
                have h5 := least_of PF hD.job start h2
                have h6 := hmin wv js hwv
                omega
              refine et_and (a := true) (b := false) ((et_test (ev_op (ev_var rfl) ev_non (rd_notN1 (by intro z; cases z)))).is rfl) fun _ => (et_test (ev_op (d1 := .bl true) (d2 := .bl (decide (val start (js.map (pr W)) = v))) (ev_op (ev_var rfl) ev_non rd_isN) (ev_op (ev_var rfl) (ev_var rfl) rd_eq) rd_neB)).is ?_
              rw [decide_eq_true e]
              rfl
          refine t_next ?_
          walk_at "n"
          refine t_seq ?_
          refine t_ifF ((et_test (ev_op (ev_var rfl) ev_non rd_notN)).is rfl) ?_
          refine t_next ?_
          walk_at "n"
          refine t_seq ?_
          refine t_ifF (et_notT (et_B (ev_call (ea_cons (ev_var rfl) (ea_cons (ev_var rfl) (ea_cons (ev_var rfl) (ea_cons (ev_var rfl) ea_nil)))) ⟨W, ss, wv, js, ls, hW, hjs, hwv, by omega, by omega, by omega, hpa, rfl, rfl⟩))) ?_
          refine t_next ?_
          walk_at "n"
          refine t_seq ?_
          have hcc : ∀ {mus : Mu} {y14 : Option Dt}, EvA (tCons (tVar 5) (tCons (tVar 9) (tCons (tVar 12) tNil))) [some (.ptr a), some (.ptr p), some (.int many), some (.int most), some (mD W), some (ssD ss), some (.int start), some lh, some (wvD best), some (wvD wv), some (.int (val start (js.map (pr W)))), some .non, some (.tup (ls.map nD)), y13, y14, none] mus [ssD ss, wvD wv, .tup (ls.map nD)] := fun {mus y14} => ea_cons (ev_var rfl) (ea_cons (ev_var rfl) (ea_cons (ev_var rfl) ea_nil))
          have hRc : R_cuts [ssD ss, wvD wv, .tup (ls.map nD)] (.tup (cs.map cutD2)) := ⟨ss, wv, ls, by omega, by omega, hpk, rfl, by rw [hcl]⟩
          refine t_asg (d := .tup (cs.map cutD2)) (ev_call hcc hRc) ?_
          walk_at "n"
          refine t_seq ?_
          have hcut := hfl.cut
          have hclen := hcut.len
          refine t_ifF (et_notT (et_B (ev_call (ea_cons (ev_var rfl) (ea_cons (ev_call hcc hRc) ea_nil)) (same_cuts cs (by omega) fun c hc => ?_)))) ?_
          · obtain ⟨i', hi'⟩ := List.mem_iff_getElem?.mp hc
            have hil := klt hi'
            exact (hcut.at_ i' _ c (List.getElem?_eq_getElem (by omega)) hi').len
          refine t_next ?_
          walk_at "n"
          refine t_ifF (et_orFF (et_notT (et_B (ev_call (ea_cons (ev_var rfl) (ea_cons (ev_var rfl) (ea_cons (ev_var rfl) ea_nil))) ⟨W, ss, cs, hW, hfl, rfl, rfl⟩))) (et_neF (ev_call (ea_cons (ev_var rfl) (ea_cons (ev_var rfl) (ea_cons (ev_var rfl) (ea_cons (ev_var rfl) ea_nil)))) ⟨W, ss, start, cs, hW, hcut, rfl, rfl⟩) (ev_var rfl) hfo)) ?_
          refine t_next ?_
          walk_at "n"
          exact tr_asr ⟨_, _, _, _, _, _, rfl, rfl⟩
        | some t =>
          have SF := swap_facts hjs hwv hsw
          obtain ⟨js2, hw2, hmem2, hlow⟩ := SF.wv
          obtain ⟨hwl2, hjs2⟩ := hD.wlen hw2
          have hlow' := hlow start
          refine t_parDD (d1 := swD t) (d2 := .non) (ev_call (ea_cons (ev_var rfl) (ea_cons (ev_var rfl) (ea_cons (ev_var rfl) ea_nil))) ⟨W, ss, wv, js, hW, hjs, hwv, by omega, by omega, rfl, by rw [hsw]⟩) (ev_call (ea_cons (ev_var rfl) (ea_cons (ev_var rfl) (ea_cons (ev_var rfl) ea_nil))) ⟨W, ss, wv, js, hW, hjs, hwv, by omega, by omega, rfl, by rw [hsw]⟩) ?_
          walk_at "n"
          refine t_seq ?_
          refine t_ifF ?_ ?_
          · rcases hlhc with ⟨rfl, _⟩ | ⟨h4, v, rfl, _, _, hmin⟩
            · exact et_and (a := false) (b := true) ((et_test (ev_op (ev_var rfl) ev_non rd_notN)).is rfl) fun z => nomatch z
            · have e : ¬ val start (js.map (pr W)) = v := by
                have h6 := hmin _ _ hw2
                omega
              refine et_and (a := true) (b := false) ((et_test (ev_op (ev_var rfl) ev_non (rd_notN1 (by intro z; cases z)))).is rfl) fun _ => (et_test (ev_op (d1 := .bl false) (d2 := .bl (decide (val start (js.map (pr W)) = v))) (ev_op (ev_var rfl) ev_non (rd_isN0 (by intro z; cases z))) (ev_op (ev_var rfl) (ev_var rfl) rd_eq) rd_neB)).is ?_
              rw [decide_eq_false e]
              rfl
          refine t_next ?_
          walk_at "n"
          refine t_seq ?_
          refine t_ifT ((et_test (ev_op (ev_var rfl) ev_non (rd_notN1 (by intro z; cases z)))).is rfl) ?_
          refine t_seq ?_
          refine t_ifF (et_orFF ((et_test (ev_op (ev_var rfl) ev_non rd_notN)).is rfl) (et_notT (et_B (ev_call (ea_cons (ev_var rfl) (ea_cons (ev_var rfl) (ea_cons (ev_var rfl) (ea_cons (ev_var rfl) ea_nil)))) ⟨W, ss, wv, js, t, hW, hjs, hwv, by omega, by omega, SF.sw, rfl, rfl⟩)))) ?_
          refine t_next ?_
          walk_at "n"
          refine t_seq ?_
          refine t_asg (d := wvD (chg wv t)) (ev_call (ea_cons (ev_var rfl) (ea_cons (ev_var rfl) ea_nil)) ⟨wv, t, by omega, rfl, rfl⟩) ?_
          walk_at "n"
          refine t_seq ?_
          refine t_ifF (et_notT (et_B (ev_call (ea_cons (ev_var rfl) (ea_cons (ev_call (ea_cons (ev_var rfl) (ea_cons (ev_var rfl) ea_nil)) ⟨wv, t, by omega, rfl, rfl⟩) ea_nil)) (same_wv (chg wv t) (by omega))))) ?_
          refine t_next ?_
          walk_at "n"
          refine t_seq ?_
          refine t_ifF (et_orFF (et_notT (et_B (ev_call (ea_cons (ev_var rfl) (ea_cons (ev_var rfl) ea_nil)) ⟨ss, chg wv t, by omega, by omega, hw2.cnt.1, hw2.cnt.2, rfl, rfl⟩))) ((et_test (ev_op (d1 := .int (val start (js2.map (pr W)))) (d2 := .int (val start (js.map (pr W)))) (ev_call (ea_cons (ev_var rfl) (ea_cons (ev_var rfl) (ea_cons (ev_var rfl) (ea_cons (ev_var rfl) ea_nil)))) ⟨W, ss, start, chg wv t, js2, hW, hjs2, hw2, by omega, by omega, rfl, rfl⟩) (ev_var rfl) rd_b0)).is (decide_eq_false (by omega)))) ?_
          refine t_next ?_
          walk_at "n"
          refine t_cont ?_
          walk_at "n"
          exact tr_asr ⟨_, _, _, _, _, _, rfl, rfl⟩
      · rintro ds hds env mus ⟨y9, y10, y11, y12, y13, y14, rfl, rfl⟩
        refine t_penW (j := 0) (k' := (i + 1) * 2000) rfl (by omega) ?_
        walk_at "n"
        exact tr_asr ⟨_, _, _, _, _, _, _, _, _, _, _, _, _, rfl, rfl⟩
    · rintro env mus ⟨x2, x3, x4, x5, x6, x7, x8, x9, x10, x11, x12, x13, x14, rfl, rfl⟩
      walk_at "n"
      refine t_ret (d := .bl true) ev_bl fun v F' H' g _ r => ?_
      have e := rp_bl.mp r
      subst e
      exact q H'
end
end KB
namespace KB
open PySem PySem.Spec PyProof.Rows L2
/-! ### what the top has written -/
theorem all_mk {l : PySem.W.OpenLaw} {w : World} {K : PySem.W.Frag} {h : Heap} {mg : Str → Option Value} {fa f1 f2 f3 f4 f5 f6 f7 f8 f9 f10 f11 f12 f13 f14 f15 f16 f17 f18 f19 f20 f21 f22 f23 f24 f25 f26 f27 f28 f29 f30 f31 f32 f33 f34 f35 f36 f37 f38 f39 f40 : Addr} (X : K.In h) (G : h.Ns mainGlobals mg) (hfa : mg "law" = some (.ref fa))
    {od1 an1 od2 an2 od3 an3 od4 an4 od5 an5 od6 an6 od7 an7 od8 an8 od9 an9 od10 an10 od11 an11 od12 an12 od13 an13 od14 an14 od15 an15 od16 an16 od17 an17 od18 an18 od19 an19 od20 an20 od21 an21 od22 an22 od23 an23 od24 an24 od25 an25 od26 an26 od27 an27 od28 an28 od29 an29 od30 an30 od31 an31 od32 an32 od33 an33 od34 an34 od35 an35 od36 an36 od37 an37 od38 an38 od39 an39 od40 an40 : Option Addr} {sl1 sl2 sl3 sl4 sl5 sl6 sl7 sl8 sl9 sl10 sl11 sl12 sl13 sl14 sl15 sl16 sl17 sl18 sl19 sl20 sl21 sl22 sl23 sl24 sl25 sl26 sl27 sl28 sl29 sl30 sl31 sl32 sl33 sl34 sl35 sl36 sl37 sl38 sl39 sl40 : Array (Option Value)} {oc1 kV1 dc1 pm1 cd1 ct1 oc2 kV2 dc2 pm2 cd2 ct2 oc3 kV3 dc3 pm3 cd3 ct3 oc4 kV4 dc4 pm4 cd4 ct4 oc5 kV5 dc5 pm5 cd5 ct5 oc6 kV6 dc6 pm6 cd6 ct6 oc7 kV7 dc7 pm7 cd7 ct7 oc8 kV8 dc8 pm8 cd8 ct8 oc9 kV9 dc9 pm9 cd9 ct9 oc10 kV10 dc10 pm10 cd10 ct10 oc11 kV11 dc11 pm11 cd11 ct11 oc12 kV12 dc12 pm12 cd12 ct12 oc13 kV13 dc13 pm13 cd13 ct13 oc14 kV14 dc14 pm14 cd14 ct14 oc15 kV15 dc15 pm15 cd15 ct15 oc16 kV16 dc16 pm16 cd16 ct16 oc17 kV17 dc17 pm17 cd17 ct17 oc18 kV18 dc18 pm18 cd18 ct18 oc19 kV19 dc19 pm19 cd19 ct19 oc20 kV20 dc20 pm20 cd20 ct20 oc21 kV21 dc21 pm21 cd21 ct21 oc22 kV22 dc22 pm22 cd22 ct22 oc23 kV23 dc23 pm23 cd23 ct23 oc24 kV24 dc24 pm24 cd24 ct24 oc25 kV25 dc25 pm25 cd25 ct25 oc26 kV26 dc26 pm26 cd26 ct26 oc27 kV27 dc27 pm27 cd27 ct27 oc28 kV28 dc28 pm28 cd28 ct28 oc29 kV29 dc29 pm29 cd29 ct29 oc30 kV30 dc30 pm30 cd30 ct30 oc31 kV31 dc31 pm31 cd31 ct31 oc32 kV32 dc32 pm32 cd32 ct32 oc33 kV33 dc33 pm33 cd33 ct33 oc34 kV34 dc34 pm34 cd34 ct34 oc35 kV35 dc35 pm35 cd35 ct35 oc36 kV36 dc36 pm36 cd36 ct36 oc37 kV37 dc37 pm37 cd37 ct37 oc38 kV38 dc38 pm38 cd38 ct38 oc39 kV39 dc39 pm39 cd39 ct39 oc40 kV40 dc40 pm40 cd40 ct40 : Value}
    (a1 : PySem.W.nsIn K mainGlobals "is_less" = some (some (.ref f1))) (l1 : K.lookup f1 = some ⟨oc1, od1, .func (PySem.W.fnOf "is_less" "is_less" (defArgs s_is_less) (defBody s_is_less) (defScope s_is_less) .none kV1 dc1 pm1 an1 cd1 ct1), sl1⟩) (c1 : PySem.W.codeIn K cd1 "is_less" = true) (k1 : PySem.W.keepIn K (.ref f1) = true)
    (a2 : PySem.W.nsIn K mainGlobals "_law_is_less" = some (some (.ref f2))) (l2 : K.lookup f2 = some ⟨oc2, od2, .func (PySem.W.fnOf "_law_is_less" "_law_is_less" (defArgs s_L_is_less) (defBody s_L_is_less) (defScope s_L_is_less) .none kV2 dc2 pm2 an2 cd2 ct2), sl2⟩) (c2 : PySem.W.codeIn K cd2 "_law_is_less" = true) (k2 : PySem.W.keepIn K (.ref f2) = true)
    (a3 : PySem.W.nsIn K mainGlobals "weight_of" = some (some (.ref f3))) (l3 : K.lookup f3 = some ⟨oc3, od3, .func (PySem.W.fnOf "weight_of" "weight_of" (defArgs s_weight_of) (defBody s_weight_of) (defScope s_weight_of) .none kV3 dc3 pm3 an3 cd3 ct3), sl3⟩) (c3 : PySem.W.codeIn K cd3 "weight_of" = true) (k3 : PySem.W.keepIn K (.ref f3) = true)
    (a4 : PySem.W.nsIn K mainGlobals "_law_share" = some (some (.ref f4))) (l4 : K.lookup f4 = some ⟨oc4, od4, .func (PySem.W.fnOf "_law_share" "_law_share" (defArgs s_L_share) (defBody s_L_share) (defScope s_L_share) .none kV4 dc4 pm4 an4 cd4 ct4), sl4⟩) (c4 : PySem.W.codeIn K cd4 "_law_share" = true) (k4 : PySem.W.keepIn K (.ref f4) = true)
    (a5 : PySem.W.nsIn K mainGlobals "share_of" = some (some (.ref f5))) (l5 : K.lookup f5 = some ⟨oc5, od5, .func (PySem.W.fnOf "share_of" "share_of" (defArgs s_share_of) (defBody s_share_of) (defScope s_share_of) .none kV5 dc5 pm5 an5 cd5 ct5), sl5⟩) (c5 : PySem.W.codeIn K cd5 "share_of" = true) (k5 : PySem.W.keepIn K (.ref f5) = true)
    (a6 : PySem.W.nsIn K mainGlobals "share_at" = some (some (.ref f6))) (l6 : K.lookup f6 = some ⟨oc6, od6, .func (PySem.W.fnOf "share_at" "share_at" (defArgs s_share_at) (defBody s_share_at) (defScope s_share_at) .none kV6 dc6 pm6 an6 cd6 ct6), sl6⟩) (c6 : PySem.W.codeIn K cd6 "share_at" = true) (k6 : PySem.W.keepIn K (.ref f6) = true)
    (a7 : PySem.W.nsIn K mainGlobals "jobs_of_weave" = some (some (.ref f7))) (l7 : K.lookup f7 = some ⟨oc7, od7, .func (PySem.W.fnOf "jobs_of_weave" "jobs_of_weave" (defArgs s_jobs_of_weave) (defBody s_jobs_of_weave) (defScope s_jobs_of_weave) .none kV7 dc7 pm7 an7 cd7 ct7), sl7⟩) (c7 : PySem.W.codeIn K cd7 "jobs_of_weave" = true) (k7 : PySem.W.keepIn K (.ref f7) = true)
    (a8 : PySem.W.nsIn K mainGlobals "_law_jobs_of" = some (some (.ref f8))) (l8 : K.lookup f8 = some ⟨oc8, od8, .func (PySem.W.fnOf "_law_jobs_of" "_law_jobs_of" (defArgs s_L_jobs_of) (defBody s_L_jobs_of) (defScope s_L_jobs_of) .none kV8 dc8 pm8 an8 cd8 ct8), sl8⟩) (c8 : PySem.W.codeIn K cd8 "_law_jobs_of" = true) (k8 : PySem.W.keepIn K (.ref f8) = true)
    (a9 : PySem.W.nsIn K mainGlobals "_law_weave_value" = some (some (.ref f9))) (l9 : K.lookup f9 = some ⟨oc9, od9, .func (PySem.W.fnOf "_law_weave_value" "_law_weave_value" (defArgs s_L_weave_value) (defBody s_L_weave_value) (defScope s_L_weave_value) .none kV9 dc9 pm9 an9 cd9 ct9), sl9⟩) (c9 : PySem.W.codeIn K cd9 "_law_weave_value" = true) (k9 : PySem.W.keepIn K (.ref f9) = true)
    (a10 : PySem.W.nsIn K mainGlobals "runs_of_weave" = some (some (.ref f10))) (l10 : K.lookup f10 = some ⟨oc10, od10, .func (PySem.W.fnOf "runs_of_weave" "runs_of_weave" (defArgs s_runs_of_weave) (defBody s_runs_of_weave) (defScope s_runs_of_weave) .none kV10 dc10 pm10 an10 cd10 ct10), sl10⟩) (c10 : PySem.W.codeIn K cd10 "runs_of_weave" = true) (k10 : PySem.W.keepIn K (.ref f10) = true)
    (a11 : PySem.W.nsIn K mainGlobals "blocks_in" = some (some (.ref f11))) (l11 : K.lookup f11 = some ⟨oc11, od11, .func (PySem.W.fnOf "blocks_in" "blocks_in" (defArgs s_blocks_in) (defBody s_blocks_in) (defScope s_blocks_in) .none kV11 dc11 pm11 an11 cd11 ct11), sl11⟩) (c11 : PySem.W.codeIn K cd11 "blocks_in" = true) (k11 : PySem.W.keepIn K (.ref f11) = true)
    (a12 : PySem.W.nsIn K mainGlobals "decided_weave" = some (some (.ref f12))) (l12 : K.lookup f12 = some ⟨oc12, od12, .func (PySem.W.fnOf "decided_weave" "decided_weave" (defArgs s_decided_weave) (defBody s_decided_weave) (defScope s_decided_weave) .none kV12 dc12 pm12 an12 cd12 ct12), sl12⟩) (c12 : PySem.W.codeIn K cd12 "decided_weave" = true) (k12 : PySem.W.keepIn K (.ref f12) = true)
    (a13 : PySem.W.nsIn K mainGlobals "find_swap" = some (some (.ref f13))) (l13 : K.lookup f13 = some ⟨oc13, od13, .func (PySem.W.fnOf "find_swap" "find_swap" (defArgs s_find_swap) (defBody s_find_swap) (defScope s_find_swap) .none kV13 dc13 pm13 an13 cd13 ct13), sl13⟩) (c13 : PySem.W.codeIn K cd13 "find_swap" = true) (k13 : PySem.W.keepIn K (.ref f13) = true)
    (a14 : PySem.W.nsIn K mainGlobals "find_parting" = some (some (.ref f14))) (l14 : K.lookup f14 = some ⟨oc14, od14, .func (PySem.W.fnOf "find_parting" "find_parting" (defArgs s_find_parting) (defBody s_find_parting) (defScope s_find_parting) .none kV14 dc14 pm14 an14 cd14 ct14), sl14⟩) (c14 : PySem.W.codeIn K cd14 "find_parting" = true) (k14 : PySem.W.keepIn K (.ref f14) = true)
    (a15 : PySem.W.nsIn K mainGlobals "changed" = some (some (.ref f15))) (l15 : K.lookup f15 = some ⟨oc15, od15, .func (PySem.W.fnOf "changed" "changed" (defArgs s_changed) (defBody s_changed) (defScope s_changed) .none kV15 dc15 pm15 an15 cd15 ct15), sl15⟩) (c15 : PySem.W.codeIn K cd15 "changed" = true) (k15 : PySem.W.keepIn K (.ref f15) = true)
    (a16 : PySem.W.nsIn K mainGlobals "_law_changed" = some (some (.ref f16))) (l16 : K.lookup f16 = some ⟨oc16, od16, .func (PySem.W.fnOf "_law_changed" "_law_changed" (defArgs s_L_changed) (defBody s_L_changed) (defScope s_L_changed) .none kV16 dc16 pm16 an16 cd16 ct16), sl16⟩) (c16 : PySem.W.codeIn K cd16 "_law_changed" = true) (k16 : PySem.W.keepIn K (.ref f16) = true)
    (a17 : PySem.W.nsIn K mainGlobals "_law_cuts_of" = some (some (.ref f17))) (l17 : K.lookup f17 = some ⟨oc17, od17, .func (PySem.W.fnOf "_law_cuts_of" "_law_cuts_of" (defArgs s_L_cuts_of) (defBody s_L_cuts_of) (defScope s_L_cuts_of) .none kV17 dc17 pm17 an17 cd17 ct17), sl17⟩) (c17 : PySem.W.codeIn K cd17 "_law_cuts_of" = true) (k17 : PySem.W.keepIn K (.ref f17) = true)
    (a18 : PySem.W.nsIn K mainGlobals "cuts_of" = some (some (.ref f18))) (l18 : K.lookup f18 = some ⟨oc18, od18, .func (PySem.W.fnOf "cuts_of" "cuts_of" (defArgs s_cuts_of) (defBody s_cuts_of) (defScope s_cuts_of) .none kV18 dc18 pm18 an18 cd18 ct18), sl18⟩) (c18 : PySem.W.codeIn K cd18 "cuts_of" = true) (k18 : PySem.W.keepIn K (.ref f18) = true)
    (a19 : PySem.W.nsIn K mainGlobals "_law_from" = some (some (.ref f19))) (l19 : K.lookup f19 = some ⟨oc19, od19, .func (PySem.W.fnOf "_law_from" "_law_from" (defArgs s_L_from) (defBody s_L_from) (defScope s_L_from) .none kV19 dc19 pm19 an19 cd19 ct19), sl19⟩) (c19 : PySem.W.codeIn K cd19 "_law_from" = true) (k19 : PySem.W.keepIn K (.ref f19) = true)
    (a20 : PySem.W.nsIn K mainGlobals "_law_blocks" = some (some (.ref f20))) (l20 : K.lookup f20 = some ⟨oc20, od20, .func (PySem.W.fnOf "_law_blocks" "_law_blocks" (defArgs s_L_blocks) (defBody s_L_blocks) (defScope s_L_blocks) .none kV20 dc20 pm20 an20 cd20 ct20), sl20⟩) (c20 : PySem.W.codeIn K cd20 "_law_blocks" = true) (k20 : PySem.W.keepIn K (.ref f20) = true)
    (a21 : PySem.W.nsIn K mainGlobals "_law_is_cut" = some (some (.ref f21))) (l21 : K.lookup f21 = some ⟨oc21, od21, .func (PySem.W.fnOf "_law_is_cut" "_law_is_cut" (defArgs s_L_is_cut) (defBody s_L_is_cut) (defScope s_L_is_cut) .none kV21 dc21 pm21 an21 cd21 ct21), sl21⟩) (c21 : PySem.W.codeIn K cd21 "_law_is_cut" = true) (k21 : PySem.W.keepIn K (.ref f21) = true)
    (a22 : PySem.W.nsIn K mainGlobals "_law_is_cuts" = some (some (.ref f22))) (l22 : K.lookup f22 = some ⟨oc22, od22, .func (PySem.W.fnOf "_law_is_cuts" "_law_is_cuts" (defArgs s_L_is_cuts) (defBody s_L_is_cuts) (defScope s_L_is_cuts) .none kV22 dc22 pm22 an22 cd22 ct22), sl22⟩) (c22 : PySem.W.codeIn K cd22 "_law_is_cuts" = true) (k22 : PySem.W.keepIn K (.ref f22) = true)
    (a23 : PySem.W.nsIn K mainGlobals "_law_is_falling" = some (some (.ref f23))) (l23 : K.lookup f23 = some ⟨oc23, od23, .func (PySem.W.fnOf "_law_is_falling" "_law_is_falling" (defArgs s_L_is_falling) (defBody s_L_is_falling) (defScope s_L_is_falling) .none kV23 dc23 pm23 an23 cd23 ct23), sl23⟩) (c23 : PySem.W.codeIn K cd23 "_law_is_falling" = true) (k23 : PySem.W.keepIn K (.ref f23) = true)
    (a24 : PySem.W.nsIn K mainGlobals "_law_is_weave" = some (some (.ref f24))) (l24 : K.lookup f24 = some ⟨oc24, od24, .func (PySem.W.fnOf "_law_is_weave" "_law_is_weave" (defArgs s_L_is_weave) (defBody s_L_is_weave) (defScope s_L_is_weave) .none kV24 dc24 pm24 an24 cd24 ct24), sl24⟩) (c24 : PySem.W.codeIn K cd24 "_law_is_weave" = true) (k24 : PySem.W.keepIn K (.ref f24) = true)
    (a25 : PySem.W.nsIn K mainGlobals "_law_is_swap" = some (some (.ref f25))) (l25 : K.lookup f25 = some ⟨oc25, od25, .func (PySem.W.fnOf "_law_is_swap" "_law_is_swap" (defArgs s_L_is_swap) (defBody s_L_is_swap) (defScope s_L_is_swap) .none kV25 dc25 pm25 an25 cd25 ct25), sl25⟩) (c25 : PySem.W.codeIn K cd25 "_law_is_swap" = true) (k25 : PySem.W.keepIn K (.ref f25) = true)
    (a26 : PySem.W.nsIn K mainGlobals "_law_is_parting" = some (some (.ref f26))) (l26 : K.lookup f26 = some ⟨oc26, od26, .func (PySem.W.fnOf "_law_is_parting" "_law_is_parting" (defArgs s_L_is_parting) (defBody s_L_is_parting) (defScope s_L_is_parting) .none kV26 dc26 pm26 an26 cd26 ct26), sl26⟩) (c26 : PySem.W.codeIn K cd26 "_law_is_parting" = true) (k26 : PySem.W.keepIn K (.ref f26) = true)
    (a27 : PySem.W.nsIn K mainGlobals "_law_floor" = some (some (.ref f27))) (l27 : K.lookup f27 = some ⟨oc27, od27, .func (PySem.W.fnOf "_law_floor" "_law_floor" (defArgs s_L_floor) (defBody s_L_floor) (defScope s_L_floor) .none kV27 dc27 pm27 an27 cd27 ct27), sl27⟩) (c27 : PySem.W.codeIn K cd27 "_law_floor" = true) (k27 : PySem.W.keepIn K (.ref f27) = true)
    (a28 : PySem.W.nsIn K mainGlobals "_law_falling_cut" = some (some (.ref f28))) (l28 : K.lookup f28 = some ⟨oc28, od28, .func (PySem.W.fnOf "_law_falling_cut" "_law_falling_cut" (defArgs s_L_falling_cut) (defBody s_L_falling_cut) (defScope s_L_falling_cut) .none kV28 dc28 pm28 an28 cd28 ct28), sl28⟩) (c28 : PySem.W.codeIn K cd28 "_law_falling_cut" = true) (k28 : PySem.W.keepIn K (.ref f28) = true)
    (a29 : PySem.W.nsIn K mainGlobals "_law_woven" = some (some (.ref f29))) (l29 : K.lookup f29 = some ⟨oc29, od29, .func (PySem.W.fnOf "_law_woven" "_law_woven" (defArgs s_L_woven) (defBody s_L_woven) (defScope s_L_woven) .none kV29 dc29 pm29 an29 cd29 ct29), sl29⟩) (c29 : PySem.W.codeIn K cd29 "_law_woven" = true) (k29 : PySem.W.keepIn K (.ref f29) = true)
    (a30 : PySem.W.nsIn K mainGlobals "_law_same" = some (some (.ref f30))) (l30 : K.lookup f30 = some ⟨oc30, od30, .func (PySem.W.fnOf "_law_same" "_law_same" (defArgs s_L_same) (defBody s_L_same) (defScope s_L_same) .none kV30 dc30 pm30 an30 cd30 ct30), sl30⟩) (c30 : PySem.W.codeIn K cd30 "_law_same" = true) (k30 : PySem.W.keepIn K (.ref f30) = true)
    (a31 : PySem.W.nsIn K mainGlobals "_law_least" = some (some (.ref f31))) (l31 : K.lookup f31 = some ⟨oc31, od31, .func (PySem.W.fnOf "_law_least" "_law_least" (defArgs s_L_least) (defBody s_L_least) (defScope s_L_least) .none kV31 dc31 pm31 an31 cd31 ct31), sl31⟩) (c31 : PySem.W.codeIn K cd31 "_law_least" = true) (k31 : PySem.W.keepIn K (.ref f31) = true)
    (a32 : PySem.W.nsIn K mainGlobals "_law_open" = some (some (.ref f32))) (l32 : K.lookup f32 = some ⟨oc32, od32, .func (PySem.W.fnOf "_law_open" "_law_open" (defArgs s_L_open) (defBody s_L_open) (defScope s_L_open) .none kV32 dc32 pm32 an32 cd32 ct32), sl32⟩) (c32 : PySem.W.codeIn K cd32 "_law_open" = true) (k32 : PySem.W.keepIn K (.ref f32) = true)
    (a33 : PySem.W.nsIn K mainGlobals "_law_spread" = some (some (.ref f33))) (l33 : K.lookup f33 = some ⟨oc33, od33, .func (PySem.W.fnOf "_law_spread" "_law_spread" (defArgs s_L_spread) (defBody s_L_spread) (defScope s_L_spread) .none kV33 dc33 pm33 an33 cd33 ct33), sl33⟩) (c33 : PySem.W.codeIn K cd33 "_law_spread" = true) (k33 : PySem.W.keepIn K (.ref f33) = true)
    (a34 : PySem.W.nsIn K mainGlobals "_law_take" = some (some (.ref f34))) (l34 : K.lookup f34 = some ⟨oc34, od34, .func (PySem.W.fnOf "_law_take" "_law_take" (defArgs s_L_take) (defBody s_L_take) (defScope s_L_take) .none kV34 dc34 pm34 an34 cd34 ct34), sl34⟩) (c34 : PySem.W.codeIn K cd34 "_law_take" = true) (k34 : PySem.W.keepIn K (.ref f34) = true)
    (a35 : PySem.W.nsIn K mainGlobals "_law_one_of" = some (some (.ref f35))) (l35 : K.lookup f35 = some ⟨oc35, od35, .func (PySem.W.fnOf "_law_one_of" "_law_one_of" (defArgs s_L_one_of) (defBody s_L_one_of) (defScope s_L_one_of) .none kV35 dc35 pm35 an35 cd35 ct35), sl35⟩) (c35 : PySem.W.codeIn K cd35 "_law_one_of" = true) (k35 : PySem.W.keepIn K (.ref f35) = true)
    (a36 : PySem.W.nsIn K mainGlobals "_law_hours" = some (some (.ref f36))) (l36 : K.lookup f36 = some ⟨oc36, od36, .func (PySem.W.fnOf "_law_hours" "_law_hours" (defArgs s_L_hours) (defBody s_L_hours) (defScope s_L_hours) .none kV36 dc36 pm36 an36 cd36 ct36), sl36⟩) (c36 : PySem.W.codeIn K cd36 "_law_hours" = true) (k36 : PySem.W.keepIn K (.ref f36) = true)
    (a37 : PySem.W.nsIn K mainGlobals "_law_draw_weights" = some (some (.ref f37))) (l37 : K.lookup f37 = some ⟨oc37, od37, .func (PySem.W.fnOf "_law_draw_weights" "_law_draw_weights" (defArgs s_L_draw_weights) (defBody s_L_draw_weights) (defScope s_L_draw_weights) .none kV37 dc37 pm37 an37 cd37 ct37), sl37⟩) (c37 : PySem.W.codeIn K cd37 "_law_draw_weights" = true) (k37 : PySem.W.keepIn K (.ref f37) = true)
    (a38 : PySem.W.nsIn K mainGlobals "_law_draw_strings" = some (some (.ref f38))) (l38 : K.lookup f38 = some ⟨oc38, od38, .func (PySem.W.fnOf "_law_draw_strings" "_law_draw_strings" (defArgs s_L_draw_strings) (defBody s_L_draw_strings) (defScope s_L_draw_strings) .none kV38 dc38 pm38 an38 cd38 ct38), sl38⟩) (c38 : PySem.W.codeIn K cd38 "_law_draw_strings" = true) (k38 : PySem.W.keepIn K (.ref f38) = true)
    (a39 : PySem.W.nsIn K mainGlobals "_law_draw_weave" = some (some (.ref f39))) (l39 : K.lookup f39 = some ⟨oc39, od39, .func (PySem.W.fnOf "_law_draw_weave" "_law_draw_weave" (defArgs s_L_draw_weave) (defBody s_L_draw_weave) (defScope s_L_draw_weave) .none kV39 dc39 pm39 an39 cd39 ct39), sl39⟩) (c39 : PySem.W.codeIn K cd39 "_law_draw_weave" = true) (k39 : PySem.W.keepIn K (.ref f39) = true)
    (a40 : PySem.W.nsIn K mainGlobals "law" = some (some (.ref f40))) (l40 : K.lookup f40 = some ⟨oc40, od40, .func (PySem.W.fnOf "law" "law" (defArgs s_law) (defBody s_law) (defScope s_law) .none kV40 dc40 pm40 an40 cd40 ct40), sl40⟩) (c40 : PySem.W.codeIn K cd40 "law" = true) (k40 : PySem.W.keepIn K (.ref f40) = true)
    (z1 : PySem.W.nsIn K mainGlobals "len" = some none) (z2 : PySem.W.nsIn K mainGlobals "sum" = some none) (z3 : PySem.W.nsIn K mainGlobals "tuple" = some none) (z4 : PySem.W.nsIn K mainGlobals "range" = some none) (z5 : PySem.W.nsIn K mainGlobals "enumerate" = some none) (z6 : PySem.W.nsIn K mainGlobals "zip" = some none) (z7 : PySem.W.nsIn K mainGlobals "min" = some none) (z8 : PySem.W.nsIn K mainGlobals "isinstance" = some none) (z9 : PySem.W.nsIn K mainGlobals "int" = some none) (z10 : PySem.W.nsIn K mainGlobals "bool" = some none) (z11 : PySem.W.nsIn K mainGlobals "list" = some none) (z12 : PySem.W.nsIn K mainGlobals "str" = some none) :
    ∃ fd : FuncData, (∀ (s : Shared) (v : Value), BindsTo s fd ⟨[v], []⟩ [("_law_script", v)]) ∧ ∀ base : Heap, K.In base → base.Ns mainGlobals mg → FnOk l.prog w K mg base CX0 7 fa fd ["_law_script"] (SpLaw K) := by
  have e := hfa.symm.trans (PySem.W.mg_of X G a40)
  cases e
  have Z : Bz mg := ⟨PySem.W.mg_none_of X G z1, PySem.W.mg_none_of X G z2, PySem.W.mg_none_of X G z3, PySem.W.mg_none_of X G z4, PySem.W.mg_none_of X G z5, PySem.W.mg_none_of X G z6, PySem.W.mg_none_of X G z7, PySem.W.mg_none_of X G z8, PySem.W.mg_none_of X G z9, PySem.W.mg_none_of X G z10, PySem.W.mg_none_of X G z11, PySem.W.mg_none_of X G z12⟩
  have F1 := fun_mk (st := s_is_less) l1 c1 k1
  have b1 := F1.binds (ps := ["one", "other"]) fun _ _ _ _ _ _ us hl => match us, hl with | [_, _], _ => rfl
  have F2 := fun_mk (st := s_L_is_less) l2 c2 k2
  have b2 := F2.binds (ps := ["_law_one", "_law_other"]) fun _ _ _ _ _ _ us hl => match us, hl with | [_, _], _ => rfl
  have F3 := fun_mk (st := s_weight_of) l3 c3 k3
  have b3 := F3.binds (ps := ["measure", "job"]) fun _ _ _ _ _ _ us hl => match us, hl with | [_, _], _ => rfl
  have F4 := fun_mk (st := s_L_share) l4 c4 k4
  have b4 := F4.binds (ps := ["_law_measure", "_law_jobs"]) fun _ _ _ _ _ _ us hl => match us, hl with | [_, _], _ => rfl
  have F5 := fun_mk (st := s_share_of) l5 c5 k5
  have b5 := F5.binds (ps := ["measure", "some"]) fun _ _ _ _ _ _ us hl => match us, hl with | [_, _], _ => rfl
  have F6 := fun_mk (st := s_share_at) l6 c6 k6
  have b6 := F6.binds (ps := ["measure", "jobs", "block"]) fun _ _ _ _ _ _ us hl => match us, hl with | [_, _, _], _ => rfl
  have F7 := fun_mk (st := s_jobs_of_weave) l7 c7 k7
  have b7 := F7.binds (ps := ["strings", "weave"]) fun _ _ _ _ _ _ us hl => match us, hl with | [_, _], _ => rfl
  have F8 := fun_mk (st := s_L_jobs_of) l8 c8 k8
  have b8 := F8.binds (ps := ["_law_strings", "_law_weave"]) fun _ _ _ _ _ _ us hl => match us, hl with | [_, _], _ => rfl
  have F9 := fun_mk (st := s_L_weave_value) l9 c9 k9
  have b9 := F9.binds (ps := ["_law_measure", "_law_strings", "_law_start", "_law_weave"]) fun _ _ _ _ _ _ us hl => match us, hl with | [_, _, _, _], _ => rfl
  have F10 := fun_mk (st := s_runs_of_weave) l10 c10 k10
  have b10 := F10.binds (ps := ["weave"]) fun _ _ _ _ _ _ us hl => match us, hl with | [_], _ => rfl
  have F11 := fun_mk (st := s_blocks_in) l11 c11 k11
  have b11 := F11.binds (ps := ["measure", "jobs", "first", "last"]) fun _ _ _ _ _ _ us hl => match us, hl with | [_, _, _, _], _ => rfl
  have F12 := fun_mk (st := s_decided_weave) l12 c12 k12
  have b12 := F12.binds (ps := ["measure", "strings", "weave"]) fun _ _ _ _ _ _ us hl => match us, hl with | [_, _, _], _ => rfl
  have F13 := fun_mk (st := s_find_swap) l13 c13 k13
  have b13 := F13.binds (ps := ["measure", "strings", "weave"]) fun _ _ _ _ _ _ us hl => match us, hl with | [_, _, _], _ => rfl
  have F14 := fun_mk (st := s_find_parting) l14 c14 k14
  have b14 := F14.binds (ps := ["measure", "strings", "weave"]) fun _ _ _ _ _ _ us hl => match us, hl with | [_, _, _], _ => rfl
  have F15 := fun_mk (st := s_changed) l15 c15 k15
  have b15 := F15.binds (ps := ["weave", "swap"]) fun _ _ _ _ _ _ us hl => match us, hl with | [_, _], _ => rfl
  have F16 := fun_mk (st := s_L_changed) l16 c16 k16
  have b16 := F16.binds (ps := ["_law_weave", "_law_value"]) fun _ _ _ _ _ _ us hl => match us, hl with | [_, _], _ => rfl
  have F17 := fun_mk (st := s_L_cuts_of) l17 c17 k17
  have b17 := F17.binds (ps := ["_law_strings", "_law_weave", "_law_value"]) fun _ _ _ _ _ _ us hl => match us, hl with | [_, _, _], _ => rfl
  have F18 := fun_mk (st := s_cuts_of) l18 c18 k18
  have b18 := F18.binds (ps := ["strings", "weave", "parting"]) fun _ _ _ _ _ _ us hl => match us, hl with | [_, _, _], _ => rfl
  have F19 := fun_mk (st := s_L_from) l19 c19 k19
  have b19 := F19.binds (ps := ["_law_value", "_law_low"]) fun _ _ _ _ _ _ us hl => match us, hl with | [_, _], _ => rfl
  have F20 := fun_mk (st := s_L_blocks) l20 c20 k20
  have b20 := F20.binds (ps := ["_law_string", "_law_lengths"]) fun _ _ _ _ _ _ us hl => match us, hl with | [_, _], _ => rfl
  have F21 := fun_mk (st := s_L_is_cut) l21 c21 k21
  have b21 := F21.binds (ps := ["_law_measure", "_law_string", "_law_value"]) fun _ _ _ _ _ _ us hl => match us, hl with | [_, _, _], _ => rfl
  have F22 := fun_mk (st := s_L_is_cuts) l22 c22 k22
  have b22 := F22.binds (ps := ["_law_measure", "_law_strings", "_law_value"]) fun _ _ _ _ _ _ us hl => match us, hl with | [_, _, _], _ => rfl
  have F23 := fun_mk (st := s_L_is_falling) l23 c23 k23
  have b23 := F23.binds (ps := ["_law_measure", "_law_strings", "_law_value"]) fun _ _ _ _ _ _ us hl => match us, hl with | [_, _, _], _ => rfl
  have F24 := fun_mk (st := s_L_is_weave) l24 c24 k24
  have b24 := F24.binds (ps := ["_law_strings", "_law_value"]) fun _ _ _ _ _ _ us hl => match us, hl with | [_, _], _ => rfl
  have F25 := fun_mk (st := s_L_is_swap) l25 c25 k25
  have b25 := F25.binds (ps := ["_law_measure", "_law_strings", "_law_weave", "_law_value"]) fun _ _ _ _ _ _ us hl => match us, hl with | [_, _, _, _], _ => rfl
  have F26 := fun_mk (st := s_L_is_parting) l26 c26 k26
  have b26 := F26.binds (ps := ["_law_measure", "_law_strings", "_law_weave", "_law_value"]) fun _ _ _ _ _ _ us hl => match us, hl with | [_, _, _, _], _ => rfl
  have F27 := fun_mk (st := s_L_floor) l27 c27 k27
  have b27 := F27.binds (ps := ["_law_measure", "_law_strings", "_law_start", "_law_cuts"]) fun _ _ _ _ _ _ us hl => match us, hl with | [_, _, _, _], _ => rfl
  have F28 := fun_mk (st := s_L_falling_cut) l28 c28 k28
  have b28 := F28.binds (ps := ["_law_measure", "_law_string"]) fun _ _ _ _ _ _ us hl => match us, hl with | [_, _], _ => rfl
  have F29 := fun_mk (st := s_L_woven) l29 c29 k29
  have b29 := F29.binds (ps := ["_law_measure", "_law_strings", "_law_cuts"]) fun _ _ _ _ _ _ us hl => match us, hl with | [_, _, _], _ => rfl
  have F30 := fun_mk (st := s_L_same) l30 c30 k30
  have b30 := F30.binds (ps := ["_law_found", "_law_due"]) fun _ _ _ _ _ _ us hl => match us, hl with | [_, _], _ => rfl
  have F31 := fun_mk (st := s_L_least) l31 c31 k31
  have b31 := F31.binds (ps := ["_law_measure", "_law_strings", "_law_start"]) fun _ _ _ _ _ _ us hl => match us, hl with | [_, _, _], _ => rfl
  have F32 := fun_mk (st := s_L_open) l32 c32 k32
  have b32 := F32.binds (ps := ["_law_script"]) fun _ _ _ _ _ _ us hl => match us, hl with | [_], _ => rfl
  have F33 := fun_mk (st := s_L_spread) l33 c33 k33
  have b33 := F33.binds (ps := ["_law_cell", "_law_at"]) fun _ _ _ _ _ _ us hl => match us, hl with | [_, _], _ => rfl
  have F34 := fun_mk (st := s_L_take) l34 c34 k34
  have b34 := F34.binds (ps := ["_law_pen", "_law_amount"]) fun _ _ _ _ _ _ us hl => match us, hl with | [_, _], _ => rfl
  have F35 := fun_mk (st := s_L_one_of) l35 c35 k35
  have b35 := F35.binds (ps := ["_law_pen", "_law_some"]) fun _ _ _ _ _ _ us hl => match us, hl with | [_, _], _ => rfl
  have F36 := fun_mk (st := s_L_hours) l36 c36 k36
  have b36 := F36.binds (ps := ["_law_pen"]) fun _ _ _ _ _ _ us hl => match us, hl with | [_], _ => rfl
  have F37 := fun_mk (st := s_L_draw_weights) l37 c37 k37
  have b37 := F37.binds (ps := ["_law_pen"]) fun _ _ _ _ _ _ us hl => match us, hl with | [_], _ => rfl
  have F38 := fun_mk (st := s_L_draw_strings) l38 c38 k38
  have b38 := F38.binds (ps := ["_law_pen", "_law_kinds", "_law_many", "_law_most"]) fun _ _ _ _ _ _ us hl => match us, hl with | [_, _, _, _], _ => rfl
  have F39 := fun_mk (st := s_L_draw_weave) l39 c39 k39
  have b39 := F39.binds (ps := ["_law_pen", "_law_strings"]) fun _ _ _ _ _ _ us hl => match us, hl with | [_, _], _ => rfl
  have F40 := fun_mk (st := s_law) l40 c40 k40
  refine ⟨PySem.W.fnOf "law" "law" (defArgs s_law) (defBody s_law) (defScope s_law) .none kV40 dc40 pm40 an40 cd40 ct40, fun s v => .of_eq rfl, fun base _ _ => ?_⟩
  have C1 := Cal.of (P := l.prog) (w := w) (base := base) (ok_is_less F1) (PySem.W.mg_of X G a1) k1 b1
  have C2 := Cal.of (P := l.prog) (w := w) (base := base) (ok_L_is_less F2) (PySem.W.mg_of X G a2) k2 b2
  have C3 := Cal.of (P := l.prog) (w := w) (base := base) (ok_weight_of F3) (PySem.W.mg_of X G a3) k3 b3
  have C4 := Cal.of (P := l.prog) (w := w) (base := base) (ok_L_share F4 Z) (PySem.W.mg_of X G a4) k4 b4
  have C5 := Cal.of (P := l.prog) (w := w) (base := base) (ok_share_of F5 Z C3) (PySem.W.mg_of X G a5) k5 b5
  have C6 := Cal.of (P := l.prog) (w := w) (base := base) (ok_share_at F6 Z C5) (PySem.W.mg_of X G a6) k6 b6
  have C7 := Cal.of (P := l.prog) (w := w) (base := base) (ok_jobs_of_weave F7 Z) (PySem.W.mg_of X G a7) k7 b7
  have C8 := Cal.of (P := l.prog) (w := w) (base := base) (ok_L_jobs_of F8 Z) (PySem.W.mg_of X G a8) k8 b8
  have C9 := Cal.of (P := l.prog) (w := w) (base := base) (ok_L_weave_value F9 Z) (PySem.W.mg_of X G a9) k9 b9
  have C10 := Cal.of (P := l.prog) (w := w) (base := base) (ok_runs_of_weave F10 Z) (PySem.W.mg_of X G a10) k10 b10
  have C11 := Cal.of (P := l.prog) (w := w) (base := base) (ok_blocks_in F11 Z C6 C1) (PySem.W.mg_of X G a11) k11 b11
  have C12 := Cal.of (P := l.prog) (w := w) (base := base) (ok_decided_weave F12 Z C6 C1 C10 C11 C7) (PySem.W.mg_of X G a12) k12 b12
  have C13 := Cal.of (P := l.prog) (w := w) (base := base) (ok_find_swap F13 C12) (PySem.W.mg_of X G a13) k13 b13
  have C14 := Cal.of (P := l.prog) (w := w) (base := base) (ok_find_parting F14 C12) (PySem.W.mg_of X G a14) k14 b14
  have C15 := Cal.of (P := l.prog) (w := w) (base := base) (ok_changed F15) (PySem.W.mg_of X G a15) k15 b15
  have C16 := Cal.of (P := l.prog) (w := w) (base := base) (ok_L_changed F16) (PySem.W.mg_of X G a16) k16 b16
  have C17 := Cal.of (P := l.prog) (w := w) (base := base) (ok_L_cuts_of F17 Z) (PySem.W.mg_of X G a17) k17 b17
  have C18 := Cal.of (P := l.prog) (w := w) (base := base) (ok_cuts_of F18 Z) (PySem.W.mg_of X G a18) k18 b18
  have C19 := Cal.of (P := l.prog) (w := w) (base := base) (ok_L_from F19 Z) (PySem.W.mg_of X G a19) k19 b19
  have C20 := Cal.of (P := l.prog) (w := w) (base := base) (ok_L_blocks F20 Z) (PySem.W.mg_of X G a20) k20 b20
  have C21 := Cal.of (P := l.prog) (w := w) (base := base) (ok_L_is_cut F21 Z C20 C4 C2 C19) (PySem.W.mg_of X G a21) k21 b21
  have C22 := Cal.of (P := l.prog) (w := w) (base := base) (ok_L_is_cuts F22 Z C21) (PySem.W.mg_of X G a22) k22 b22
  have C23 := Cal.of (P := l.prog) (w := w) (base := base) (ok_L_is_falling F23 Z C22 C20 C4 C2) (PySem.W.mg_of X G a23) k23 b23
  have C24 := Cal.of (P := l.prog) (w := w) (base := base) (ok_L_is_weave F24 Z C19) (PySem.W.mg_of X G a24) k24 b24
  have C25 := Cal.of (P := l.prog) (w := w) (base := base) (ok_L_is_swap F25 Z C4 C2 C8 C19) (PySem.W.mg_of X G a25) k25 b25
  have C26 := Cal.of (P := l.prog) (w := w) (base := base) (ok_L_is_parting F26 Z C4 C2 C8 C19) (PySem.W.mg_of X G a26) k26 b26
  have C27 := Cal.of (P := l.prog) (w := w) (base := base) (ok_L_floor F27 Z C20 C4) (PySem.W.mg_of X G a27) k27 b27
  have C28 := Cal.of (P := l.prog) (w := w) (base := base) (ok_L_falling_cut F28 Z C2) (PySem.W.mg_of X G a28) k28 b28
  have C29 := Cal.of (P := l.prog) (w := w) (base := base) (ok_L_woven F29 Z C20 C4 C2) (PySem.W.mg_of X G a29) k29 b29
  have S0 : Cal l.prog w K mg base 0 "_law_same" ["_law_found", "_law_due"] (SpD fun _ _ => False) := no_cal (PySem.W.mg_of X G a30) k30 b30
  have S1 := Cal.of (ok_L_same F30 Z S0) (PySem.W.mg_of X G a30) k30 b30
  have S2 := Cal.of (ok_L_same F30 Z S1) (PySem.W.mg_of X G a30) k30 b30
  have C30 := Cal.of (ok_L_same F30 Z S2) (PySem.W.mg_of X G a30) k30 b30
  have C31 := Cal.of (P := l.prog) (w := w) (base := base) (ok_L_least F31 Z) (PySem.W.mg_of X G a31) k31 b31
  have C32 := Cal.of (P := l.prog) (w := w) (base := base) (ok_L_open F32 Z) (PySem.W.mg_of X G a32) k32 b32
  have C33 := Cal.of (P := l.prog) (w := w) (base := base) (ok_L_spread F33 Z) (PySem.W.mg_of X G a33) k33 b33
  have C34 := Cal.of (P := l.prog) (w := w) (base := base) (ok_L_take F34 Z C33) (PySem.W.mg_of X G a34) k34 b34
  have C35 := Cal.of (P := l.prog) (w := w) (base := base) (ok_L_one_of F35 Z C34) (PySem.W.mg_of X G a35) k35 b35
  have C36 := Cal.of (P := l.prog) (w := w) (base := base) (ok_L_hours F36 Z C34) (PySem.W.mg_of X G a36) k36 b36
  have C37 := Cal.of (P := l.prog) (w := w) (base := base) (ok_L_draw_weights F37 Z C34 C35) (PySem.W.mg_of X G a37) k37 b37
  have C38 := Cal.of (P := l.prog) (w := w) (base := base) (ok_L_draw_strings F38 Z C34 C35) (PySem.W.mg_of X G a38) k38 b38
  have C39 := Cal.of (P := l.prog) (w := w) (base := base) (ok_L_draw_weave F39 Z C35) (PySem.W.mg_of X G a39) k39 b39
  exact ok_law F40 Z C32 C37 C38 C36 C31 C28 C29 C39 C9 C13 C14 C25 C15 C16 C30 C24 C26 C18 C17 C23 C27
end KB
open PySem PySem.W PyProof.Rows
set_option maxHeartbeats 0 in
theorem PySem.Challenge.cw_keybench_k75_whole_swap_or_parting_holds : PySem.Challenge.rw_keybench_k75_whole_swap_or_parting.Holds := by
  w_on; o_law; k_head; (case hw => w_witness2)
  k_fill
  refine L2.walk_of (l := PySem.Challenge.rw_keybench_k75_whole_swap_or_parting) (n := 63) (k := 7) (x := "_law_script") (CX := fun _ => L2.CX0) (sp := fun w => KB.SpLaw _) rfl (by decide) rfl ⟨rfl, by decide, by decide⟩ (fun w h Y => PySem.W.kIn_of Y) ?F (fun _ _ a ns hl _ hS => ⟨a, ns, rfl, hS, hl, fun _ => rfl⟩) (fun _ _ _ _ _ h => h)
  case F =>
    intro w mg fa h KX G hmg
    refine' KB.all_mk KX G hmg ?a1 ?l1 ?c1 ?k1 ?a2 ?l2 ?c2 ?k2 ?a3 ?l3 ?c3 ?k3 ?a4 ?l4 ?c4 ?k4 ?a5 ?l5 ?c5 ?k5 ?a6 ?l6 ?c6 ?k6 ?a7 ?l7 ?c7 ?k7 ?a8 ?l8 ?c8 ?k8 ?a9 ?l9 ?c9 ?k9 ?a10 ?l10 ?c10 ?k10 ?a11 ?l11 ?c11 ?k11 ?a12 ?l12 ?c12 ?k12 ?a13 ?l13 ?c13 ?k13 ?a14 ?l14 ?c14 ?k14 ?a15 ?l15 ?c15 ?k15 ?a16 ?l16 ?c16 ?k16 ?a17 ?l17 ?c17 ?k17 ?a18 ?l18 ?c18 ?k18 ?a19 ?l19 ?c19 ?k19 ?a20 ?l20 ?c20 ?k20 ?a21 ?l21 ?c21 ?k21 ?a22 ?l22 ?c22 ?k22 ?a23 ?l23 ?c23 ?k23 ?a24 ?l24 ?c24 ?k24 ?a25 ?l25 ?c25 ?k25 ?a26 ?l26 ?c26 ?k26 ?a27 ?l27 ?c27 ?k27 ?a28 ?l28 ?c28 ?k28 ?a29 ?l29 ?c29 ?k29 ?a30 ?l30 ?c30 ?k30 ?a31 ?l31 ?c31 ?k31 ?a32 ?l32 ?c32 ?k32 ?a33 ?l33 ?c33 ?k33 ?a34 ?l34 ?c34 ?k34 ?a35 ?l35 ?c35 ?k35 ?a36 ?l36 ?c36 ?k36 ?a37 ?l37 ?c37 ?k37 ?a38 ?l38 ?c38 ?k38 ?a39 ?l39 ?c39 ?k39 ?a40 ?l40 ?c40 ?k40 ?z1 ?z2 ?z3 ?z4 ?z5 ?z6 ?z7 ?z8 ?z9 ?z10 ?z11 ?z12
    (case a1 => k_is); (case l1 => k_is); (case c1 => k_is); (case k1 => k_is); (case a2 => k_is); (case l2 => k_is); (case c2 => k_is); (case k2 => k_is); (case a3 => k_is); (case l3 => k_is); (case c3 => k_is); (case k3 => k_is); (case a4 => k_is); (case l4 => k_is); (case c4 => k_is); (case k4 => k_is); (case a5 => k_is); (case l5 => k_is); (case c5 => k_is); (case k5 => k_is); (case a6 => k_is); (case l6 => k_is); (case c6 => k_is); (case k6 => k_is); (case a7 => k_is); (case l7 => k_is); (case c7 => k_is); (case k7 => k_is); (case a8 => k_is); (case l8 => k_is); (case c8 => k_is); (case k8 => k_is); (case a9 => k_is); (case l9 => k_is); (case c9 => k_is); (case k9 => k_is); (case a10 => k_is); (case l10 => k_is); (case c10 => k_is); (case k10 => k_is); (case a11 => k_is); (case l11 => k_is); (case c11 => k_is); (case k11 => k_is); (case a12 => k_is); (case l12 => k_is); (case c12 => k_is); (case k12 => k_is); (case a13 => k_is); (case l13 => k_is); (case c13 => k_is); (case k13 => k_is); (case a14 => k_is); (case l14 => k_is); (case c14 => k_is); (case k14 => k_is); (case a15 => k_is); (case l15 => k_is); (case c15 => k_is); (case k15 => k_is); (case a16 => k_is); (case l16 => k_is); (case c16 => k_is); (case k16 => k_is); (case a17 => k_is); (case l17 => k_is); (case c17 => k_is); (case k17 => k_is); (case a18 => k_is); (case l18 => k_is); (case c18 => k_is); (case k18 => k_is); (case a19 => k_is); (case l19 => k_is); (case c19 => k_is); (case k19 => k_is); (case a20 => k_is); (case l20 => k_is); (case c20 => k_is); (case k20 => k_is); (case a21 => k_is); (case l21 => k_is); (case c21 => k_is); (case k21 => k_is); (case a22 => k_is); (case l22 => k_is); (case c22 => k_is); (case k22 => k_is); (case a23 => k_is); (case l23 => k_is); (case c23 => k_is); (case k23 => k_is); (case a24 => k_is); (case l24 => k_is); (case c24 => k_is); (case k24 => k_is); (case a25 => k_is); (case l25 => k_is); (case c25 => k_is); (case k25 => k_is); (case a26 => k_is); (case l26 => k_is); (case c26 => k_is); (case k26 => k_is); (case a27 => k_is); (case l27 => k_is); (case c27 => k_is); (case k27 => k_is); (case a28 => k_is); (case l28 => k_is); (case c28 => k_is); (case k28 => k_is); (case a29 => k_is); (case l29 => k_is); (case c29 => k_is); (case k29 => k_is); (case a30 => k_is); (case l30 => k_is); (case c30 => k_is); (case k30 => k_is); (case a31 => k_is); (case l31 => k_is); (case c31 => k_is); (case k31 => k_is); (case a32 => k_is); (case l32 => k_is); (case c32 => k_is); (case k32 => k_is); (case a33 => k_is); (case l33 => k_is); (case c33 => k_is); (case k33 => k_is); (case a34 => k_is); (case l34 => k_is); (case c34 => k_is); (case k34 => k_is); (case a35 => k_is); (case l35 => k_is); (case c35 => k_is); (case k35 => k_is); (case a36 => k_is); (case l36 => k_is); (case c36 => k_is); (case k36 => k_is); (case a37 => k_is); (case l37 => k_is); (case c37 => k_is); (case k37 => k_is); (case a38 => k_is); (case l38 => k_is); (case c38 => k_is); (case k38 => k_is); (case a39 => k_is); (case l39 => k_is); (case c39 => k_is); (case k39 => k_is); (case a40 => k_is); (case l40 => k_is); (case c40 => k_is); (case k40 => k_is); (case z1 => k_is); (case z2 => k_is); (case z3 => k_is); (case z4 => k_is); (case z5 => k_is); (case z6 => k_is); (case z7 => k_is); (case z8 => k_is); (case z9 => k_is); (case z10 => k_is); (case z11 => k_is); (case z12 => k_is)
