import PyProof.Rows.All
import Wide.All
import OpenK.AllK
import Wide.FinOn
import HandS.ForMost
import HandS.Evl
import HandS.Deep
import HandS.IsInst
import HandS.Rev
import HandS.TupLe
import HandS.ForExc
import HandS.ExcIs
import HandS.ExcCtx
import HandS.Hot
import HandS.HotCalls
import KE.RegKIsAll
import PySem.Challenge.RW_drafthall_k09_drafts_beside
set_option Elab.async false
set_option linter.all false
set_option maxRecDepth 100000
set_option maxHeartbeats 4000000
/-! Readings over plain data: what an expression of the layer tells, without the heap in sight. -/
namespace DF
open PySem L2 Evl

/-! ### data at an address: all lists tracked -/
mutual
inductive Tp (H : Hp) : V → PyData → Prop
  | non : Tp H .non .none
  | bl (b : Bool) : Tp H (.bl b) (.bool b)
  | int (i : Int) : Tp H (.int i) (.int i)
  | str (x : Str) : Tp H (.str x) (.str x)
  | lst {a : Addr} {xs : List V} {ds : List PyData} : H a = some (.lst xs) → TpAll H xs ds → Tp H (.ref a) (.list ds)
  | tup {a : Addr} {xs : List V} {ds : List PyData} : H a = some (.tup xs) → TpAll H xs ds → Tp H (.ref a) (.tuple ds)
  | dic {a : Addr} : H a = some (.dK []) → Tp H (.ref a) (.dict [])
inductive TpAll (H : Hp) : List V → List PyData → Prop
  | nil : TpAll H [] []
  | cons {v : V} {vs : List V} {d : PyData} {ds : List PyData} : Tp H v d → TpAll H vs ds → TpAll H (v :: vs) (d :: ds)
end
mutual
theorem Tp.mono {H H' : Hp} (e : Ex H H') : ∀ {v : V} {d : PyData}, Tp H v d → Tp H' v d
  | _, _, .non => .non
  | _, _, .bl b => .bl b
  | _, _, .int i => .int i
  | _, _, .str x => .str x
  | _, _, .lst h t => .lst (e _ _ h) (TpAll.mono e t)
  | _, _, .tup h t => .tup (e _ _ h) (TpAll.mono e t)
  | _, _, .dic h => .dic (e _ _ h)
theorem TpAll.mono {H H' : Hp} (e : Ex H H') : ∀ {vs : List V} {ds : List PyData}, TpAll H vs ds → TpAll H' vs ds
  | _, _, .nil => .nil
  | _, _, .cons h t => .cons (Tp.mono e h) (TpAll.mono e t)
end
mutual
theorem Tp.dp {K : PySem.W.Frag} {H : Hp} : ∀ {v : V} {d : PyData}, Tp H v d → d.canLay0 = true → Dp K H v d
  | _, _, .non, _ => .non
  | _, _, .bl b, _ => .bl b
  | _, _, .int i, _ => .int i
  | _, _, .str x, _ => .str x
  | _, _, .lst h t, c => .lst (SqL.of h) (TpAll.dp t (by simpa only [PyData.canLay0] using c))
  | _, _, .tup h t, c => .tup (SqT.of h) (TpAll.dp t (by simpa only [PyData.canLay0] using c))
  | _, _, .dic h, c => by simp [PyData.canLay0] at c
theorem TpAll.dp {K : PySem.W.Frag} {H : Hp} : ∀ {vs : List V} {ds : List PyData}, TpAll H vs ds → PyData.canLayAll0 ds = true → DpAll K H vs ds
  | _, _, .nil, _ => .nil
  | _, _, .cons h t, c => by
    simp only [PyData.canLayAll0, Bool.and_eq_true] at c
    exact .cons (Tp.dp h c.1) (TpAll.dp t c.2)
end
theorem TpAll.len {H : Hp} : ∀ {vs : List V} {ds : List PyData}, TpAll H vs ds → vs.length = ds.length
  | _, _, .nil => rfl
  | _, _, .cons _ t => by simp only [List.length_cons]; rw [TpAll.len t]
theorem TpAll.get {H : Hp} : ∀ {vs : List V} {ds : List PyData} {i : Nat} {d : PyData}, TpAll H vs ds → ds[i]? = some d → ∃ v, vs[i]? = some v ∧ Tp H v d
  | _, _, _, _, .nil, e => by simp at e
  | _, _, 0, _, .cons h _, e => by simp at e; subst e; exact ⟨_, rfl, h⟩
  | _, _, i + 1, d, .cons _ t, e => by
    obtain ⟨v, h1, h2⟩ := TpAll.get (i := i) (d := d) t (by simpa using e)
    exact ⟨v, by simpa using h1, h2⟩
theorem TpAll.getV {H : Hp} : ∀ {vs : List V} {ds : List PyData} {i : Nat} {v : V}, TpAll H vs ds → vs[i]? = some v → ∃ d, ds[i]? = some d ∧ Tp H v d
  | _, _, _, _, .nil, e => by simp at e
  | _, _, 0, _, .cons h _, e => by simp at e; subst e; exact ⟨_, rfl, h⟩
  | _, _, i + 1, v, .cons _ t, e => by
    obtain ⟨d, h1, h2⟩ := TpAll.getV (i := i) (v := v) t (by simpa using e)
    exact ⟨d, by simpa using h1, h2⟩
theorem TpAll.snoc {H : Hp} {v : V} {d : PyData} (h : Tp H v d) : ∀ {vs : List V} {ds : List PyData}, TpAll H vs ds → TpAll H (vs ++ [v]) (ds ++ [d])
  | _, _, .nil => .cons h .nil
  | _, _, .cons g t => .cons g (TpAll.snoc h t)
theorem TpAll.append {H : Hp} {ws : List V} {es : List PyData} (h : TpAll H ws es) : ∀ {vs : List V} {ds : List PyData}, TpAll H vs ds → TpAll H (vs ++ ws) (ds ++ es)
  | _, _, .nil => h
  | _, _, .cons g t => .cons g (TpAll.append h t)
theorem TpAll.take {H : Hp} : ∀ (n : Nat) {vs : List V} {ds : List PyData}, TpAll H vs ds → TpAll H (vs.take n) (ds.take n)
  | 0, _, _, _ => .nil
  | _ + 1, _, _, .nil => .nil
  | n + 1, _, _, .cons g t => .cons g (TpAll.take n t)
theorem TpAll.drop {H : Hp} : ∀ (n : Nat) {vs : List V} {ds : List PyData}, TpAll H vs ds → TpAll H (vs.drop n) (ds.drop n)
  | 0, _, _, h => h
  | _ + 1, _, _, .nil => .nil
  | n + 1, _, _, .cons _ t => TpAll.drop n t
theorem TpAll.set {H : Hp} {v : V} {d : PyData} (h : Tp H v d) : ∀ (i : Nat) {vs : List V} {ds : List PyData}, TpAll H vs ds → TpAll H (vs.set i v) (ds.set i d)
  | _, _, _, .nil => .nil
  | 0, _, _, .cons _ t => .cons h t
  | i + 1, _, _, .cons g t => .cons g (TpAll.set h i t)

/-! ### data of one's own: its lists, each once -/
mutual
inductive Own (H : Hp) : V → PyData → List Addr → Prop
  | non : Own H .non .none []
  | bl (b : Bool) : Own H (.bl b) (.bool b) []
  | int (i : Int) : Own H (.int i) (.int i) []
  | str (x : Str) : Own H (.str x) (.str x) []
  | lst {a : Addr} {xs : List V} {ds : List PyData} {F : List Addr} : H a = some (.lst xs) → OwnAll H xs ds F → a ∉ F → Own H (.ref a) (.list ds) (a :: F)
  | tup {a : Addr} {xs : List V} {ds : List PyData} {F : List Addr} : H a = some (.tup xs) → OwnAll H xs ds F → Own H (.ref a) (.tuple ds) F
inductive OwnAll (H : Hp) : List V → List PyData → List Addr → Prop
  | nil : OwnAll H [] [] []
  | cons {v : V} {vs : List V} {d : PyData} {ds : List PyData} {F G : List Addr} : Own H v d F → OwnAll H vs ds G → (∀ a ∈ F, a ∉ G) → OwnAll H (v :: vs) (d :: ds) (F ++ G)
end
mutual
theorem Own.mono {H H' : Hp} (e : Ex H H') : ∀ {v : V} {d : PyData} {F : List Addr}, Own H v d F → Own H' v d F
  | _, _, _, .non => .non
  | _, _, _, .bl b => .bl b
  | _, _, _, .int i => .int i
  | _, _, _, .str x => .str x
  | _, _, _, .lst h t n => .lst (e _ _ h) (OwnAll.mono e t) n
  | _, _, _, .tup h t => .tup (e _ _ h) (OwnAll.mono e t)
theorem OwnAll.mono {H H' : Hp} (e : Ex H H') : ∀ {vs : List V} {ds : List PyData} {F : List Addr}, OwnAll H vs ds F → OwnAll H' vs ds F
  | _, _, _, .nil => .nil
  | _, _, _, .cons h t n => .cons (Own.mono e h) (OwnAll.mono e t) n
end
mutual
theorem Own.tp {H : Hp} : ∀ {v : V} {d : PyData} {F : List Addr}, Own H v d F → Tp H v d
  | _, _, _, .non => .non
  | _, _, _, .bl b => .bl b
  | _, _, _, .int i => .int i
  | _, _, _, .str x => .str x
  | _, _, _, .lst h t _ => .lst h (OwnAll.tp t)
  | _, _, _, .tup h t => .tup h (OwnAll.tp t)
theorem OwnAll.tp {H : Hp} : ∀ {vs : List V} {ds : List PyData} {F : List Addr}, OwnAll H vs ds F → TpAll H vs ds
  | _, _, _, .nil => .nil
  | _, _, _, .cons h t _ => .cons (Own.tp h) (OwnAll.tp t)
end
mutual
theorem Own.at_ {H : Hp} : ∀ {v : V} {d : PyData} {F : List Addr}, Own H v d F → ∀ a ∈ F, ∃ xs, H a = some (.lst xs)
  | _, _, _, .non, _, h => by cases h
  | _, _, _, .bl _, _, h => by cases h
  | _, _, _, .int _, _, h => by cases h
  | _, _, _, .str _, _, h => by cases h
  | _, _, _, .lst g t _, a, h => by
    rcases List.mem_cons.mp h with rfl | h
    · exact ⟨_, g⟩
    · exact OwnAll.at_ t a h
  | _, _, _, .tup _ t, a, h => OwnAll.at_ t a h
theorem OwnAll.at_ {H : Hp} : ∀ {vs : List V} {ds : List PyData} {F : List Addr}, OwnAll H vs ds F → ∀ a ∈ F, ∃ xs, H a = some (.lst xs)
  | _, _, _, .nil, _, h => by cases h
  | _, _, _, .cons g t _, a, h => by
    rcases List.mem_append.mp h with h | h
    · exact Own.at_ g a h
    · exact OwnAll.at_ t a h
end
mutual
theorem Own.off {H : Hp} {b : Addr} {ys : List V} {o : HO} (hb : H b = some (.lst ys)) : ∀ {v : V} {d : PyData} {F : List Addr}, Own H v d F → b ∉ F → Own (upd H b o) v d F
  | _, _, _, .non, _ => .non
  | _, _, _, .bl b, _ => .bl b
  | _, _, _, .int i, _ => .int i
  | _, _, _, .str x, _ => .str x
  | _, _, _, .lst (a := a) (xs := xs) h t n, q => .lst (by rw [upd_ne (fun z => q (by rw [z]; exact List.mem_cons_self))]; exact h) (OwnAll.off hb t fun z => q (List.mem_cons_of_mem _ z)) n
  | _, _, _, .tup (a := a) (xs := xs) h t, q => .tup (by rw [upd_ne (fun z => by rw [z, hb] at h; cases h)]; exact h) (OwnAll.off hb t q)
theorem OwnAll.off {H : Hp} {b : Addr} {ys : List V} {o : HO} (hb : H b = some (.lst ys)) : ∀ {vs : List V} {ds : List PyData} {F : List Addr}, OwnAll H vs ds F → b ∉ F → OwnAll (upd H b o) vs ds F
  | _, _, _, .nil, _ => .nil
  | _, _, _, .cons h t n, q => .cons (Own.off hb h fun z => q (List.mem_append_left _ z)) (OwnAll.off hb t fun z => q (List.mem_append_right _ z)) n
end
theorem OwnAll.snoc {H : Hp} {v : V} {d : PyData} {G : List Addr} (h : Own H v d G) : ∀ {vs : List V} {ds : List PyData} {F : List Addr}, OwnAll H vs ds F → (∀ a ∈ F, a ∉ G) → OwnAll H (vs ++ [v]) (ds ++ [d]) (F ++ G)
  | _, _, _, .nil, _ => by
    have := OwnAll.cons h .nil (fun a _ z => nomatch z)
    simpa using this
  | _, _, _, .cons (F := A) (G := B) g t n, q => by
    have := OwnAll.cons g (OwnAll.snoc h t fun a ha => q a (List.mem_append_right _ ha)) (fun a ha hm => by
      rcases List.mem_append.mp hm with z | z
      · exact n a ha z
      · exact q a (List.mem_append_left _ ha) z)
    simpa [List.append_assoc] using this
theorem OwnAll.append {H : Hp} {ws : List V} {es : List PyData} {G : List Addr} (h : OwnAll H ws es G) : ∀ {vs : List V} {ds : List PyData} {F : List Addr}, OwnAll H vs ds F → (∀ a ∈ F, a ∉ G) → OwnAll H (vs ++ ws) (ds ++ es) (F ++ G)
  | _, _, _, .nil, _ => h
  | _, _, _, .cons (F := A) (G := B) g t n, q => by
    have := OwnAll.cons g (OwnAll.append h t fun a ha => q a (List.mem_append_right _ ha)) (fun a ha hm => by
      rcases List.mem_append.mp hm with z | z
      · exact n a ha z
      · exact q a (List.mem_append_left _ ha) z)
    simpa [List.append_assoc] using this
theorem OwnAll.len {H : Hp} {vs : List V} {ds : List PyData} {F : List Addr} (h : OwnAll H vs ds F) : vs.length = ds.length := h.tp.len

/-- new since H0, and one's own -/
def New (H0 H : Hp) (v : V) (d : PyData) : Prop := ∃ F, Own H v d F ∧ ∀ a ∈ F, H0 a = none
theorem New.tp {H0 H : Hp} {v : V} {d : PyData} : New H0 H v d → Tp H v d := fun ⟨_, h, _⟩ => h.tp
theorem New.mono {H0 H H' : Hp} {v : V} {d : PyData} (e : Ex H H') : New H0 H v d → New H0 H' v d := fun ⟨F, h, n⟩ => ⟨F, h.mono e, n⟩
theorem New.back {H0 H1 H : Hp} {v : V} {d : PyData} (e : Ex H0 H1) : New H1 H v d → New H0 H v d := fun ⟨F, h, n⟩ => ⟨F, h, fun a ha => fresh_back e (n a ha)⟩

/-! ### what a slot holds -/
inductive Ent where
  | d (d : PyData)
  | scr (ns : List Int)
  | is (w : V)
def Rep (K : PySem.W.Frag) (H : Hp) (v : V) : Ent → Prop
  | .d d => Tp H v d
  | .scr ns => ∃ a, v = .ref a ∧ SqL K H a (ns.map V.int)
  | .is w => v = w
abbrev Rho := List (Option Ent)
section
variable {K : PySem.W.Frag} {H H' H1 : Hp} {σ : L2.St} {ρ : Rho}
theorem Rep.mono {v : V} (e : Ex H H') : ∀ {z : Ent}, Rep K H v z → Rep K H' v z
  | .d _, h => Tp.mono e h
  | .scr _, ⟨a, h1, h2⟩ => ⟨a, h1, ex_l e h2⟩
  | .is _, h => h
def Env (K : PySem.W.Frag) (H : Hp) (σ : L2.St) (ρ : Rho) : Prop := σ.length = ρ.length ∧ ∀ (i : Nat) (z : Ent), ρ[i]? = some (some z) → ∃ v, σ[i]? = some (some v) ∧ Rep K H v z
theorem Env.mono (e : Ex H H') (h : Env K H σ ρ) : Env K H' σ ρ := ⟨h.1, fun i z q => let ⟨v, h1, h2⟩ := h.2 i z q; ⟨v, h1, h2.mono e⟩⟩
theorem Env.nil : Env K H [] [] := ⟨rfl, fun i z q => by simp at q⟩
theorem Env.cons {v : V} {z : Ent} (r : Rep K H v z) (h : Env K H σ ρ) : Env K H (some v :: σ) (some z :: ρ) := ⟨by simp [h.1], fun i z' q => by
  cases i with
  | zero => simp at q; subst q; exact ⟨v, rfl, r⟩
  | succ i => simp at q; obtain ⟨u, h1, h2⟩ := h.2 i z' q; exact ⟨u, by simpa using h1, h2⟩⟩
theorem Env.skip {x : Option V} (h : Env K H σ ρ) : Env K H (x :: σ) (none :: ρ) := ⟨by simp [h.1], fun i z' q => by
  cases i with
  | zero => simp at q
  | succ i => simp at q; obtain ⟨u, h1, h2⟩ := h.2 i z' q; exact ⟨u, by simpa using h1, h2⟩⟩
theorem Env.set {v : V} {z : Ent} (i : Nat) (h : Env K H σ ρ) (r : Rep K H v z) : Env K H (σ.set i (some v)) (ρ.set i (some z)) := ⟨by simp [h.1], fun j z' q => by
  by_cases e : i = j
  · subst e
    by_cases hi : i < ρ.length
    · rw [List.getElem?_set_self hi] at q
      cases q
      exact ⟨v, by rw [List.getElem?_set_self (by rw [h.1]; exact hi)], r⟩
    · rw [List.getElem?_eq_none (by simpa using hi)] at q; cases q
  · rw [List.getElem?_set_ne e] at q ⊢
    exact h.2 j z' q⟩
theorem Env.drop {x : Option V} (i : Nat) (h : Env K H σ ρ) : Env K H (σ.set i x) (ρ.set i none) := ⟨by simp [h.1], fun j z' q => by
  by_cases e : i = j
  · subst e
    by_cases hi : i < ρ.length
    · rw [List.getElem?_set_self hi] at q; cases q
    · rw [List.getElem?_eq_none (by simpa using hi)] at q; cases q
  · rw [List.getElem?_set_ne e] at q ⊢
    exact h.2 j z' q⟩
def wipeR (ρ : Rho) : List Nat → Rho
  | [] => ρ
  | v :: vs => (wipeR ρ vs).set v none
theorem Env.wipe (h : Env K H σ ρ) : ∀ vs : List Nat, Env K H (L2.wipe σ vs) (wipeR ρ vs)
  | [] => h
  | v :: vs => (Env.wipe h vs).drop v
/-- a weaker knowledge -/
def Sub (ρ' ρ : Rho) : Prop := ρ'.length = ρ.length ∧ ∀ (i : Nat) (z : Ent), ρ'[i]? = some (some z) → ρ[i]? = some (some z)
theorem Env.sub {ρ' : Rho} (h : Env K H σ ρ) (s : Sub ρ' ρ) : Env K H σ ρ' := ⟨by rw [h.1]; exact s.1.symm, fun i z q => h.2 i z (s.2 i z q)⟩
theorem wipe_set_self {σ : L2.St} {j : Nat} {x : Option V} : ∀ {vs : List Nat}, j ∈ vs → L2.wipe (σ.set j x) vs = L2.wipe σ vs
  | [], h => by cases h
  | v :: vs, h => by
    unfold L2.wipe
    by_cases e : j = v
    · subst e
      by_cases hm : j ∈ vs
      · rw [wipe_set_self hm]
      · have aux : ∀ (ws : List Nat), j ∉ ws → L2.wipe (σ.set j x) ws = (L2.wipe σ ws).set j x := by
          intro ws
          induction ws with
          | nil => intro _; rfl
          | cons w ws ih =>
            intro hn
            simp only [List.mem_cons, not_or] at hn
            unfold L2.wipe
            rw [ih hn.2, List.set_comm _ _ hn.1]
        rw [aux vs hm, List.set_set]
    · rcases List.mem_cons.mp h with z | z
      · exact absurd z e
      · rw [wipe_set_self z]
theorem wipe_wipe {σ : L2.St} (vs : List Nat) : L2.wipe (L2.wipe σ vs) vs = L2.wipe σ vs := by
  have aux : ∀ (us : List Nat), (∀ u ∈ us, u ∈ vs) → L2.wipe (L2.wipe σ us) vs = L2.wipe σ vs := by
    intro us
    induction us with
    | nil => intro _; rfl
    | cons u us ih =>
      intro h
      show L2.wipe ((L2.wipe σ us).set u none) vs = _
      rw [wipe_set_self (h u List.mem_cons_self), ih fun z hz => h z (List.mem_cons_of_mem _ hz)]
  exact aux vs fun _ h => h
theorem wipe_back {σ : L2.St} {j : Nat} {x : Option V} {vs : List Nat} (h : j ∈ vs) : L2.wipe ((L2.wipe σ vs).set j x) vs = L2.wipe σ vs := by
  rw [wipe_set_self h, wipe_wipe]
end

/-! ### judgements -/
def VE (K : PySem.W.Frag) (te : TE) (ρ : Rho) (z : Ent) : Prop := ∀ σ H, Env K H σ ρ → ∀ Q : VK, (∀ v H', Ex H H' → Rep K H' v z → Q v H') → te σ H Q
abbrev VD (K : PySem.W.Frag) (te : TE) (ρ : Rho) (d : PyData) : Prop := VE K te ρ (.d d)
def VN (K : PySem.W.Frag) (te : TE) (ρ : Rho) (d : PyData) : Prop := ∀ σ H, Env K H σ ρ → ∀ Q : VK, (∀ v H', Ex H H' → New H H' v d → Q v H') → te σ H Q
/-- the value stands where the slots' values stand -/
def VS (K : PySem.W.Frag) (te : TE) (ρ : Rho) (d : PyData) : Prop := ∀ σ H H1, Env K H σ ρ → Ex H H1 → ∀ Q : VK, (∀ v H', Ex H1 H' → Tp H v d → Q v H') → te σ H1 Q
def VT (K : PySem.W.Frag) (tt : TT) (ρ : Rho) (b : Bool) : Prop := ∀ σ H, Env K H σ ρ → ∀ Q : Bool → Hp → Prop, (∀ H', Ex H H' → Q b H') → tt σ H Q
inductive RepAll (K : PySem.W.Frag) (H : Hp) : List V → List Ent → Prop
  | nil : RepAll K H [] []
  | cons {v : V} {vs : List V} {z : Ent} {zs : List Ent} : Rep K H v z → RepAll K H vs zs → RepAll K H (v :: vs) (z :: zs)
theorem RepAll.mono {K : PySem.W.Frag} {H H' : Hp} (e : Ex H H') : ∀ {vs : List V} {zs : List Ent}, RepAll K H vs zs → RepAll K H' vs zs
  | _, _, .nil => .nil
  | _, _, .cons h t => .cons (h.mono e) (RepAll.mono e t)
theorem RepAll.len {K : PySem.W.Frag} {H : Hp} : ∀ {vs : List V} {zs : List Ent}, RepAll K H vs zs → vs.length = zs.length
  | _, _, .nil => rfl
  | _, _, .cons _ t => by simp only [List.length_cons]; rw [RepAll.len t]
theorem RepAll.tp {K : PySem.W.Frag} {H : Hp} : ∀ {ds : List PyData} {vs : List V}, RepAll K H vs (ds.map Ent.d) → TpAll H vs ds
  | [], _, h => by cases h; exact .nil
  | d :: ds, _, h => by
    cases h with
    | cons h1 h2 => exact .cons h1 (RepAll.tp h2)
def AE (K : PySem.W.Frag) (ta : TA) (ρ : Rho) (zs : List Ent) : Prop := ∀ σ H, Env K H σ ρ → ∀ Q : List V → Hp → Prop, (∀ vs H', Ex H H' → RepAll K H' vs zs → Q vs H') → ta σ H Q
def AN (K : PySem.W.Frag) (ta : TA) (ρ : Rho) (ds : List PyData) : Prop := ∀ σ H, Env K H σ ρ → ∀ Q : List V → Hp → Prop, (∀ vs H', Ex H H' → (∃ F, OwnAll H' vs ds F ∧ ∀ a ∈ F, H a = none) → Q vs H') → ta σ H Q

section
variable {K : PySem.W.Frag} {ρ : Rho} {te ta tb tc : TE} {tt tu : TT} {d e : PyData} {z : Ent} {b c : Bool}
theorem VN.toD (h : VN K te ρ d) : VD K te ρ d := fun σ H n Q q => h σ H n Q fun v H' e w => q v H' e w.tp
/-- a value that holds no list -/
def plain : PyData → Bool
  | .none => true
  | .bool _ => true
  | .int _ => true
  | .str _ => true
  | _ => false
theorem Tp.plain {H H' : Hp} {v : V} {d : PyData} (h : Tp H v d) (p : plain d = true) : Own H' v d [] := by
  cases h with
  | non => exact .non
  | bl b => exact .bl b
  | int i => exact .int i
  | str x => exact .str x
  | lst _ _ => cases p
  | tup _ _ => cases p
  | dic _ => cases p
theorem VD.toN (h : VD K te ρ d) (p : plain d = true) : VN K te ρ d := fun σ H n Q q => h σ H n Q fun v H' e w => q v H' e ⟨[], Tp.plain w p, fun _ z => nomatch z⟩
theorem VD.toS (h : VD K te ρ d) (p : DF.plain d = true) : VS K te ρ d := fun σ H H1 n e Q q => h σ H1 (n.mono e) Q fun v H' e' w => q v H' e' (Tp.plain (H' := H) w p).tp
theorem VS.toD (h : VS K te ρ d) : VD K te ρ d := fun σ H n Q q => h σ H H n (Ex.refl H) Q fun v H' e w => q v H' e (Tp.mono e w)
theorem v_var {i : Nat} (h : ρ[i]? = some (some z)) : VE K (tVar i) ρ z := fun σ H n Q q => by
  obtain ⟨v, h1, h2⟩ := n.2 i z h
  exact ⟨v, h1, q v H (Ex.refl H) h2⟩
theorem s_var {i : Nat} (h : ρ[i]? = some (some (.d d))) : VS K (tVar i) ρ d := fun σ H H1 n e Q q => by
  obtain ⟨v, h1, h2⟩ := n.2 i _ h
  exact ⟨v, h1, q v H1 (Ex.refl H1) h2⟩
theorem v_int {i : Int} : VD K (tC (.int i)) ρ (.int i) := fun σ H n Q q => q _ H (Ex.refl H) (.int i)
theorem v_bl {i : Bool} : VD K (tC (.bl i)) ρ (.bool i) := fun σ H n Q q => q _ H (Ex.refl H) (.bl i)
theorem v_non : VD K (tC .non) ρ .none := fun σ H n Q q => q _ H (Ex.refl H) .non
theorem v_str {i : Str} : VD K (tC (.str i)) ρ (.str i) := fun σ H n Q q => q _ H (Ex.refl H) (.str i)
theorem VE.eq {z' : Ent} (h : VE K te ρ z) (e : z = z') : VE K te ρ z' := e ▸ h
theorem VN.eq (h : VN K te ρ d) (q : d = e) : VN K te ρ e := q ▸ h
theorem VT.eq (h : VT K tt ρ b) (q : b = c) : VT K tt ρ c := q ▸ h
theorem VE.sub {ρ' : Rho} (s : Sub ρ' ρ) (h : VE K te ρ' z) : VE K te ρ z := fun σ H n Q q => h σ H (n.sub s) Q q
theorem VN.sub {ρ' : Rho} (s : Sub ρ' ρ) (h : VN K te ρ' d) : VN K te ρ d := fun σ H n Q q => h σ H (n.sub s) Q q

/-- two operands one after another -/
theorem v_two {r : R2} {x y : Ent} (ha : VE K ta ρ x) (hb : VE K tb ρ y)
    (hr : ∀ H u v (Q : VK), Rep K H u x → Rep K H v y → (∀ w H', Ex H H' → Rep K H' w z → Q w H') → r u v H Q) : VE K (tOp r ta tb) ρ z := fun σ H n Q q =>
  ha σ H n _ fun u H1 e1 r1 => hb σ H1 (n.mono e1) _ fun v H2 e2 r2 => hr H2 u v Q (r1.mono e2) r2 fun w H3 e3 r3 => q w H3 ((e1.trans e2).trans e3) r3
theorem n_two {r : R2} {x y : Ent} (ha : VE K ta ρ x) (hb : VE K tb ρ y)
    (hr : ∀ H u v (Q : VK), Rep K H u x → Rep K H v y → (∀ w H', Ex H H' → New H H' w d → Q w H') → r u v H Q) : VN K (tOp r ta tb) ρ d := fun σ H n Q q =>
  ha σ H n _ fun u H1 e1 r1 => hb σ H1 (n.mono e1) _ fun v H2 e2 r2 => hr H2 u v Q (r1.mono e2) r2 fun w H3 e3 r3 => q w H3 ((e1.trans e2).trans e3) (r3.back (e1.trans e2))
theorem Tp.int_inv {H : Hp} {v : V} {i : Int} (h : Tp H v (.int i)) : v = .int i := by cases h; rfl
theorem Tp.bl_inv {H : Hp} {v : V} {i : Bool} (h : Tp H v (.bool i)) : v = .bl i := by cases h; rfl
theorem Tp.str_inv {H : Hp} {v : V} {i : Str} (h : Tp H v (.str i)) : v = .str i := by cases h; rfl
theorem Tp.non_inv {H : Hp} {v : V} (h : Tp H v .none) : v = .non := by cases h; rfl
theorem Tp.lst_inv {H : Hp} {v : V} {ds : List PyData} (h : Tp H v (.list ds)) : ∃ a xs, v = .ref a ∧ H a = some (.lst xs) ∧ TpAll H xs ds := by
  cases h with
  | lst h t => exact ⟨_, _, rfl, h, t⟩
theorem Tp.tup_inv {H : Hp} {v : V} {ds : List PyData} (h : Tp H v (.tuple ds)) : ∃ a xs, v = .ref a ∧ H a = some (.tup xs) ∧ TpAll H xs ds := by
  cases h with
  | tup h t => exact ⟨_, _, rfl, h, t⟩
theorem Own.int_inv {H : Hp} {v : V} {i : Int} {F : List Addr} (h : Own H v (.int i) F) : v = .int i := h.tp.int_inv
theorem New.bl_inv {H0 H : Hp} {v : V} {i : Bool} (h : New H0 H v (.bool i)) : v = .bl i := h.tp.bl_inv
theorem New.int_inv {H0 H : Hp} {v : V} {i : Int} (h : New H0 H v (.int i)) : v = .int i := h.tp.int_inv
theorem New.non_inv {H0 H : Hp} {v : V} (h : New H0 H v .none) : v = .non := h.tp.non_inv
theorem New.str_inv {H0 H : Hp} {v : V} {i : Str} (h : New H0 H v (.str i)) : v = .str i := h.tp.str_inv
theorem Own.lst_inv {H : Hp} {v : V} {ds : List PyData} {F : List Addr} (h : Own H v (.list ds) F) : ∃ a xs G, v = .ref a ∧ F = a :: G ∧ H a = some (.lst xs) ∧ OwnAll H xs ds G ∧ a ∉ G := by
  cases h with
  | lst h t n => exact ⟨_, _, _, rfl, rfl, h, t, n⟩
theorem Own.tup_inv {H : Hp} {v : V} {ds : List PyData} {F : List Addr} (h : Own H v (.tuple ds) F) : ∃ a xs, v = .ref a ∧ H a = some (.tup xs) ∧ OwnAll H xs ds F := by
  cases h with
  | tup h t => exact ⟨_, _, rfl, h, t⟩

/-! ### ints -/
variable {i j : Int}
theorem v_I0 {g : Int → Int → V} {k : PyData} (hk : ∀ H, Tp H (g i j) k) (ha : VD K ta ρ (.int i)) (hb : VD K tb ρ (.int j)) : VD K (tOp (rI0 g) ta tb) ρ k := v_two ha hb fun H u v Q r1 r2 q => by
  cases Tp.int_inv r1
  cases Tp.int_inv r2
  exact ⟨i, j, rfl, rfl, q _ H (Ex.refl H) (hk H)⟩
theorem v_I {C : Int → Int → Prop} {g : Int → Int → V} {k : PyData} (hk : ∀ H, Tp H (g i j) k) (ha : VD K ta ρ (.int i)) (hb : VD K tb ρ (.int j)) (hc : C i j) : VD K (tOp (rI C g) ta tb) ρ k := v_two ha hb fun H u v Q r1 r2 q => by
  cases Tp.int_inv r1
  cases Tp.int_inv r2
  exact ⟨i, j, rfl, rfl, hc, q _ H (Ex.refl H) (hk H)⟩
theorem v_add (ha : VD K ta ρ (.int i)) (hb : VD K tb ρ (.int j)) : VD K (tOp (rI0 fun i j => .int (i + j)) ta tb) ρ (.int (i + j)) := v_I0 (fun _ => .int _) ha hb
theorem v_sub (ha : VD K ta ρ (.int i)) (hb : VD K tb ρ (.int j)) : VD K (tOp (rI0 fun i j => .int (i - j)) ta tb) ρ (.int (i - j)) := v_I0 (fun _ => .int _) ha hb
theorem v_mul (ha : VD K ta ρ (.int i)) (hb : VD K tb ρ (.int j)) (hc : CMul i j) : VD K (tOp (rI CMul fun i j => .int (i * j)) ta tb) ρ (.int (i * j)) := v_I (fun _ => .int _) ha hb hc
theorem v_mod (ha : VD K ta ρ (.int i)) (hb : VD K tb ρ (.int j)) (hc : 0 < j) : VD K (tOp (rI (fun _ j => 0 < j) fun i j => .int (i % j)) ta tb) ρ (.int (i % j)) := v_I (fun _ => .int _) ha hb hc
theorem v_fdiv (ha : VD K ta ρ (.int i)) (hb : VD K tb ρ (.int j)) (hc : CDiv i j) : VD K (tOp (rI CDiv fun i j => .int (i / j)) ta tb) ρ (.int (i / j)) := v_I (fun _ => .int _) ha hb hc
theorem v_neg (ha : VD K ta ρ (.int i)) : VD K (tUn (rU fun i => .int (-i)) ta) ρ (.int (-i)) := fun σ H n Q q => ha σ H n _ fun v H1 e r => by
  cases Tp.int_inv r
  exact ⟨i, rfl, q _ H1 e (.int _)⟩
theorem v_lt (ha : VD K ta ρ (.int i)) (hb : VD K tb ρ (.int j)) : VD K (tOp (rI0 fun i j => .bl (decide (i < j))) ta tb) ρ (.bool (decide (i < j))) := v_I0 (fun _ => .bl _) ha hb
theorem v_le (ha : VD K ta ρ (.int i)) (hb : VD K tb ρ (.int j)) : VD K (tOp (rI0 fun i j => .bl (decide (i ≤ j))) ta tb) ρ (.bool (decide (i ≤ j))) := v_I0 (fun _ => .bl _) ha hb
theorem v_gt (ha : VD K ta ρ (.int i)) (hb : VD K tb ρ (.int j)) : VD K (tOp (rI0 fun i j => .bl (decide (j < i))) ta tb) ρ (.bool (decide (j < i))) := v_I0 (fun _ => .bl _) ha hb
theorem v_ge (ha : VD K ta ρ (.int i)) (hb : VD K tb ρ (.int j)) : VD K (tOp (rI0 fun i j => .bl (decide (j ≤ i))) ta tb) ρ (.bool (decide (j ≤ i))) := v_I0 (fun _ => .bl _) ha hb
/-- == and != of data -/
theorem v_eqD (ha : VD K ta ρ d) (hb : VD K tb ρ e) (hd : SeqAt.shaped d = true) (he : SeqAt.shaped e = true) : VD K (tOp (rEqD K) ta tb) ρ (.bool (PyData.eqv d e)) := v_two ha hb fun H u v Q r1 r2 q =>
  ⟨d, e, Tp.dp r1 (SeqAt.canLay_of_shaped hd), Tp.dp r2 (SeqAt.canLay_of_shaped he), hd, he, q _ H (Ex.refl H) (.bl _)⟩
theorem v_neD (ha : VD K ta ρ d) (hb : VD K tb ρ e) (hd : SeqAt.shaped d = true) (he : SeqAt.shaped e = true) : VD K (tOp (rNeD K) ta tb) ρ (.bool (!PyData.eqv d e)) := v_two ha hb fun H u v Q r1 r2 q =>
  ⟨d, e, Tp.dp r1 (SeqAt.canLay_of_shaped hd), Tp.dp r2 (SeqAt.canLay_of_shaped he), hd, he, q _ H (Ex.refl H) (.bl _)⟩
theorem v_inD {ds : List PyData} (ha : VD K ta ρ d) (hb : VD K tb ρ (.list ds)) (hd : SeqAt.shaped d = true) (he : SeqAt.shaped (.list ds) = true) : VD K (tOp (rInD K) ta tb) ρ (.bool (ds.any fun z => PyData.eqv z d)) := v_two ha hb fun H u v Q r1 r2 q =>
  ⟨d, ds, Tp.dp r1 (SeqAt.canLay_of_shaped hd), Tp.dp r2 (SeqAt.canLay_of_shaped he), hd, he, q _ H (Ex.refl H) (.bl _)⟩
theorem v_niD {ds : List PyData} (ha : VD K ta ρ d) (hb : VD K tb ρ (.list ds)) (hd : SeqAt.shaped d = true) (he : SeqAt.shaped (.list ds) = true) : VD K (tOp (rNotInD K) ta tb) ρ (.bool (!ds.any fun z => PyData.eqv z d)) := v_two ha hb fun H u v Q r1 r2 q =>
  ⟨d, ds, Tp.dp r1 (SeqAt.canLay_of_shaped hd), Tp.dp r2 (SeqAt.canLay_of_shaped he), hd, he, q _ H (Ex.refl H) (.bl _)⟩
/-- is None -/
def isN : PyData → Bool
  | .none => true
  | _ => false
theorem Tp.isN {H : Hp} {v : V} {d : PyData} (h : Tp H v d) : decide (v = .non) = isN d := by cases h <;> simp [DF.isN]
theorem v_isN (ha : VD K ta ρ d) (hb : VD K tb ρ .none) : VD K (tOp (fun x y H Q => y = .non ∧ Q (.bl (decide (x = .non))) H) ta tb) ρ (.bool (isN d)) := v_two ha hb fun H u v Q r1 r2 q => by
  cases Tp.non_inv r2
  exact ⟨rfl, by rw [Tp.isN r1]; exact q _ H (Ex.refl H) (.bl _)⟩
theorem v_notN (ha : VD K ta ρ d) (hb : VD K tb ρ .none) : VD K (tOp (fun x y H Q => y = .non ∧ Q (.bl (!decide (x = .non))) H) ta tb) ρ (.bool (!isN d)) := v_two ha hb fun H u v Q r1 r2 q => by
  cases Tp.non_inv r2
  exact ⟨rfl, by rw [Tp.isN r1]; exact q _ H (Ex.refl H) (.bl _)⟩
theorem v_isB (ha : VD K ta ρ (.bool b)) (hb : VD K tb ρ (.bool c)) : VD K (tOp (fun x y H Q => ∃ a b, x = .bl a ∧ y = .bl b ∧ Q (.bl (decide (a = b))) H) ta tb) ρ (.bool (decide (b = c))) := v_two ha hb fun H u v Q r1 r2 q => by
  cases Tp.bl_inv r1
  cases Tp.bl_inv r2
  exact ⟨b, c, rfl, rfl, q _ H (Ex.refl H) (.bl _)⟩
theorem v_notB (ha : VD K ta ρ (.bool b)) (hb : VD K tb ρ (.bool c)) : VD K (tOp (fun x y H Q => ∃ a b, x = .bl a ∧ y = .bl b ∧ Q (.bl (!decide (a = b))) H) ta tb) ρ (.bool (!decide (b = c))) := v_two ha hb fun H u v Q r1 r2 q => by
  cases Tp.bl_inv r1
  cases Tp.bl_inv r2
  exact ⟨b, c, rfl, rfl, q _ H (Ex.refl H) (.bl _)⟩

/-! ### bools and tests -/
theorem v_not (ha : VD K ta ρ (.bool b)) : VD K (tNotV ta) ρ (.bool (!b)) := fun σ H n Q q => ha σ H n _ fun v H1 e r => by
  cases Tp.bl_inv r
  exact ⟨b, rfl, q _ H1 e (.bl _)⟩
theorem v_and (ha : VD K ta ρ (.bool b)) (hb : b = true → VD K tb ρ (.bool c)) : VD K (tAndV ta tb) ρ (.bool (b && c)) := fun σ H n Q q => ha σ H n _ fun v H1 e r => by
  cases Tp.bl_inv r
  refine ⟨b, rfl, ?_⟩
  cases b with
  | true => exact hb rfl σ H1 (n.mono e) Q fun v H2 e2 r2 => q v H2 (e.trans e2) r2
  | false => exact q _ H1 e (.bl _)
theorem v_or (ha : VD K ta ρ (.bool b)) (hb : b = false → VD K tb ρ (.bool c)) : VD K (tOrV ta tb) ρ (.bool (b || c)) := fun σ H n Q q => ha σ H n _ fun v H1 e r => by
  cases Tp.bl_inv r
  refine ⟨b, rfl, ?_⟩
  cases b with
  | true => exact q _ H1 e (.bl _)
  | false => exact hb rfl σ H1 (n.mono e) Q fun v H2 e2 r2 => q v H2 (e.trans e2) r2
theorem t_test (ha : VD K ta ρ (.bool b)) : VT K (tTest ta) ρ b := fun σ H n Q q => ha σ H n _ fun v H1 e r => by
  cases Tp.bl_inv r
  exact ⟨b, rfl, q H1 e⟩
theorem t_B (ha : VD K ta ρ (.bool b)) : VT K (tB ta) ρ b := t_test ha
theorem t_not (ha : VT K tt ρ b) : VT K (tNot tt) ρ (!b) := fun σ H n Q q => ha σ H n _ fun H1 e => q H1 e
theorem t_and (ha : VT K tt ρ b) (hb : b = true → VT K tu ρ c) : VT K (tAnd tt tu) ρ (b && c) := fun σ H n Q q => ha σ H n _ fun H1 e => by
  cases b with
  | true => exact hb rfl σ H1 (n.mono e) Q fun H2 e2 => q H2 (e.trans e2)
  | false => exact q H1 e
theorem t_or (ha : VT K tt ρ b) (hb : b = false → VT K tu ρ c) : VT K (tOr tt tu) ρ (b || c) := fun σ H n Q q => ha σ H n _ fun H1 e => by
  cases b with
  | true => exact q H1 e
  | false => exact hb rfl σ H1 (n.mono e) Q fun H2 e2 => q H2 (e.trans e2)
theorem t_yes : VT K tYes ρ true := fun σ H n Q q => q H (Ex.refl H)
theorem v_if (hc : VT K tt ρ b) (ha : b = true → VE K ta ρ z) (hb : b = false → VE K tb ρ z) : VE K (tIf tt ta tb) ρ z := fun σ H n Q q => hc σ H n _ fun H1 e => by
  cases b with
  | true => exact ha rfl σ H1 (n.mono e) Q fun v H2 e2 r => q v H2 (e.trans e2) r
  | false => exact hb rfl σ H1 (n.mono e) Q fun v H2 e2 r => q v H2 (e.trans e2) r
theorem n_if (hc : VT K tt ρ b) (ha : b = true → VN K ta ρ d) (hb : b = false → VN K tb ρ d) : VN K (tIf tt ta tb) ρ d := fun σ H n Q q => hc σ H n _ fun H1 e => by
  cases b with
  | true => exact ha rfl σ H1 (n.mono e) Q fun v H2 e2 r => q v H2 (e.trans e2) (r.back e)
  | false => exact hb rfl σ H1 (n.mono e) Q fun v H2 e2 r => q v H2 (e.trans e2) (r.back e)
/-- a <= b <= c of ints -/
theorem v_chain {g g' : Int → Int → Bool} {k : Int} (ha : VD K ta ρ (.int i)) (hb : VD K tb ρ (.int j)) (hc : g i j = true → VD K tc ρ (.int k)) :
    VD K (tChain (rI0 fun i j => .bl (g i j)) (rI0 fun i j => .bl (g' i j)) ta tb tc) ρ (.bool (g i j && g' j k)) := fun σ H n Q q => ha σ H n _ fun u H1 e1 r1 => hb σ H1 (n.mono e1) _ fun v H2 e2 r2 => by
  cases Tp.int_inv r1
  cases Tp.int_inv r2
  refine ⟨i, j, rfl, rfl, g i j, rfl, ?_⟩
  cases hg : g i j with
  | true =>
    rw [hg, Bool.true_and] at q
    refine hc hg σ H2 (n.mono (e1.trans e2)) _ fun w H3 e3 r3 => ?_
    cases Tp.int_inv r3
    exact ⟨j, k, rfl, rfl, q _ H3 ((e1.trans e2).trans e3) (.bl _)⟩
  | false =>
    rw [hg, Bool.false_and] at q
    exact q _ H2 (e1.trans e2) (.bl _)
end
end DF

namespace DF
open PySem L2 Evl

/-! ### plain Lean data as data of Python -/
class Enc (α : Type) where
  enc : α → PyData
  /-- two of them are alike just where they are one -/
  eqv_enc : ∀ x y : α, PyData.eqv (enc x) (enc y) = true ↔ x = y
  lay : ∀ x : α, (enc x).canLay0 = true
  deep : Nat
  depth : ∀ x : α, (enc x).depth ≤ deep
open Enc (enc)
@[reducible] instance : Enc Int where
  enc := .int
  eqv_enc := fun x y => by simp [PyData.eqv]
  lay := fun x => by simp [PyData.canLay0]
  deep := 1
  depth := fun x => by simp [PyData.depth]
@[reducible] instance : Enc Bool where
  enc := .bool
  eqv_enc := fun x y => by simp [PyData.eqv]
  lay := fun x => by simp [PyData.canLay0]
  deep := 1
  depth := fun x => by simp [PyData.depth]
theorem eqvAll_enc {α : Type} [Enc α] : ∀ xs ys : List α, PyData.eqvAll (xs.map enc) (ys.map enc) = true ↔ xs = ys
  | [], [] => by simp [PyData.eqvAll]
  | [], _ :: _ => by simp [PyData.eqvAll]
  | _ :: _, [] => by simp [PyData.eqvAll]
  | x :: xs, y :: ys => by
    simp only [List.map_cons, PyData.eqvAll, Bool.and_eq_true, Enc.eqv_enc, List.cons.injEq]
    rw [eqvAll_enc xs ys]
theorem layAll_enc {α : Type} [Enc α] : ∀ xs : List α, PyData.canLayAll0 (xs.map enc) = true
  | [] => by simp [PyData.canLayAll0]
  | x :: xs => by simp only [List.map_cons, PyData.canLayAll0, Bool.and_eq_true]; exact ⟨Enc.lay x, layAll_enc xs⟩
theorem depthAll_enc {α : Type} [Enc α] : ∀ xs : List α, PyData.depthAll (xs.map enc) ≤ Enc.deep α
  | [] => by simp [PyData.depthAll]
  | x :: xs => by
    have h1 := Enc.depth x
    have h2 := depthAll_enc xs
    simp only [List.map_cons, PyData.depthAll]
    omega
@[reducible] instance {α : Type} [Enc α] : Enc (List α) where
  enc := fun xs => .list (xs.map enc)
  eqv_enc := fun x y => by simp only [PyData.eqv]; exact eqvAll_enc x y
  lay := fun x => by simp only [PyData.canLay0]; exact layAll_enc x
  deep := Enc.deep α + 1
  depth := fun x => by
    have := depthAll_enc x
    simp only [PyData.depth]
    omega
/-- pairs are tuples of two -/
@[reducible] instance {α β : Type} [Enc α] [Enc β] : Enc (α × β) where
  enc := fun p => .tuple [enc p.1, enc p.2]
  eqv_enc := fun x y => by
    simp only [PyData.eqv, PyData.eqvAll, Bool.and_eq_true, Enc.eqv_enc, and_true]
    exact ⟨fun h => Prod.ext h.1 h.2, fun h => by rw [h]; exact ⟨rfl, rfl⟩⟩
  lay := fun x => by simp only [PyData.canLay0, PyData.canLayAll0, Bool.and_eq_true]; exact ⟨Enc.lay _, Enc.lay _, trivial⟩
  deep := max (Enc.deep α) (Enc.deep β) + 1
  depth := fun x => by
    have h1 := Enc.depth x.1
    have h2 := Enc.depth x.2
    simp only [PyData.depth, PyData.depthAll]
    omega
theorem shaped_enc {α : Type} [Enc α] (x : α) (h : Enc.deep α ≤ 64 := by decide) : SeqAt.shaped (enc x) = true := by
  show ((enc x).canLay0 && decide ((enc x).depth ≤ 64)) = true
  rw [Bool.and_eq_true]
  exact ⟨Enc.lay x, decide_eq_true (Nat.le_trans (Enc.depth x) h)⟩
theorem eqv_dec {α : Type} [Enc α] [DecidableEq α] (x y : α) : PyData.eqv (enc x) (enc y) = decide (x = y) := by
  by_cases h : x = y
  · rw [decide_eq_true h]; exact (Enc.eqv_enc x y).mpr h
  · rw [decide_eq_false h]
    cases q : PyData.eqv (enc x) (enc y) with
    | false => rfl
    | true => exact absurd ((Enc.eqv_enc x y).mp q) h
theorem any_dec {α : Type} [Enc α] [DecidableEq α] (x : α) : ∀ xs : List α, ((xs.map enc).any fun z => PyData.eqv z (enc x)) = decide (x ∈ xs)
  | [] => by simp
  | y :: ys => by
    rw [List.map_cons, List.any_cons, any_dec x ys, eqv_dec]
    by_cases h : y = x
    · subst h; simp
    · have h' : ¬ x = y := fun q => h q.symm
      simp [h, h']

section
variable {K : PySem.W.Frag} {ρ : Rho} {te ta tb tc tl : TE} {tt tu : TT} {d e : PyData} {z : Ent} {b c : Bool} {i j : Int}

/-! ### == of plain data -/
theorem v_eq {α : Type} [Enc α] [DecidableEq α] {x y : α} (ha : VD K ta ρ (enc x)) (hb : VD K tb ρ (enc y)) (h : Enc.deep α ≤ 64 := by decide) : VD K (tOp (rEqD K) ta tb) ρ (.bool (decide (x = y))) :=
  (v_eqD ha hb (shaped_enc x h) (shaped_enc y h)).eq (by rw [eqv_dec])
theorem v_ne {α : Type} [Enc α] [DecidableEq α] {x y : α} (ha : VD K ta ρ (enc x)) (hb : VD K tb ρ (enc y)) (h : Enc.deep α ≤ 64 := by decide) : VD K (tOp (rNeD K) ta tb) ρ (.bool (!decide (x = y))) :=
  (v_neD ha hb (shaped_enc x h) (shaped_enc y h)).eq (by rw [eqv_dec])
theorem v_in {α : Type} [Enc α] [DecidableEq α] {x : α} {xs : List α} (ha : VD K ta ρ (enc x)) (hb : VD K tb ρ (enc xs)) (h : Enc.deep α + 1 ≤ 64 := by decide) : VD K (tOp (rInD K) ta tb) ρ (.bool (decide (x ∈ xs))) :=
  (v_inD ha hb (shaped_enc x (by omega)) (shaped_enc xs h)).eq (by rw [any_dec])
theorem v_ni {α : Type} [Enc α] [DecidableEq α] {x : α} {xs : List α} (ha : VD K ta ρ (enc x)) (hb : VD K tb ρ (enc xs)) (h : Enc.deep α + 1 ≤ 64 := by decide) : VD K (tOp (rNotInD K) ta tb) ρ (.bool (!decide (x ∈ xs))) :=
  (v_niD ha hb (shaped_enc x (by omega)) (shaped_enc xs h)).eq (by rw [any_dec])

/-! ### subscripts (of a list, a tuple, a text) -/
theorem TpAll.atI {H : Hp} {vs : List V} {ds : List PyData} (h : TpAll H vs ds) (e : L2.atI ds i = some d) : ∃ v, L2.atI vs i = some v ∧ Tp H v d := by
  unfold L2.atI at e ⊢
  rw [h.len]
  cases q : ixN ds.length i with
  | none => rw [q] at e; cases e
  | some k =>
    rw [q] at e
    exact h.get e
theorem v_ixL {ds : List PyData} (ha : VD K ta ρ (.list ds)) (hb : VD K tb ρ (.int i)) (h : atI ds i = some d) : VD K (tOp (rIx K) ta tb) ρ d := v_two ha hb fun H u v Q r1 r2 q => by
  cases Tp.int_inv r2
  obtain ⟨a, xs, rfl, ea, t⟩ := Tp.lst_inv r1
  obtain ⟨w, ew, tw⟩ := t.atI h
  exact .inl ⟨a, xs, i, w, rfl, rfl, SqL.of ea, ew, q w H (Ex.refl H) tw⟩
theorem v_ixT {ds : List PyData} (ha : VD K ta ρ (.tuple ds)) (hb : VD K tb ρ (.int i)) (h : atI ds i = some d) : VD K (tOp (rIx K) ta tb) ρ d := v_two ha hb fun H u v Q r1 r2 q => by
  cases Tp.int_inv r2
  obtain ⟨a, xs, rfl, ea, t⟩ := Tp.tup_inv r1
  obtain ⟨w, ew, tw⟩ := t.atI h
  exact .inr (.inl ⟨a, xs, i, w, rfl, rfl, SqT.of ea, ew, q w H (Ex.refl H) tw⟩)
theorem v_ixStr {x : Str} {n : Nat} (ha : VD K ta ρ (.str x)) (hb : VD K tb ρ (.int i)) (hx : x.length ≤ 100000) (h : atI x.cps.toList i = some n) : VD K (tOp (rIx K) ta tb) ρ (.str ⟨#[n]⟩) := v_two ha hb fun H u v Q r1 r2 q => by
  cases Tp.int_inv r2
  cases Tp.str_inv r1
  exact .inr (.inr ⟨x, i, n, rfl, rfl, sz_of hx, h, q _ H (Ex.refl H) (.str _)⟩)
theorem s_ixL {ds : List PyData} (ha : VS K ta ρ (.list ds)) (hb : VD K tb ρ (.int i)) (h : atI ds i = some d) : VS K (tOp (rIx K) ta tb) ρ d := fun σ H H1 n e Q q =>
  ha σ H H1 n e _ fun u H2 e2 r1 => hb σ H2 (n.mono (e.trans e2)) _ fun v H3 e3 r2 => by
    cases Tp.int_inv r2
    obtain ⟨a, xs, rfl, ea, t⟩ := Tp.lst_inv r1
    obtain ⟨w, ew, tw⟩ := t.atI h
    exact .inl ⟨a, xs, i, w, rfl, rfl, SqL.of (((e.trans e2).trans e3) _ _ ea), ew, q w H3 (e2.trans e3) tw⟩
theorem s_ixT {ds : List PyData} (ha : VS K ta ρ (.tuple ds)) (hb : VD K tb ρ (.int i)) (h : atI ds i = some d) : VS K (tOp (rIx K) ta tb) ρ d := fun σ H H1 n e Q q =>
  ha σ H H1 n e _ fun u H2 e2 r1 => hb σ H2 (n.mono (e.trans e2)) _ fun v H3 e3 r2 => by
    cases Tp.int_inv r2
    obtain ⟨a, xs, rfl, ea, t⟩ := Tp.tup_inv r1
    obtain ⟨w, ew, tw⟩ := t.atI h
    exact .inr (.inl ⟨a, xs, i, w, rfl, rfl, SqT.of (((e.trans e2).trans e3) _ _ ea), ew, q w H3 (e2.trans e3) tw⟩)
theorem atI_enc {α : Type} [Enc α] [Inhabited α] {xs : List α} (h0 : 0 ≤ i) (h1 : i < xs.length) : atI (xs.map enc) i = some (enc (xs.getD i.toNat default)) := by
  have e : i = ((i.toNat : Nat) : Int) := by omega
  have hi : i.toNat < xs.length := by omega
  rw [e]
  refine atI_nat ?_
  rw [List.getElem?_map, List.getElem?_eq_getElem hi, Int.toNat_natCast, List.getD_eq_getElem?_getD, List.getElem?_eq_getElem hi]
  rfl
/-- xs[i], a list of plain data -/
theorem v_ix {α : Type} [Enc α] [Inhabited α] {xs : List α} (ha : VD K ta ρ (enc xs)) (hb : VD K tb ρ (.int i)) (h0 : 0 ≤ i) (h1 : i < xs.length) : VD K (tOp (rIx K) ta tb) ρ (enc (xs.getD i.toNat default)) := v_ixL ha hb (atI_enc h0 h1)
theorem s_ix {α : Type} [Enc α] [Inhabited α] {xs : List α} (ha : VS K ta ρ (enc xs)) (hb : VD K tb ρ (.int i)) (h0 : 0 ≤ i) (h1 : i < xs.length) : VS K (tOp (rIx K) ta tb) ρ (enc (xs.getD i.toNat default)) := s_ixL ha hb (atI_enc h0 h1)
theorem v_fst {α β : Type} [Enc α] [Enc β] {x : α × β} (ha : VD K ta ρ (enc x)) (hb : VD K tb ρ (.int 0)) : VD K (tOp (rIx K) ta tb) ρ (enc x.1) := v_ixT (ds := [enc x.1, enc x.2]) ha hb rfl
theorem v_snd {α β : Type} [Enc α] [Enc β] {x : α × β} (ha : VD K ta ρ (enc x)) (hb : VD K tb ρ (.int 1)) : VD K (tOp (rIx K) ta tb) ρ (enc x.2) := v_ixT (ds := [enc x.1, enc x.2]) ha hb rfl
/-- the script's item -/
theorem v_ixScr {ns : List Int} (ha : VE K ta ρ (.scr ns)) (hb : VD K tb ρ (.int i)) (h0 : 0 ≤ i) (h1 : i < ns.length) : VD K (tOp (rIx K) ta tb) ρ (.int (ns.getD i.toNat 0)) := v_two ha hb fun H u v Q r1 r2 q => by
  cases Tp.int_inv r2
  obtain ⟨a, rfl, hs⟩ := r1
  have e : i = ((i.toNat : Nat) : Int) := by omega
  have hi : i.toNat < ns.length := by omega
  refine .inl ⟨a, _, i, .int (ns.getD i.toNat 0), rfl, rfl, hs, ?_, q _ H (Ex.refl H) (.int _)⟩
  rw [e]
  refine atI_nat ?_
  rw [List.getElem?_map, List.getElem?_eq_getElem hi, Int.toNat_natCast, List.getD_eq_getElem?_getD, List.getElem?_eq_getElem hi]
  rfl

/-! ### arguments -/
theorem a_nil : AE K tNil ρ [] := fun σ H n Q q => q [] H (Ex.refl H) .nil
theorem a_cons {tr : TA} {zs : List Ent} (h : VE K te ρ z) (hr : AE K tr ρ zs) : AE K (tCons te tr) ρ (z :: zs) := fun σ H n Q q =>
  h σ H n _ fun v H1 e1 r1 => hr σ H1 (n.mono e1) _ fun vs H2 e2 r2 => q _ H2 (e1.trans e2) (.cons (r1.mono e2) r2)
theorem an_nil : AN K tNil ρ [] := fun σ H n Q q => q [] H (Ex.refl H) ⟨[], .nil, fun _ z => nomatch z⟩
theorem an_cons {tr : TA} {ds : List PyData} (h : VN K te ρ d) (hr : AN K tr ρ ds) : AN K (tCons te tr) ρ (d :: ds) := fun σ H n Q q =>
  h σ H n _ fun v H1 e1 ⟨F, o1, f1⟩ => hr σ H1 (n.mono e1) _ fun vs H2 e2 ⟨G, o2, f2⟩ => q _ H2 (e1.trans e2) ⟨F ++ G, OwnAll.cons (o1.mono e2) o2 (fun a ha hg => by
    obtain ⟨xs, hx⟩ := o1.at_ a ha
    rw [f2 a hg] at hx
    cases hx), fun a ha => by
    rcases List.mem_append.mp ha with h | h
    · exact f1 a h
    · exact fresh_back e1 (f2 a h)⟩
theorem AE.tp {ta : TA} {ds : List PyData} (h : AE K ta ρ (ds.map Ent.d)) : ∀ σ H, Env K H σ ρ → ∀ Q : List V → Hp → Prop, (∀ vs H', Ex H H' → TpAll H' vs ds → Q vs H') → ta σ H Q := fun σ H n Q q =>
  h σ H n Q fun vs H' e r => q vs H' e r.tp

/-! ### written lists and tuples -/
theorem v_lst {ta : TA} {ds : List PyData} (h : AE K ta ρ (ds.map Ent.d)) (hz : ds.length ≤ 100000) : VD K (tLst ta) ρ (.list ds) := fun σ H n Q q =>
  h.tp σ H n _ fun vs H1 e t => ⟨sz_of (by rw [t.len]; exact hz), fun p hp => q _ _ (e.trans (Ex.new hp)) (Tp.lst upd_same (t.mono (Ex.new hp)))⟩
theorem v_tup {ta : TA} {ds : List PyData} (h : AE K ta ρ (ds.map Ent.d)) (hz : ds.length ≤ 100000) : VD K (tTup ta) ρ (.tuple ds) := fun σ H n Q q =>
  h.tp σ H n _ fun vs H1 e t => ⟨sz_of (by rw [t.len]; exact hz), fun p hp => q _ _ (e.trans (Ex.new hp)) (Tp.tup upd_same (t.mono (Ex.new hp)))⟩
theorem n_lst {ta : TA} {ds : List PyData} (h : AN K ta ρ ds) (hz : ds.length ≤ 100000) : VN K (tLst ta) ρ (.list ds) := fun σ H n Q q =>
  h σ H n _ fun vs H1 e ⟨F, t, f⟩ => ⟨sz_of (by rw [t.len]; exact hz), fun p hp => q _ _ (e.trans (Ex.new hp)) ⟨p :: F, .lst upd_same (t.mono (Ex.new hp)) (fun z => by
    obtain ⟨xs, hx⟩ := t.at_ p z
    rw [hp] at hx
    cases hx), fun a ha => by
    rcases List.mem_cons.mp ha with rfl | ha
    · exact fresh_back e hp
    · exact f a ha⟩⟩
theorem n_tup {ta : TA} {ds : List PyData} (h : AN K ta ρ ds) (hz : ds.length ≤ 100000) : VN K (tTup ta) ρ (.tuple ds) := fun σ H n Q q =>
  h σ H n _ fun vs H1 e ⟨F, t, f⟩ => ⟨sz_of (by rw [t.len]; exact hz), fun p hp => q _ _ (e.trans (Ex.new hp)) ⟨F, .tup upd_same (t.mono (Ex.new hp)), f⟩⟩

/-! ### built-ins -/
abbrev rLen (K : PySem.W.Frag) : List V → Hp → VK → Prop := fun xs H Q => ∃ x n, xs = [x] ∧ LenV K x H n ∧ Q (.int n) H
theorem v_lenD {n : Nat} (ha : VE K ta ρ z) (hz : ∀ H v, Rep K H v z → LenV K v H n) : VD K (tCB (rLen K) (tCons ta tNil)) ρ (.int (n : Int)) := fun σ H m Q q =>
  ha σ H m _ fun v H1 e r => ⟨v, n, rfl, hz H1 v r, q _ H1 e (.int _)⟩
theorem v_lenL {ds : List PyData} (ha : VD K ta ρ (.list ds)) : VD K (tCB (rLen K) (tCons ta tNil)) ρ (.int (ds.length : Int)) := v_lenD ha fun H v r => by
  obtain ⟨a, xs, rfl, ea, t⟩ := Tp.lst_inv r
  exact .inl ⟨xs, SqL.of ea, t.len.symm⟩
theorem v_lenT {ds : List PyData} (ha : VD K ta ρ (.tuple ds)) : VD K (tCB (rLen K) (tCons ta tNil)) ρ (.int (ds.length : Int)) := v_lenD ha fun H v r => by
  obtain ⟨a, xs, rfl, ea, t⟩ := Tp.tup_inv r
  exact .inr ⟨xs, SqT.of ea, t.len.symm⟩
theorem v_lenStr {x : Str} (ha : VD K ta ρ (.str x)) (hx : x.length ≤ 100000) : VD K (tCB (rLen K) (tCons ta tNil)) ρ (.int (x.length : Int)) := v_lenD ha fun H v r => by
  cases Tp.str_inv r
  exact ⟨sz_of hx, rfl⟩
theorem v_lenScr {ns : List Int} (ha : VE K ta ρ (.scr ns)) : VD K (tCB (rLen K) (tCons ta tNil)) ρ (.int (ns.length : Int)) := v_lenD ha fun H v r => by
  obtain ⟨a, rfl, h⟩ := r
  exact .inl ⟨_, h, by rw [List.length_map]⟩
theorem v_len {α : Type} [Enc α] {xs : List α} (ha : VD K ta ρ (enc xs)) : VD K (tCB (rLen K) (tCons ta tNil)) ρ (.int (xs.length : Int)) := (v_lenL ha).eq (by rw [List.length_map])
theorem Tp.bools {H : Hp} : ∀ {bs : List Bool} {vs : List V}, TpAll H vs (bs.map PyData.bool) → vs = bs.map V.bl
  | [], _, h => by cases h; rfl
  | b :: bs, _, h => by
    cases h with
    | cons h1 h2 => cases Tp.bl_inv h1; rw [Tp.bools h2]; rfl
theorem v_all {bs : List Bool} (ha : VD K ta ρ (enc bs)) : VD K (tCB (rAll K) (tCons ta tNil)) ρ (.bool (bs.all id)) := fun σ H m Q q =>
  ha σ H m _ fun v H1 e r => by
    obtain ⟨a, xs, rfl, ea, t⟩ := Tp.lst_inv r
    exact ⟨a, bs, rfl, by rw [← Tp.bools t]; exact SqL.of ea, q _ H1 e (.bl _)⟩
theorem v_any {bs : List Bool} (ha : VD K ta ρ (enc bs)) : VD K (tCB (rAny K) (tCons ta tNil)) ρ (.bool (bs.any id)) := fun σ H m Q q =>
  ha σ H m _ fun v H1 e r => by
    obtain ⟨a, xs, rfl, ea, t⟩ := Tp.lst_inv r
    exact ⟨a, bs, rfl, by rw [← Tp.bools t]; exact SqL.of ea, q _ H1 e (.bl _)⟩
/-- isinstance of a built-in type -/
def tyN : PyData → String
  | .none => "NoneType"
  | .bool _ => "bool"
  | .int _ => "int"
  | .str _ => "str"
  | .list _ => "list"
  | .tuple _ => "tuple"
  | .dict _ => "dict"
theorem Tp.ty {H : Hp} {v : V} {d : PyData} (h : Tp H v d) : TyX K H v (.type (tyN d)) := by
  cases h with
  | non => exact .base .non
  | bl b => exact .base (.bl b)
  | int i => exact .base (.int i)
  | str x => exact .base (.str x)
  | lst h _ => exact .base (.lst h)
  | tup h _ => exact .base (.tup h)
  | dic h => exact .base (.dK h)
def isIN (T n : String) : Bool := T == n || (n == "bool" && T == "int")
def isI (T : String) (d : PyData) : Bool := isIN T (tyN d)
theorem v_isi {T : String} (ha : VD K ta ρ d) (hT : ∀ x : PyData, kitB (tyN x) T = some (isI T x)) : VD K (tCB (rIsi K) (tCons ta (tCons (tC (.ty T)) tNil))) ρ (.bool (isI T d)) := fun σ H m Q q =>
  ha σ H m _ fun v H1 e r => ⟨v, .ty T, _, _, isI T d, rfl, .ty T, Tp.ty r, kit_ty (hT d), q _ H1 e (.bl _)⟩
theorem kit_list : ∀ x : PyData, kitB (tyN x) "list" = some (isI "list" x) := fun x => by cases x <;> (simp only [tyN, isI]; decide +kernel)
theorem kit_int : ∀ x : PyData, kitB (tyN x) "int" = some (isI "int" x) := fun x => by cases x <;> (simp only [tyN, isI]; decide +kernel)
theorem kit_bool : ∀ x : PyData, kitB (tyN x) "bool" = some (isI "bool" x) := fun x => by cases x <;> (simp only [tyN, isI]; decide +kernel)
theorem kit_tuple : ∀ x : PyData, kitB (tyN x) "tuple" = some (isI "tuple" x) := fun x => by cases x <;> (simp only [tyN, isI]; decide +kernel)
theorem kit_str : ∀ x : PyData, kitB (tyN x) "str" = some (isI "str" x) := fun x => by cases x <;> (simp only [tyN, isI]; decide +kernel)
/-- list(xs): a new list, its items the same; of plain items it is one's own -/
abbrev rListOf (K : PySem.W.Frag) : List V → Hp → VK → Prop := fun xs H Q => ∃ p ys, xs = [.ref p] ∧ (SqL K H p ys ∨ SqT K H p ys) ∧ ∀ l, H l = none → Q (.ref l) (upd H l (.lst ys))
theorem own_plain {H H' : Hp} : ∀ {vs : List V} {ds : List PyData}, TpAll H vs ds → (∀ d ∈ ds, plain d = true) → OwnAll H' vs ds []
  | _, _, .nil, _ => .nil
  | _, _, .cons h t, p => by
    have := OwnAll.cons (h.plain (H' := H') (p _ List.mem_cons_self)) (own_plain t fun d hd => p d (List.mem_cons_of_mem _ hd)) (fun a z => nomatch z)
    simpa using this
theorem new_plain {H H' : Hp} {p : Addr} {vs : List V} {ds : List PyData} (hp : H p = none) (t : TpAll H vs ds) (hd : ∀ d ∈ ds, plain d = true) : New H (upd H p (.lst vs)) (.ref p) (.list ds) :=
  ⟨[p], .lst upd_same (own_plain t hd) (fun z => nomatch z), fun a ha => by rw [List.mem_singleton.mp ha]; exact hp⟩
theorem n_listL {ds : List PyData} (ha : VD K ta ρ (.list ds)) (hd : ∀ d ∈ ds, plain d = true) : VN K (tCB (rListOf K) (tCons ta tNil)) ρ (.list ds) := fun σ H m Q q =>
  ha σ H m _ fun v H1 e r => by
    obtain ⟨a, xs, rfl, ea, t⟩ := Tp.lst_inv r
    exact ⟨a, xs, rfl, .inl (SqL.of ea), fun l hl => q _ _ (e.trans (Ex.new hl)) ((new_plain (H' := H1) hl t hd).back e)⟩
theorem plain_ints {ns : List Int} : ∀ d ∈ ns.map (enc : Int → PyData), plain d = true := fun d hd => by
  obtain ⟨n, _, rfl⟩ := List.mem_map.mp hd
  rfl
theorem n_list {ns : List Int} (ha : VD K ta ρ (enc ns)) : VN K (tCB (rListOf K) (tCons ta tNil)) ρ (enc ns) := n_listL ha plain_ints
/-- max(a, b), min(a, b) -/
theorem v_max (ha : VD K ta ρ (.int i)) (hb : VD K tb ρ (.int j)) : VD K (tCB (fun xs H Q => ∃ i j, xs = [.int i, .int j] ∧ Q (.int (if j > i then j else i)) H) (tCons ta (tCons tb tNil))) ρ (.int (if j > i then j else i)) := fun σ H m Q q =>
  ha σ H m _ fun v H1 e r => hb σ H1 (m.mono e) _ fun w H2 e2 r2 => by
    cases Tp.int_inv r
    cases Tp.int_inv r2
    exact ⟨i, j, rfl, q _ H2 (e.trans e2) (.int _)⟩
theorem v_min (ha : VD K ta ρ (.int i)) (hb : VD K tb ρ (.int j)) : VD K (tCB (fun xs H Q => ∃ i j, xs = [.int i, .int j] ∧ Q (.int (if j < i then j else i)) H) (tCons ta (tCons tb tNil))) ρ (.int (if j < i then j else i)) := fun σ H m Q q =>
  ha σ H m _ fun v H1 e r => hb σ H1 (m.mono e) _ fun w H2 e2 r2 => by
    cases Tp.int_inv r
    cases Tp.int_inv r2
    exact ⟨i, j, rfl, q _ H2 (e.trans e2) (.int _)⟩

/-! ### slices, sums and products of lists -/
theorem TpAll.cut {H : Hp} {vs : List V} {ds : List PyData} (lo hi : Option Int) (h : TpAll H vs ds) : TpAll H (cutV vs lo hi) ((ds.drop (HT.sIx ds.length 0 lo)).take (HT.sIx ds.length ds.length hi - HT.sIx ds.length 0 lo)) := by
  unfold cutV
  rw [h.len]
  exact (h.drop _).take _
/-- xs + ys -/
theorem v_cat {ds es : List PyData} (ha : VD K ta ρ (.list ds)) (hb : VD K tb ρ (.list es)) (hz : ds.length + es.length ≤ 100000) : VD K (tOp rCat ta tb) ρ (.list (ds ++ es)) := v_two ha hb fun H u v Q r1 r2 q => by
  obtain ⟨a, xs, rfl, ea, t⟩ := Tp.lst_inv r1
  obtain ⟨b, ys, rfl, eb, t'⟩ := Tp.lst_inv r2
  refine ⟨a, b, xs, ys, rfl, rfl, ea, eb, sz_of (by rw [t.len, t'.len]; exact hz), fun p hp => q _ _ (Ex.new hp) (.lst upd_same ((t'.append t).mono (Ex.new hp)))⟩
theorem n_catP {ds es : List PyData} (ha : VD K ta ρ (.list ds)) (hb : VD K tb ρ (.list es)) (hz : ds.length + es.length ≤ 100000) (hd : ∀ d ∈ ds ++ es, plain d = true) : VN K (tOp rCat ta tb) ρ (.list (ds ++ es)) := n_two ha hb fun H u v Q r1 r2 q => by
  obtain ⟨a, xs, rfl, ea, t⟩ := Tp.lst_inv r1
  obtain ⟨b, ys, rfl, eb, t'⟩ := Tp.lst_inv r2
  exact ⟨a, b, xs, ys, rfl, rfl, ea, eb, sz_of (by rw [t.len, t'.len]; exact hz), fun p hp => q _ _ (Ex.new hp) (new_plain (H' := H) hp (t'.append t) hd)⟩
theorem n_catI {ns ms : List Int} (ha : VD K ta ρ (enc ns)) (hb : VD K tb ρ (enc ms)) (hz : ns.length + ms.length ≤ 100000) : VN K (tOp rCat ta tb) ρ (enc (ns ++ ms)) :=
  (n_catP ha hb (by rw [List.length_map, List.length_map]; exact hz) (by rw [← List.map_append]; exact plain_ints)).eq (by rw [← List.map_append]; rfl)
theorem v_catE {α : Type} [Enc α] {ns ms : List α} (ha : VD K ta ρ (enc ns)) (hb : VD K tb ρ (enc ms)) (hz : ns.length + ms.length ≤ 100000) : VD K (tOp rCat ta tb) ρ (enc (ns ++ ms)) :=
  (v_cat ha hb (by rw [List.length_map, List.length_map]; exact hz)).eq (by rw [← List.map_append]; rfl)
/-- two lists of one's own put together are one's own: no, the parts stay; of what is new on both sides -/
theorem n_catN {ds es : List PyData} (ha : VN K ta ρ (.list ds)) (hb : VN K tb ρ (.list es)) (hz : ds.length + es.length ≤ 100000) : VN K (tOp rCat ta tb) ρ (.list (ds ++ es)) := fun σ H n Q q =>
  ha σ H n _ fun u H1 e1 ⟨F, o1, f1⟩ => hb σ H1 (n.mono e1) _ fun v H2 e2 ⟨G, o2, f2⟩ => by
    obtain ⟨a, xs, A, rfl, rfl, ea, t, na⟩ := Own.lst_inv (o1.mono e2)
    obtain ⟨b, ys, B, rfl, rfl, eb, t', nb⟩ := o2.lst_inv
    refine ⟨a, b, xs, ys, rfl, rfl, ea, eb, sz_of (by rw [t.len, t'.len]; exact hz), fun p hp => q _ _ ((e1.trans e2).trans (Ex.new hp)) ?_⟩
    have dis : ∀ c ∈ A, c ∉ B := fun c hc hb => by
      obtain ⟨zs, hz⟩ := o1.at_ c (List.mem_cons_of_mem _ hc)
      rw [f2 c (List.mem_cons_of_mem _ hb)] at hz
      cases hz
    have al : OwnAll H2 (xs ++ ys) (ds ++ es) (A ++ B) := t'.append t dis
    refine ⟨p :: (A ++ B), .lst upd_same (al.mono (Ex.new hp)) (fun z => ?_), fun c hc => ?_⟩
    · obtain ⟨zs, hz⟩ := al.at_ p z
      rw [hp] at hz
      cases hz
    · rcases List.mem_cons.mp hc with rfl | hc
      · exact fresh_back (e1.trans e2) hp
      · rcases List.mem_append.mp hc with hc | hc
        · exact f1 c (List.mem_cons_of_mem _ hc)
        · exact fresh_back e1 (f2 c (List.mem_cons_of_mem _ hc))
end
end DF

namespace DF
open Enc (enc)
open PySem PyProof.Rows L2 Evl RT

/-! ### comprehensions -/
def PvN (H1 : Hp) (D : Addr) (acc : List PyData) (H' : Hp) : Prop := Ex H1 H' ∧ ∃ vs F, H' D = some (.lst vs) ∧ OwnAll H' vs acc F ∧ D ∉ F ∧ ∀ a ∈ F, H1 a = none
def PvS (H1 : Hp) (D : Addr) (acc : List PyData) (H' : Hp) : Prop := Ex H1 H' ∧ ∃ vs, H' D = some (.lst vs) ∧ TpAll H1 vs acc
section
variable {K : PySem.W.Frag} {ρ : Rho} {te ta tb tl : TE} {tt : TT} {d : PyData} {z : Ent} {b : Bool} {H1 H' : Hp} {D : Addr} {acc acc' : List PyData} {σ : L2.St}
theorem PvN.start (hD : H1 D = none) : PvN H1 D [] (upd H1 D (.lst [])) := ⟨Ex.new hD, [], [], upd_same, .nil, (fun z => nomatch z), (fun _ z => nomatch z)⟩
theorem PvS.start (hD : H1 D = none) : PvS H1 D [] (upd H1 D (.lst [])) := ⟨Ex.new hD, [], upd_same, .nil⟩
theorem turnN (hD : H1 D = none) (pv : PvN H1 D acc H') (n : Env K H1 σ ρ) (ht : VT K tt ρ b) (he : b = true → VN K te ρ d) (hz : acc.length < 100000) (h1 : b = true → acc' = acc ++ [d]) (h0 : b = false → acc' = acc) :
    tt σ H' fun b H3 => if b = true then te σ H3 fun y H4 => ∃ ac, H4 D = some (.lst ac) ∧ ac.length < sizeLine ∧ PvN H1 D acc' (upd H4 D (.lst (ac ++ [y]))) else PvN H1 D acc' H3 := by
  obtain ⟨e, vs, F, hv, o, nD, f⟩ := pv
  refine ht σ H' (n.mono e) _ fun H3 e3 => ?_
  cases b with
  | false =>
    show PvN H1 D acc' H3
    rw [h0 rfl]
    exact ⟨e.trans e3, vs, F, e3 _ _ hv, o.mono e3, nD, f⟩
  | true =>
    show te σ H3 _
    refine he rfl σ H3 (n.mono (e.trans e3)) _ fun y H4 e4 ⟨G, oG, fG⟩ => ?_
    have hv4 := e4 _ _ (e3 _ _ hv)
    have nG : D ∉ G := fun z => by
      have := fG D z
      rw [e3 _ _ hv] at this
      cases this
    have o4 := o.mono (e3.trans e4)
    have dis : ∀ a ∈ F, a ∉ G := fun a ha hg => by
      obtain ⟨xs, hx⟩ := o.at_ a ha
      have := fG a hg
      rw [e3 _ _ hx] at this
      cases this
    refine ⟨vs, hv4, sz_lt (by rw [o.len]; exact hz), Ex.mut ((e.trans e3).trans e4) hD, vs ++ [y], F ++ G, upd_same, ?_, fun z => ?_, fun a ha => ?_⟩
    · rw [h1 rfl]
      exact OwnAll.snoc (oG.off hv4 nG) (o4.off hv4 nD) dis
    · rcases List.mem_append.mp z with z | z
      · exact nD z
      · exact nG z
    · rcases List.mem_append.mp ha with ha | ha
      · exact f a ha
      · exact fresh_back (e.trans e3) (fG a ha)
theorem turnS (hD : H1 D = none) (pv : PvS H1 D acc H') (n : Env K H1 σ ρ) (ht : VT K tt ρ b) (he : b = true → VS K te ρ d) (hz : acc.length < 100000) (h1 : b = true → acc' = acc ++ [d]) (h0 : b = false → acc' = acc) :
    tt σ H' fun b H3 => if b = true then te σ H3 fun y H4 => ∃ ac, H4 D = some (.lst ac) ∧ ac.length < sizeLine ∧ PvS H1 D acc' (upd H4 D (.lst (ac ++ [y]))) else PvS H1 D acc' H3 := by
  obtain ⟨e, vs, hv, o⟩ := pv
  refine ht σ H' (n.mono e) _ fun H3 e3 => ?_
  cases b with
  | false =>
    show PvS H1 D acc' H3
    rw [h0 rfl]
    exact ⟨e.trans e3, vs, e3 _ _ hv, o⟩
  | true =>
    show te σ H3 _
    refine he rfl σ H1 H3 n (e.trans e3) _ fun y H4 e4 ty => ?_
    refine ⟨vs, e4 _ _ (e3 _ _ hv), sz_lt (by rw [o.len]; exact hz), Ex.mut ((e.trans e3).trans e4) hD, vs ++ [y], upd_same, ?_⟩
    rw [h1 rfl]
    exact o.snoc ty
theorem PvN.done {H0 : Hp} (e0 : Ex H0 H1) (hD : H1 D = none) (pv : PvN H1 D acc H') : New H0 H' (.ref D) (.list acc) := by
  obtain ⟨e, vs, F, hv, o, nD, f⟩ := pv
  exact ⟨D :: F, .lst hv o nD, fun a ha => by
    rcases List.mem_cons.mp ha with rfl | ha
    · exact fresh_back e0 hD
    · exact fresh_back e0 (f a ha)⟩
theorem PvS.done (pv : PvS H1 D acc H') : Tp H' (.ref D) (.list acc) := by
  obtain ⟨e, vs, hv, o⟩ := pv
  exact .lst hv (o.mono e)

/-- what the turns give -/
def accs {α : Type} (p : α → Bool) (f : α → PyData) (xs : List α) : List PyData := (xs.filter p).map f
theorem accs_take {α : Type} {p : α → Bool} {f : α → PyData} {xs : List α} {i : Nat} {x : α} (h : xs[i]? = some x) :
    (p x = true → accs p f (xs.take (i + 1)) = accs p f (xs.take i) ++ [f x]) ∧ (p x = false → accs p f (xs.take (i + 1)) = accs p f (xs.take i)) := by
  unfold accs
  rw [List.take_add_one, h]
  refine ⟨fun q => ?_, fun q => ?_⟩ <;> simp [q]
theorem accs_len {α : Type} (p : α → Bool) (f : α → PyData) (xs : List α) : (accs p f xs).length ≤ xs.length := by
  unfold accs
  rw [List.length_map]
  exact List.length_filter_le _ _
/-- over a list; p: which, f: what -/
theorem n_lcD {ds : List PyData} {j : Nat} {vs : List Nat} (p : PyData → Bool) (f : PyData → PyData) (hl : VD K tl ρ (.list ds)) (hz : ds.length ≤ 10000) (hj : j ∈ vs)
    (ht : ∀ x ∈ ds, VT K tt ((wipeR ρ vs).set j (some (.d x))) (p x)) (he : ∀ x ∈ ds, p x = true → VN K te ((wipeR ρ vs).set j (some (.d x))) (f x)) : VN K (tLc (iList K tl) (gName j) tt te vs) ρ (.list (accs p f ds)) := fun σ H n Q q =>
  hl σ H n _ fun v H1 e1 r1 => by
    obtain ⟨a, xs, rfl, ea, t⟩ := Tp.lst_inv r1
    refine ⟨a, rfl, ⟨xs, SqL.of ea⟩, fun D hD => ?_⟩
    refine lc_list (xs := xs) (fun i H' => PvN H1 D (accs p f (ds.take i)) H') (by simpa [accs] using PvN.start hD) (fun i H' _ pv => SqL.of (pv.1 _ _ ea)) (fun i x H' hx pv => ⟨wipe_back hj, ?_⟩) (fun H' pv => ?_)
    · obtain ⟨d, hd, td⟩ := t.getV hx
      have hm : d ∈ ds := List.mem_of_getElem? hd
      have hi : i < ds.length := (List.getElem?_eq_some_iff.mp hd).1
      have at_ := accs_take (p := p) (f := f) hd
      exact turnN hD pv (((n.mono e1).wipe vs).set j (z := .d d) td) (ht d hm) (he d hm) (by have := accs_len p f (ds.take i); rw [List.length_take] at this; omega) at_.1 at_.2
    · rw [t.len, List.take_length] at pv
      exact q _ H' (e1.trans pv.1) (pv.done e1 hD)
theorem v_lcD {ds : List PyData} {j : Nat} {vs : List Nat} (p : PyData → Bool) (f : PyData → PyData) (hl : VD K tl ρ (.list ds)) (hz : ds.length ≤ 10000) (hj : j ∈ vs)
    (ht : ∀ x ∈ ds, VT K tt ((wipeR ρ vs).set j (some (.d x))) (p x)) (he : ∀ x ∈ ds, p x = true → VS K te ((wipeR ρ vs).set j (some (.d x))) (f x)) : VD K (tLc (iList K tl) (gName j) tt te vs) ρ (.list (accs p f ds)) := fun σ H n Q q =>
  hl σ H n _ fun v H1 e1 r1 => by
    obtain ⟨a, xs, rfl, ea, t⟩ := Tp.lst_inv r1
    refine ⟨a, rfl, ⟨xs, SqL.of ea⟩, fun D hD => ?_⟩
    refine lc_list (xs := xs) (fun i H' => PvS H1 D (accs p f (ds.take i)) H') (by simpa [accs] using PvS.start hD) (fun i H' _ pv => SqL.of (pv.1 _ _ ea)) (fun i x H' hx pv => ⟨wipe_back hj, ?_⟩) (fun H' pv => ?_)
    · obtain ⟨d, hd, td⟩ := t.getV hx
      have hm : d ∈ ds := List.mem_of_getElem? hd
      have hi : i < ds.length := (List.getElem?_eq_some_iff.mp hd).1
      have at_ := accs_take (p := p) (f := f) hd
      exact turnS hD pv (((n.mono e1).wipe vs).set j (z := .d d) td) (ht d hm) (he d hm) (by have := accs_len p f (ds.take i); rw [List.length_take] at this; omega) at_.1 at_.2
    · rw [t.len, List.take_length] at pv
      exact q _ H' (e1.trans pv.1) pv.done
/-- over a list backwards -/
theorem n_lcRev {ds : List PyData} {j : Nat} {vs : List Nat} (f : PyData → PyData) (hl : VD K tl ρ (.list ds)) (hz : ds.length ≤ 10000) (hj : j ∈ vs)
    (he : ∀ x ∈ ds, VN K te ((wipeR ρ vs).set j (some (.d x))) (f x)) : VN K (tLc (iRevA K tl) (gName j) tYes te vs) ρ (.list (ds.reverse.map f)) := fun σ H n Q q =>
  hl σ H n _ fun v H1 e1 r1 => by
    obtain ⟨a, xs, rfl, ea, t⟩ := Tp.lst_inv r1
    refine ⟨a, xs, rfl, .inl ⟨SqL.of ea, fun D hD => ?_⟩⟩
    refine ⟨fun i m H' => m = xs.length - i ∧ i ≤ xs.length ∧ PvN H1 D ((ds.reverse.take i).map f) H', ⟨xs.length, by simp, Nat.zero_le _, by simpa using PvN.start hD⟩, ?_⟩
    rintro i m H' ⟨rfl, hi, pv⟩
    have hln := t.len
    by_cases hlt : i < xs.length
    · have hk : xs.length - 1 - i < ds.length := by omega
      have hx : xs[xs.length - 1 - i]? = some xs[xs.length - 1 - i] := List.getElem?_eq_getElem (by omega)
      refine .inr ⟨⟨hlt, xs, _, SqL.of (pv.1 _ _ ea), hx⟩, fun H' => PvN H1 D ((ds.reverse.take (i + 1)).map f) H', fun H2 p2 => ⟨xs.length - (i + 1), by omega, rfl, hlt, p2⟩, fun x H2 y => ?_⟩
      obtain ⟨rfl, y⟩ := y
      obtain ⟨d, hd, td⟩ := t.getV (y xs (SqL.of (pv.1 _ _ ea)))
      have hm : d ∈ ds := List.mem_of_getElem? hd
      have hr : ds.reverse[i]? = some d := by
        rw [List.getElem?_reverse (by omega), ← hln]
        exact hd
      refine ⟨wipe_back hj, turnN hD pv (((n.mono e1).wipe vs).set j (z := .d d) td) t_yes (fun _ => he d hm) (by rw [List.length_map, List.length_take, List.length_reverse]; omega) (fun _ => ?_) (fun z => nomatch z)⟩
      rw [List.take_add_one, hr]
      simp
    · have hie : i = xs.length := by omega
      refine .inl ⟨by show xs.length ≤ i; omega, ?_⟩
      rw [hie, hln, List.take_of_length_le (by simp)] at pv
      exact q _ H' (e1.trans pv.1) (pv.done e1 hD)
/-- over range(n), range(lo, n) -/
theorem range_take {n i : Nat} (h : i < n) : (List.range n).take (i + 1) = (List.range n).take i ++ [i] := by
  rw [List.take_add_one, List.getElem?_range h]
  rfl
theorem n_lcR1 {m : Int} {j : Nat} {vs : List Nat} (p : Nat → Bool) (f : Nat → PyData) (hl : VD K tl ρ (.int m)) (hz : m ≤ 10000) (hm0 : -100000 ≤ m) (hj : j ∈ vs)
    (ht : ∀ i : Nat, (i : Int) < m → VT K tt ((wipeR ρ vs).set j (some (.d (.int (i : Int))))) (p i)) (he : ∀ i : Nat, (i : Int) < m → p i = true → VN K te ((wipeR ρ vs).set j (some (.d (.int (i : Int))))) (f i)) :
    VN K (tLc (iRng1 (tCons tl tNil)) (gName j) tt te vs) ρ (.list (accs p f (List.range m.toNat))) := fun σ H n Q q =>
  hl σ H n _ fun v H1 e1 r1 => by
    cases Tp.int_inv r1
    refine ⟨m, rfl, by omega, by omega, fun D hD => ?_⟩
    refine lc_range (lo := 0) (n := m.toNat) (fun i H' => PvN H1 D (accs p f ((List.range m.toNat).take i)) H') (by simpa [accs] using PvN.start hD) (fun i H' hi pv => ⟨wipe_back hj, ?_⟩) (fun H' pv => ?_)
    · have at_ := accs_take (p := p) (f := f) (List.getElem?_range hi)
      have e0 : (0 : Int) + (i : Int) = (i : Int) := Int.zero_add _
      rw [e0]
      exact turnN hD pv (((n.mono e1).wipe vs).set j (z := .d (.int (i : Int))) (.int _)) (ht i (by omega)) (he i (by omega)) (by have := accs_len p f ((List.range m.toNat).take i); rw [List.length_take, List.length_range] at this; omega) at_.1 at_.2
    · rw [List.take_of_length_le (by simp)] at pv
      exact q _ H' (e1.trans pv.1) (pv.done e1 hD)
theorem v_lcR1 {m : Int} {j : Nat} {vs : List Nat} (p : Nat → Bool) (f : Nat → PyData) (hl : VD K tl ρ (.int m)) (hz : m ≤ 10000) (hm0 : -100000 ≤ m) (hj : j ∈ vs)
    (ht : ∀ i : Nat, (i : Int) < m → VT K tt ((wipeR ρ vs).set j (some (.d (.int (i : Int))))) (p i)) (he : ∀ i : Nat, (i : Int) < m → p i = true → VS K te ((wipeR ρ vs).set j (some (.d (.int (i : Int))))) (f i)) :
    VD K (tLc (iRng1 (tCons tl tNil)) (gName j) tt te vs) ρ (.list (accs p f (List.range m.toNat))) := fun σ H n Q q =>
  hl σ H n _ fun v H1 e1 r1 => by
    cases Tp.int_inv r1
    refine ⟨m, rfl, by omega, by omega, fun D hD => ?_⟩
    refine lc_range (lo := 0) (n := m.toNat) (fun i H' => PvS H1 D (accs p f ((List.range m.toNat).take i)) H') (by simpa [accs] using PvS.start hD) (fun i H' hi pv => ⟨wipe_back hj, ?_⟩) (fun H' pv => ?_)
    · have at_ := accs_take (p := p) (f := f) (List.getElem?_range hi)
      have e0 : (0 : Int) + (i : Int) = (i : Int) := Int.zero_add _
      rw [e0]
      exact turnS hD pv (((n.mono e1).wipe vs).set j (z := .d (.int (i : Int))) (.int _)) (ht i (by omega)) (he i (by omega)) (by have := accs_len p f ((List.range m.toNat).take i); rw [List.length_take, List.length_range] at this; omega) at_.1 at_.2
    · rw [List.take_of_length_le (by simp)] at pv
      exact q _ H' (e1.trans pv.1) pv.done
theorem accs_yes {α : Type} (f : α → PyData) (xs : List α) : accs (fun _ => true) f xs = xs.map f := by unfold accs; rw [List.filter_eq_self.mpr (fun _ _ => rfl)]
theorem accs_map {α β : Type} (g : β → α) (p : α → Bool) (f : α → PyData) (xs : List β) : accs p f (xs.map g) = accs (fun x => p (g x)) (fun x => f (g x)) xs := by
  unfold accs
  rw [List.filter_map, List.map_map]
  rfl
/-- .. of plain data, without a test -/
theorem n_lc {α β : Type} [Enc α] [Enc β] {xs : List α} {j : Nat} {vs : List Nat} (f : α → β) (hl : VD K tl ρ (enc xs)) (hz : xs.length ≤ 10000) (hj : j ∈ vs)
    (he : ∀ x ∈ xs, VN K te ((wipeR ρ vs).set j (some (.d (enc x)))) (enc (f x))) : VN K (tLc (iList K tl) (gName j) tYes te vs) ρ (enc (xs.map f)) := by
  refine fun σ H n Q q => hl σ H n _ fun v H1 e1 r1 => ?_
  obtain ⟨a, us, rfl, ea, t⟩ := Tp.lst_inv r1
  refine ⟨a, rfl, ⟨us, SqL.of ea⟩, fun D hD => ?_⟩
  refine lc_list (xs := us) (fun i H' => PvN H1 D ((xs.take i).map fun x => enc (f x)) H') (by simpa using PvN.start hD) (fun i H' _ pv => SqL.of (pv.1 _ _ ea)) (fun i x H' hx pv => ⟨wipe_back hj, ?_⟩) (fun H' pv => ?_)
  · obtain ⟨d, hd, td⟩ := t.getV hx
    rw [List.getElem?_map] at hd
    cases hxi : xs[i]? with
    | none => rw [hxi] at hd; cases hd
    | some y =>
      rw [hxi] at hd
      cases hd
      have hm : y ∈ xs := List.mem_of_getElem? hxi
      have hi : i < xs.length := (List.getElem?_eq_some_iff.mp hxi).1
      refine turnN hD pv (((n.mono e1).wipe vs).set j (z := .d (enc y)) td) t_yes (fun _ => he y hm) (by rw [List.length_map, List.length_take]; omega) (fun _ => ?_) (fun z => nomatch z)
      rw [List.take_add_one, hxi]
      simp
  · rw [t.len, List.length_map, List.take_length] at pv
    have w := pv.done e1 hD
    rw [show (xs.map fun x => enc (f x)) = (xs.map f).map enc by rw [List.map_map]; rfl] at w
    exact q _ H' (e1.trans pv.1) w
theorem n_lcRv {α β : Type} [Enc α] [Enc β] {xs : List α} {j : Nat} {vs : List Nat} (f : α → β) (hl : VD K tl ρ (enc xs)) (hz : xs.length ≤ 10000) (hj : j ∈ vs)
    (he : ∀ x ∈ xs, VN K te ((wipeR ρ vs).set j (some (.d (enc x)))) (enc (f x))) : VN K (tLc (iRevA K tl) (gName j) tYes te vs) ρ (enc (xs.reverse.map f)) := by
  refine fun σ H n Q q => hl σ H n _ fun v H1 e1 r1 => ?_
  obtain ⟨a, us, rfl, ea, t⟩ := Tp.lst_inv r1
  refine ⟨a, us, rfl, .inl ⟨SqL.of ea, fun D hD => ?_⟩⟩
  have hln := t.len
  rw [List.length_map] at hln
  refine ⟨fun i m H' => m = us.length - i ∧ i ≤ us.length ∧ PvN H1 D ((xs.reverse.take i).map fun x => enc (f x)) H', ⟨us.length, by simp, Nat.zero_le _, by simpa using PvN.start hD⟩, ?_⟩
  rintro i m H' ⟨rfl, hi, pv⟩
  by_cases hlt : i < us.length
  · have hx : us[us.length - 1 - i]? = some us[us.length - 1 - i] := List.getElem?_eq_getElem (by omega)
    refine .inr ⟨⟨hlt, us, _, SqL.of (pv.1 _ _ ea), hx⟩, fun H' => PvN H1 D ((xs.reverse.take (i + 1)).map fun x => enc (f x)) H', fun H2 p2 => ⟨us.length - (i + 1), by omega, rfl, hlt, p2⟩, fun x H2 y => ?_⟩
    obtain ⟨rfl, y⟩ := y
    obtain ⟨d, hd, td⟩ := t.getV (y us (SqL.of (pv.1 _ _ ea)))
    rw [List.getElem?_map] at hd
    cases hxi : xs[us.length - 1 - i]? with
    | none => rw [hxi] at hd; cases hd
    | some y =>
      rw [hxi] at hd
      cases hd
      have hm : y ∈ xs := List.mem_of_getElem? hxi
      have hr : xs.reverse[i]? = some y := by
        rw [List.getElem?_reverse (by omega), ← hln]
        exact hxi
      refine ⟨wipe_back hj, turnN hD pv (((n.mono e1).wipe vs).set j (z := .d (enc y)) td) t_yes (fun _ => he y hm) (by rw [List.length_map, List.length_take, List.length_reverse]; omega) (fun _ => ?_) (fun z => nomatch z)⟩
      rw [List.take_add_one, hr]
      simp
  · have hie : i = us.length := by omega
    refine .inl ⟨by show us.length ≤ i; omega, ?_⟩
    rw [hie, hln, List.take_of_length_le (by simp)] at pv
    have w := pv.done e1 hD
    rw [show (xs.reverse.map fun x => enc (f x)) = (xs.reverse.map f).map enc by rw [List.map_map]; rfl] at w
    exact q _ H' (e1.trans pv.1) w
theorem n_rg {β : Type} [Enc β] {m : Int} {j : Nat} {vs : List Nat} (f : Nat → β) (hl : VD K tl ρ (.int m)) (hz : m ≤ 10000) (hm0 : -100000 ≤ m) (hj : j ∈ vs)
    (he : ∀ i : Nat, (i : Int) < m → VN K te ((wipeR ρ vs).set j (some (.d (.int (i : Int))))) (enc (f i))) : VN K (tLc (iRng1 (tCons tl tNil)) (gName j) tYes te vs) ρ (enc ((List.range m.toNat).map f)) :=
  (n_lcR1 (fun _ => true) (fun i => enc (f i)) hl hz hm0 hj (fun _ _ => t_yes) (fun i hi _ => he i hi)).eq (by rw [accs_yes]; show _ = PyData.list _; rw [List.map_map]; rfl)
/-- .. with one test, the turns' own numbers -/
theorem n_rgIf {β : Type} [Enc β] {m : Int} {j : Nat} {vs : List Nat} (p : Nat → Bool) (f : Nat → β) (hl : VD K tl ρ (.int m)) (hz : m ≤ 10000) (hm0 : -100000 ≤ m) (hj : j ∈ vs)
    (ht : ∀ i : Nat, (i : Int) < m → VT K tt ((wipeR ρ vs).set j (some (.d (.int (i : Int))))) (p i))
    (he : ∀ i : Nat, (i : Int) < m → p i = true → VN K te ((wipeR ρ vs).set j (some (.d (.int (i : Int))))) (enc (f i))) : VN K (tLc (iRng1 (tCons tl tNil)) (gName j) tt te vs) ρ (enc (((List.range m.toNat).filter p).map f)) :=
  (n_lcR1 p (fun i => enc (f i)) hl hz hm0 hj ht he).eq (by unfold accs; show _ = PyData.list _; rw [List.map_map]; rfl)
end

/-! ### calls of defs -/
/-- a def that tells data of its own: R of the arguments and the answer -/
def spR (K : PySem.W.Frag) (R : List Ent → PyData → Prop) : Sp := fun vs H Q _ => ∃ zs r, RepAll K H vs zs ∧ R zs r ∧ ∀ v H', Ex H H' → New H H' v r → Q v H'
section
variable {K : PySem.W.Frag} {ρ : Rho} {te ta tb tl : TE} {tt : TT} {d : PyData} {z : Ent} {b : Bool}
theorem n_call {R : List Ent → PyData → Prop} {E : XK} {ta : TA} {zs : List Ent} (ha : AE K ta ρ zs) (hR : R zs d) : VN K (tCall (spR K R) [] E ta) ρ d := fun σ H n Q q =>
  ha σ H n _ fun vs H1 e1 r1 => by
    show spR K R (vs ++ []) H1 Q E
    rw [List.append_nil]
    exact ⟨zs, d, r1, hR, fun v H' e2 w => q v H' (e1.trans e2) (w.back e1)⟩

/-! ### statements that change nothing that stood -/
inductive Out where
  | ret (d : PyData)
  | nx (ρ : Rho)
def Ends.to (D : Ends) (K : PySem.W.Frag) (H : Hp) : Out → Prop
  | .ret d => ∀ v H', Ex H H' → New H H' v d → D.rt v H'
  | .nx ρ' => ∀ σ' H', Ex H H' → Env K H' σ' ρ' → D.nx σ' H'
def RD (K : PySem.W.Frag) (ts : TS) (ρ : Rho) (o : Out) : Prop := ∀ D σ H, Env K H σ ρ → Ends.to D K H o → ts D σ H
theorem Ends.to.mono {D : Ends} {H H' : Hp} (e : Ex H H') : ∀ {o : Out}, Ends.to D K H o → Ends.to D K H' o
  | .ret d, h => fun v H2 e2 w => h v H2 (e.trans e2) (w.back e)
  | .nx ρ', h => fun σ' H2 e2 n => h σ' H2 (e.trans e2) n
variable {t u : TS} {o : Out} {ρ' : Rho}
theorem r_seq (h1 : RD K t ρ (.nx ρ')) (h2 : RD K u ρ' o) : RD K (tSeq t u) ρ o := fun D σ H n q =>
  h1 { D with nx := u D } σ H n fun σ' H' e n' => h2 D σ' H' n' (q.mono e)
theorem r_seqR (h1 : RD K t ρ (.ret d)) : RD K (tSeq t u) ρ (.ret d) := fun D σ H n q => h1 { D with nx := u D } σ H n q
theorem r_next : RD K tNext ρ (.nx ρ) := fun D σ H n q => q σ H (Ex.refl H) n
theorem r_set {i : Nat} (h : VE K te ρ z) : RD K (tAsg te (gName i)) ρ (.nx (ρ.set i (some z))) := fun D σ H n q =>
  h σ H n _ fun v H' e r => q _ H' e ((n.mono e).set i r)
theorem r_ret (h : VN K te ρ d) : RD K (tRet te) ρ (.ret d) := fun D σ H n q => h σ H n _ fun v H' e r => q v H' e r
theorem r_retP (h : VD K te ρ d) (p : plain d = true) : RD K (tRet te) ρ (.ret d) := r_ret (h.toN p)
theorem r_drop (h : VE K te ρ z) : RD K (tDrop te) ρ (.nx ρ) := fun D σ H n q => h σ H n _ fun v H' e r => q σ H' e (n.mono e)
theorem r_if (hc : VT K tt ρ b) (h1 : b = true → RD K t ρ o) (h2 : b = false → RD K u ρ o) : RD K (tIfS tt t u) ρ o := fun D σ H n q =>
  hc σ H n _ fun H1 e => by
    cases b with
    | true => exact h1 rfl D σ H1 (n.mono e) (q.mono e)
    | false => exact h2 rfl D σ H1 (n.mono e) (q.mono e)
/-- an if ahead of more: each way goes on -/
theorem r_ifSeq {w : TS} (hc : VT K tt ρ b) (h1 : b = true → RD K (tSeq t w) ρ o) (h2 : b = false → RD K (tSeq u w) ρ o) : RD K (tSeq (tIfS tt t u) w) ρ o := fun D σ H n q =>
  hc σ H n _ fun H1 e => by
    cases b with
    | true => exact h1 rfl D σ H1 (n.mono e) (q.mono e)
    | false => exact h2 rfl D σ H1 (n.mono e) (q.mono e)
theorem r_nextSeq (h : RD K u ρ o) : RD K (tSeq tNext u) ρ o := r_seq r_next h
theorem RD.sub {ρ0 : Rho} (s : Sub ρ' ρ0) (h : RD K t ρ' o) : RD K t ρ0 o := fun D σ H n q => h D σ H (n.sub s) q
theorem RD.eq {o' : Out} (h : RD K t ρ o) (e : o = o') : RD K t ρ o' := e ▸ h
/-- forget -/
theorem RD.weak {ρ2 : Rho} (s : Sub ρ2 ρ') (h : RD K t ρ (.nx ρ')) : RD K t ρ (.nx ρ2) := fun D σ H n q => h D σ H n fun σ' H' e n' => q σ' H' e (n'.sub s)
/-- a loop over range(n) whose turn changes nothing but slots that are forgotten: the first turn that returns ends it -/
def findR (f : Nat → Option PyData) (ρ : Rho) : List Nat → Out
  | [] => .nx ρ
  | i :: r => match f i with
    | some d => .ret d
    | none => findR f ρ r
theorem r_forR1 {m : Int} {j : Nat} (f : Nat → Option PyData) (hl : VD K tl ρ (.int m)) (hz : m ≤ 1000000) (hm0 : -100000 ≤ m) (hs : Sub (ρ.set j none) ρ)
    (hb : ∀ i : Nat, (i : Int) < m → RD K t ((ρ.set j none).set j (some (.d (.int (i : Int))))) (match f i with | some d => .ret d | none => .nx (ρ.set j none))) :
    RD K (tFor (iRng1 (tCons tl tNil)) (gName j) t) ρ (findR f (ρ.set j none) (List.range m.toNat)) := fun D σ H n q =>
  hl σ H n _ fun v H1 e1 r1 => by
    cases Tp.int_inv r1
    refine ⟨m, rfl, by omega, by omega, ?_⟩
    refine for_range (lo := 0) (n := m.toNat) (fun i σ' H' => Ex H H' ∧ Env K H' σ' (ρ.set j none) ∧ Ends.to D K H (findR f (ρ.set j none) ((List.range m.toNat).drop i))) ⟨e1, (n.mono e1).sub hs, by simpa using q⟩ (fun i σ' H' hi pv => ?_) (fun σ' H' pv => ?_)
    · obtain ⟨e, n', q'⟩ := pv
      have e0 : (0 : Int) + (i : Int) = (i : Int) := Int.zero_add _
      rw [e0]
      have hd : (List.range m.toNat).drop i = i :: (List.range m.toNat).drop (i + 1) := by
        rw [List.drop_eq_getElem_cons (by simpa using hi)]
        simp
      rw [hd] at q'
      refine hb i (by omega) _ _ H' (n'.set j (z := .d (.int (i : Int))) (.int _)) ?_
      cases hf : f i with
      | some d =>
        simp only [findR, hf] at q'
        exact fun v H2 e2 w => q' v H2 (e.trans e2) (w.back e)
      | none =>
        simp only [findR, hf] at q'
        exact fun σ2 H2 e2 n2 => ⟨e.trans e2, n2, q'⟩
    · obtain ⟨e, n', q'⟩ := pv
      have hd : (List.range m.toNat).drop m.toNat = [] := by simp
      rw [hd] at q'
      exact q' σ' H' e n'
/-- .. over a list -/
def findD {α : Type} (f : α → Option PyData) (ρ : Rho) : List α → Out
  | [] => .nx ρ
  | i :: r => match f i with
    | some d => .ret d
    | none => findD f ρ r
theorem r_forL {ds : List PyData} {j : Nat} (f : PyData → Option PyData) (hl : VD K tl ρ (.list ds)) (hs : Sub (ρ.set j none) ρ)
    (hb : ∀ x ∈ ds, RD K t ((ρ.set j none).set j (some (.d x))) (match f x with | some d => .ret d | none => .nx (ρ.set j none))) :
    RD K (tFor (iList K tl) (gName j) t) ρ (findD f (ρ.set j none) ds) := fun D σ H n q =>
  hl σ H n _ fun v H1 e1 r1 => by
    obtain ⟨a, xs, rfl, ea, t'⟩ := Tp.lst_inv r1
    refine ⟨a, rfl, ⟨xs, SqL.of ea⟩, ?_⟩
    refine for_list (xs := xs) (fun i σ' H' => Ex H1 H' ∧ Env K H' σ' (ρ.set j none) ∧ Ends.to D K H (findD f (ρ.set j none) (ds.drop i))) ⟨Ex.refl H1, (n.mono e1).sub hs, by simpa using q⟩ (fun i σ' H' _ pv => SqL.of (pv.1 _ _ ea)) (fun i x σ' H' hx pv => ?_) (fun σ' H' pv => ?_)
    · obtain ⟨e, n', q'⟩ := pv
      obtain ⟨d, hd, td⟩ := t'.getV hx
      have hm : d ∈ ds := List.mem_of_getElem? hd
      have hlt := (List.getElem?_eq_some_iff.mp hd)
      have hdr : ds.drop i = d :: ds.drop (i + 1) := by
        rw [List.drop_eq_getElem_cons hlt.1, hlt.2]
      rw [hdr] at q'
      refine hb d hm _ _ H' (n'.set j (z := .d d) (td.mono e)) ?_
      cases hf : f d with
      | some r =>
        simp only [findD, hf] at q'
        exact fun v H2 e2 w => q' v H2 ((e1.trans e).trans e2) (w.back (e1.trans e))
      | none =>
        simp only [findD, hf] at q'
        exact fun σ2 H2 e2 n2 => ⟨e.trans e2, n2, q'⟩
    · obtain ⟨e, n', q'⟩ := pv
      have hd : ds.drop xs.length = [] := by rw [t'.len]; simp
      rw [hd] at q'
      exact q' σ' H' (e1.trans e) n'
end

/-! ### a def, by what its body tells -/
theorem Env.args {K : PySem.W.Frag} {H : Hp} : ∀ {vs : List V} {zs : List Ent} (m : Nat), RepAll K H vs zs → Env K H (vs.map some ++ List.replicate m none) (zs.map some ++ List.replicate m none)
  | _, _, m, .nil => by
    induction m with
    | zero => exact Env.nil
    | succ m ih => exact Env.skip ih
  | _, _, m, .cons r t => Env.cons r (Env.args m t)
def startR (N : List Str) (zs : List Ent) : Rho := zs.map some ++ List.replicate (N.length - zs.length) none
theorem Env.start {K : PySem.W.Frag} {H : Hp} {N : List Str} {vs : List V} {zs : List Ent} (r : RepAll K H vs zs) : Env K H (L2.start N vs) (startR N zs) := by
  unfold L2.start startR
  rw [r.len]
  exact Env.args _ r
section
variable {P : Program} {w : World} {K : PySem.W.Frag} {mg : Str → Option Value} {base : Heap}
theorem fn_R {x qual : Str} {st : Stmt} {f : Addr} {fd : FuncData} {N ps : List Str} {k : Nat} {R : List Ent → PyData → Prop} (F : Fun K x qual st f fd) (S : FnScope N ps (defScope st)) (len : ∀ zs r, R zs r → zs.length = ps.length)
    (hbody : ∀ (cdv : Value) (A : Around) (outer : List PySem.Env) (s : Shared) (H : Hp) (E : XK), Room k (A.deeper (envOfC qual (defScope st) s.heap.objs.size f cdv)) →
      ∃ t, PSs (cxOf CX0 P w K mg base N qual (defScope st) f cdv A outer s H E).nox (defBody st) t ∧ ∀ zs r, R zs r → RD K t (startR N zs) (.ret r) ∨ (r = .none ∧ ∃ ρ', RD K t (startR N zs) (.nx ρ'))) : FnOk P w K mg base CX0 (k + 1) f fd ps (spR K R) := by
  refine F.ok S (fun vs H Q E h => ?_) (fun cdv A outer s H vs Q E hr h => ?_)
  · obtain ⟨zs, r, h1, h2, _⟩ := h
    rw [h1.len]
    exact len zs r h2
  · obtain ⟨zs, r, h1, h2, q⟩ := h
    obtain ⟨t, h3, h4⟩ := hbody cdv A outer s H E hr
    refine ⟨t, h3, ?_⟩
    rcases h4 zs r h2 with h5 | ⟨rfl, ρ', h5⟩
    · exact h5 _ _ H (Env.start h1) fun v H' e w => q v H' e w
    · exact h5 _ _ H (Env.start h1) fun σ' H' e n => q .non H' e ⟨[], .non, fun _ z => nomatch z⟩
end
end DF

namespace DF
open Enc (enc)
open PySem PySem.Spec PyProof.Rows L2 Evl RT

/-! ### what the module's top leaves -/
structure Blt (mg : Str → Option Value) : Prop where
  len : mg "len" = none
  all : mg "all" = none
  any : mg "any" = none
  isinstance : mg "isinstance" = none
  list : mg "list" = none
  tuple : mg "tuple" = none
  int : mg "int" = none
  bool : mg "bool" = none
  str : mg "str" = none
  range : mg "range" = none
  reversed : mg "reversed" = none
  max : mg "max" = none
  min : mg "min" = none
  most : ∃ t, mg "MOST" = some (.int 60 t)
/-- a def of the text at its place -/
def Dfn (K : PySem.W.Frag) (mg : Str → Option Value) (x : Str) (st : Stmt) (ps : List Str) : Prop := ∃ f fd, mg x = some (.ref f) ∧ Fun K x x st f fd ∧ Binds K fd ps []
/-- what a caller needs of a def -/
def Cal (P : Program) (w : World) (K : PySem.W.Frag) (mg : Str → Option Value) (base : Heap) (CX : CXT) (k : Nat) (x : Str) (ps : List Str) (sp : Sp) : Prop :=
  ∃ f fd, mg x = some (.ref f) ∧ FnOk P w K mg base CX k f fd ps sp ∧ PySem.W.keepIn K (.ref f) = true ∧ Binds K fd ps []
section
variable {P : Program} {w : World} {K : PySem.W.Frag} {mg : Str → Option Value} {base : Heap}
theorem pe_cal {X : Cx} {k : Nat} {x : Str} {ps : List Str} {sp : Sp} {p pos : Pos} {e : Expr} {es : List Expr} {t : TA} (C : Cal X.prog X.w X.K X.mg X.base CX0 k x ps sp) (hr : Room k X.A) (hg : Gl X x) (ha : PA X (e :: es) t)
    (hdb : (x == ("__debug__" : Str)) = false := by decide) (he : starEach (e :: es) X.env = (false, eval e X.env) :: starEach es X.env := by rfl) (hpl : (backTo pos (starEach es X.env)).any (·.1) = false := by rfl) :
    PE X (.Call (.Name x p) (e :: es) [] pos) (tCall sp [] E0 t) := by
  obtain ⟨f, fd, hm, F, kp, b⟩ := C
  exact pe_call F hr hg hm kp b .nil pass0 ha hdb he hpl
theorem pe_most {X : Cx} {pos : Pos} (hg : Gl X "MOST") (h : ∃ t, X.mg "MOST" = some (.int 60 t)) : PE X (.Name "MOST" pos) (tC (.int 60)) := by
  obtain ⟨t, h⟩ := h
  exact pe_glob (v := .int 60) hg h ⟨t, rfl⟩
theorem hu65 {A : Around} {k : Nat} (hr : Room k A) : A.units + 65 < cLine := by have := hr.un; omega
theorem cal_R {x : Str} {st : Stmt} {N ps : List Str} {k : Nat} {R : List Ent → PyData → Prop} (D : Dfn K mg x st ps) (S : FnScope N ps (defScope st)) (len : ∀ zs r, R zs r → zs.length = ps.length)
    (hbody : ∀ (f : Addr) (cdv : Value) (A : Around) (outer : List PySem.Env) (s : Shared) (H : Hp) (E : XK), Room k (A.deeper (envOfC x (defScope st) s.heap.objs.size f cdv)) →
      ∃ t, PSs (cxOf CX0 P w K mg base N x (defScope st) f cdv A outer s H E).nox (defBody st) t ∧ ∀ zs r, R zs r → RD K t (startR N zs) (.ret r) ∨ (r = .none ∧ ∃ ρ', RD K t (startR N zs) (.nx ρ'))) : Cal P w K mg base CX0 (k + 1) x ps (spR K R) := by
  obtain ⟨f, fd, hm, F, b⟩ := D
  exact ⟨f, fd, hm, fn_R F S len (hbody f), F.kp, b⟩
/-- .. told by hand: from the arguments and the heap on -/
theorem cal_sp {x : Str} {st : Stmt} {N ps : List Str} {k : Nat} {sp : Sp} (D : Dfn K mg x st ps) (S : FnScope N ps (defScope st)) (len : ∀ vs H Q E, sp vs H Q E → vs.length = ps.length)
    (hbody : ∀ (f : Addr) (cdv : Value) (A : Around) (outer : List PySem.Env) (s : Shared) (H : Hp) (vs : List V) (Q : VK) (E : XK), Room k (A.deeper (envOfC x (defScope st) s.heap.objs.size f cdv)) → sp vs H Q E →
      ∃ t, PSs (cxOf CX0 P w K mg base N x (defScope st) f cdv A outer s H E).nox (defBody st) t ∧ t { nx := fun _ H' => Q .non H', rt := Q } (start N vs) H) : Cal P w K mg base CX0 (k + 1) x ps sp := by
  obtain ⟨f, fd, hm, F, b⟩ := D
  exact ⟨f, fd, hm, F.ok S len (hbody f), F.kp, b⟩
end

/-! ### a list of one's own in a slot, grown by a loop's turns -/
section
variable {K : PySem.W.Frag} {ρ : Rho} {te ta tb tl : TE} {tt : TT} {d : PyData} {z : Ent} {b : Bool} {H H' H1 : Hp} {σ : L2.St} {D : Ends} {t u : TS}
/-- the list at p of one's own since H0: what it holds -/
def Grown (H0 H : Hp) (p : Addr) (acc : List PyData) : Prop := H0 p = none ∧ PvN H0 p acc H
theorem Grown.tp {H0 H : Hp} {p : Addr} {acc : List PyData} (g : Grown H0 H p acc) : Tp H (.ref p) (.list acc) := by
  obtain ⟨_, e, vs, F, hv, o, _, _⟩ := g
  exact .lst hv o.tp
theorem Grown.new {H0 H : Hp} {p : Addr} {acc : List PyData} (g : Grown H0 H p acc) : New H0 H (.ref p) (.list acc) := PvN.done (Ex.refl H0) g.1 g.2
theorem Grown.ex {H0 H : Hp} {p : Addr} {acc : List PyData} (g : Grown H0 H p acc) : Ex H0 H := g.2.1
theorem Grown.mono {H0 H H' : Hp} {p : Addr} {acc : List PyData} (g : Grown H0 H p acc) (e : Ex H H') : Grown H0 H' p acc := by
  obtain ⟨h0, e0, vs, F, hv, o, nD, f⟩ := g
  exact ⟨h0, e0.trans e, vs, F, e _ _ hv, o.mono e, nD, f⟩
theorem grown_start {H0 H : Hp} {p : Addr} (h : H0 p = none) (e : Ex H0 H) (hp : H p = some (.lst [])) : Grown H0 H p [] := ⟨h, e, [], [], hp, .nil, (fun z => nomatch z), (fun _ z => nomatch z)⟩
theorem Grown.of_new {H0 H : Hp} {v : V} {ds : List PyData} (h : New H0 H v (.list ds)) (e : Ex H0 H) : ∃ p, v = .ref p ∧ Grown H0 H p ds := by
  obtain ⟨F, o, f⟩ := h
  obtain ⟨a, xs, G, rfl, rfl, ea, t, na⟩ := o.lst_inv
  exact ⟨a, rfl, f a List.mem_cons_self, e, xs, G, ea, t, na, fun b hb => f b (List.mem_cons_of_mem _ hb)⟩
/-- an item of one's own is put behind -/
theorem Grown.push {H0 H H1 : Hp} {p : Addr} {acc : List PyData} {v : V} {d : PyData} (g : Grown H0 H p acc) (e : Ex H H1) (n : New H H1 v d) :
    ∃ vs, H1 p = some (.lst vs) ∧ vs.length = acc.length ∧ Grown H0 (upd H1 p (.lst (vs ++ [v]))) p (acc ++ [d]) := by
  obtain ⟨h0, e0, vs, F, hv, o, nD, f⟩ := g
  obtain ⟨G, oG, fG⟩ := n
  have hv1 := e _ _ hv
  have nG : p ∉ G := fun z => by
    have := fG p z
    rw [hv] at this
    cases this
  have dis : ∀ a ∈ F, a ∉ G := fun a ha hg => by
    obtain ⟨xs, hx⟩ := o.at_ a ha
    have := fG a hg
    rw [hx] at this
    cases this
  refine ⟨vs, hv1, o.len, h0, Ex.mut (e0.trans e) h0, vs ++ [v], F ++ G, upd_same, OwnAll.snoc (oG.off hv1 nG) ((o.mono e).off hv1 nD) dis, fun z => ?_, fun a ha => ?_⟩
  · rcases List.mem_append.mp z with z | z
    · exact nD z
    · exact nG z
  · rcases List.mem_append.mp ha with ha | ha
    · exact f a ha
    · exact fresh_back e0 (fG a ha)
/-- xs.append(e), xs of one's own in slot i: the slots' knowledge is of the heap H0 that stood ahead of xs -/
theorem s_push {H0 : Hp} {p : Addr} {acc : List PyData} {i : Nat} (hi : σ[i]? = some (some (.ref p))) (g : Grown H0 H p acc) (hz : acc.length < 100000) (n : Env K H σ ρ) (h : VN K te ρ d)
    (k : ∀ H', Ex H0 H' → Grown H0 H' p (acc ++ [d]) → D.nx σ H') : tDrop (tBM K "list" rAppend (tVar i) (tCons te tNil)) D σ H := by
  refine ⟨.ref p, hi, ?_, ?_⟩
  · obtain ⟨h0, e0, vs, F, hv, _⟩ := g
    exact .inl ⟨rfl, vs, SqL.of hv⟩
  · refine h σ H n _ fun v H1 e w => ?_
    obtain ⟨vs, hv, hl, g'⟩ := g.push e w
    exact ⟨p, vs, v, rfl, rfl, hv, sz_lt (by rw [hl]; exact hz), k _ g'.ex g'⟩
end
end DF
namespace DF
open Enc (enc)
open PySem
/-! what a number, a row, a cloth is: of any data -/
def isNum (d : PyData) (lo hi : Int) : Bool := match d with
  | .int i => decide (lo ≤ i) && decide (i ≤ hi)
  | _ => false
def isRow (d : PyData) (hi : Int) : Bool := match d with
  | .list ds => decide (1 ≤ ds.length ∧ ds.length ≤ 60) && ds.all fun x => isNum x 0 hi
  | _ => false
def lenD : PyData → Nat
  | .list ds => ds.length
  | _ => 0
def isCloth (d : PyData) : Bool := match d with
  | .list ds => decide (1 ≤ ds.length ∧ ds.length ≤ 60) && (ds.all (fun x => isRow x 1) && ds.all fun x => decide (lenD x = lenD (ds.headD .none)))
  | _ => false
theorem isI_int_int {i : Int} : isI "int" (.int i) = true := by show isIN "int" "int" = true; decide +kernel
theorem isI_int_bool {b : Bool} : isI "int" (.bool b) = true := by show isIN "int" "bool" = true; decide +kernel
theorem isI_bool_int {i : Int} : isI "bool" (.int i) = false := by show isIN "bool" "int" = false; decide +kernel
theorem isI_bool_bool {b : Bool} : isI "bool" (.bool b) = true := by show isIN "bool" "bool" = true; decide +kernel
theorem isI_int_none : isI "int" .none = false := by decide +kernel
theorem isI_int_str {x : Str} : isI "int" (.str x) = false := by show isIN "int" "str" = false; decide +kernel
theorem isI_int_list {x : List PyData} : isI "int" (.list x) = false := by show isIN "int" "list" = false; decide +kernel
theorem isI_int_tuple {x : List PyData} : isI "int" (.tuple x) = false := by show isIN "int" "tuple" = false; decide +kernel
theorem isI_int_dict {x : List (PyData × PyData)} : isI "int" (.dict x) = false := by show isIN "int" "dict" = false; decide +kernel
theorem isI_list_list {x : List PyData} : isI "list" (.list x) = true := by show isIN "list" "list" = true; decide +kernel
theorem isI_list_none : isI "list" .none = false := by decide +kernel
theorem isI_list_bool {b : Bool} : isI "list" (.bool b) = false := by show isIN "list" "bool" = false; decide +kernel
theorem isI_list_int {i : Int} : isI "list" (.int i) = false := by show isIN "list" "int" = false; decide +kernel
theorem isI_list_str {x : Str} : isI "list" (.str x) = false := by show isIN "list" "str" = false; decide +kernel
theorem isI_list_tuple {x : List PyData} : isI "list" (.tuple x) = false := by show isIN "list" "tuple" = false; decide +kernel
theorem isI_list_dict {x : List (PyData × PyData)} : isI "list" (.dict x) = false := by show isIN "list" "dict" = false; decide +kernel
theorem isI_tuple_tuple {x : List PyData} : isI "tuple" (.tuple x) = true := by show isIN "tuple" "tuple" = true; decide +kernel
theorem isI_tuple_none : isI "tuple" .none = false := by decide +kernel
theorem isI_tuple_bool {b : Bool} : isI "tuple" (.bool b) = false := by show isIN "tuple" "bool" = false; decide +kernel
theorem isI_tuple_int {i : Int} : isI "tuple" (.int i) = false := by show isIN "tuple" "int" = false; decide +kernel
theorem isI_tuple_str {x : Str} : isI "tuple" (.str x) = false := by show isIN "tuple" "str" = false; decide +kernel
theorem isI_tuple_list {x : List PyData} : isI "tuple" (.list x) = false := by show isIN "tuple" "list" = false; decide +kernel
theorem isI_tuple_dict {x : List (PyData × PyData)} : isI "tuple" (.dict x) = false := by show isIN "tuple" "dict" = false; decide +kernel
theorem isI_list_inv {d : PyData} (h : isI "list" d = true) : ∃ ds, d = .list ds := by
  cases d with
  | list ds => exact ⟨ds, rfl⟩
  | none => rw [isI_list_none] at h; cases h
  | bool b => rw [isI_list_bool] at h; cases h
  | int i => rw [isI_list_int] at h; cases h
  | str x => rw [isI_list_str] at h; cases h
  | tuple x => rw [isI_list_tuple] at h; cases h
  | dict x => rw [isI_list_dict] at h; cases h
theorem isI_tuple_inv {d : PyData} (h : isI "tuple" d = true) : ∃ ds, d = .tuple ds := by
  cases d with
  | tuple ds => exact ⟨ds, rfl⟩
  | none => rw [isI_tuple_none] at h; cases h
  | bool b => rw [isI_tuple_bool] at h; cases h
  | int i => rw [isI_tuple_int] at h; cases h
  | str x => rw [isI_tuple_str] at h; cases h
  | list x => rw [isI_tuple_list] at h; cases h
  | dict x => rw [isI_tuple_dict] at h; cases h
theorem isRow_no {d : PyData} {hi : Int} (h : isI "list" d = false) : isRow d hi = false := by
  cases d with
  | list ds => rw [isI_list_list] at h; cases h
  | _ => rfl
theorem isCloth_no {d : PyData} (h : isI "list" d = false) : isCloth d = false := by
  cases d with
  | list ds => rw [isI_list_list] at h; cases h
  | _ => rfl
theorem isCloth_rows {ds : List PyData} (h : isCloth (.list ds) = true) : (1 ≤ ds.length ∧ ds.length ≤ 60) ∧ (∀ x ∈ ds, isRow x 1 = true) ∧ ∀ x ∈ ds, lenD x = lenD (ds.headD .none) := by
  unfold isCloth at h
  simp only [Bool.and_eq_true, List.all_eq_true, decide_eq_true_eq] at h
  exact h
theorem isRow_list {d : PyData} {hi : Int} (h : isRow d hi = true) : ∃ ds, d = .list ds ∧ (1 ≤ ds.length ∧ ds.length ≤ 60) := by
  cases d with
  | list ds =>
    unfold isRow at h
    simp only [Bool.and_eq_true, decide_eq_true_eq] at h
    exact ⟨ds, rfl, h.1⟩
  | _ => simp [isRow] at h
end DF
namespace DF
open Enc (enc)
abbrev Cl := List (List Int)
def warpOf (c : Cl) (k : Nat) : List Int := c.map fun row => row.getD k default
def quarter (c : Cl) : Cl := (List.range (c.getD 0 default).length).map fun k => (warpOf c k).map fun one => 1 - one
def over (c : Cl) : Cl := c.map fun row => row.reverse.map fun one => 1 - one
/-- a cloth -/
structure Good (c : Cl) : Prop where
  len : 1 ≤ c.length ∧ c.length ≤ 60
  rows : ∀ row ∈ c, row.length = (c.getD 0 default).length
  wide : 1 ≤ (c.getD 0 default).length ∧ (c.getD 0 default).length ≤ 60
  bits : ∀ row ∈ c, ∀ x ∈ row, x = 0 ∨ x = 1
end DF
namespace DF
open Enc (enc)
open PySem
theorem isRow_eq {ds : List PyData} {hi : Int} : isRow (.list ds) hi = (decide (1 ≤ ds.length ∧ ds.length ≤ 60) && ds.all fun x => isNum x 0 hi) := rfl
theorem isCloth_eq {ds : List PyData} : isCloth (.list ds) = (decide (1 ≤ ds.length ∧ ds.length ≤ 60) && (ds.all (fun x => isRow x 1) && ds.all fun x => decide (lenD x = lenD (ds.headD .none)))) := rfl
end DF
namespace DF
open Enc (enc)
open PySem PySem.Spec PyProof.Rows L2 Evl RT
/-! the rules that name the written part, with it said (within a comprehension's block it is the same) -/
section
variable {X : Cx} (K : PySem.W.Frag)
theorem ix_seqK (h : X.K = K := by rfl) : IxR X (rIx K) := by subst h; exact ix_seq
theorem call_lenK (h : X.K = K := by rfl) : CallR X (.builtin "len") (rLen K) := by subst h; exact call_len
theorem cr_allK (hc : X.calm = true) (h : X.K = K := by rfl) : CallR X (.builtin "all") (rAll K) := by subst h; exact cr_all hc
theorem cr_anyK (hc : X.calm = true) (h : X.K = K := by rfl) : CallR X (.builtin "any") (rAny K) := by subst h; exact cr_any hc
theorem call_isiK' (h : X.K = K := by rfl) : CallR X (.builtin "isinstance") (rIsi K) := by subst h; exact call_isi
theorem call_listK (h : X.K = K := by rfl) : CallR X (.type "list") (rListOf K) := by subst h; exact call_list_of
theorem op_eqDK (hu : X.A.units + 64 < cLine) (h : X.K = K := by rfl) : OpR X (compareOp .Eq) (rEqD K) := by subst h; exact op_eqD hu
theorem op_neDK (hu : X.A.units + 64 < cLine) (h : X.K = K := by rfl) : OpR X (compareOp .NotEq) (rNeD K) := by subst h; exact op_neD hu
theorem op_inDK (hu : X.A.units + 65 < cLine) (h : X.K = K := by rfl) : OpR X (compareOp .In) (rInD K) := by subst h; exact op_inD hu
theorem op_niDK (hu : X.A.units + 65 < cLine) (h : X.K = K := by rfl) : OpR X (compareOp .NotIn) (rNotInD K) := by subst h; exact op_notInD hu
theorem op_inSK (h : X.K = K := by rfl) : OpR X (compareOp .In) (rIn K false) := by subst h; exact op_in_seq
theorem sl_listK (h : X.K = K := by rfl) : SlR X (rSlL K) := by subst h; exact sl_list
theorem mt_indexDK (hu : X.A.units + 65 < cLine) (h : X.K = K := by rfl) : MtR X "list.index" (rIndexD K) := by subst h; exact mt_indexD hu
theorem pi_listK {tg l : Expr} {tl : TE} (hl : PE X l tl) (h : X.K = K := by rfl) : PI X tg l (iList K tl) := by subst h; exact pi_list hl
theorem pi_tupK {tg l : Expr} {tl : TE} (hl : PE X l tl) (h : X.K = K := by rfl) : PI X tg l (iTup K tl) := by subst h; exact pi_tup hl
theorem pi_revK {tg e : Expr} {te : TE} {p pos : Pos} (hg : Gl X "reversed") (hm : X.mg "reversed" = none) (he : PE X e te) (h : X.K = K := by rfl) (hs : starEach [e] X.env = (false, eval e X.env) :: starEach [] X.env := by rfl) : PI X tg (.Call (.Name "reversed" p) [e] [] pos) (iRevA K te) := by
  subst h; exact pi_revA hg hm he hs
theorem pe_bm0K {o : Expr} {to : TE} {name : Str} {apos cpos : Pos} {T id : String} {r : V → List V → Hp → VK → Prop} (pa : PlainAttrs T) (slot : Slot T name id) (hty : typeOf (.builtin id) = pure (.type "method_descriptor")) (hm : MtR X id r) (ho : PE X o to) (h : X.K = K := by rfl)
    (hbase : attributeBase o name X.env (eval o X.env) = eval o X.env := by rfl) (hline : (apos.endLine == cpos.line) = true := by rfl) : PE X (.Call (.Attribute o name apos) [] [] cpos) (tBM0 K T r to) := by
  subst h; exact pe_bm0 pa slot hty hm ho hbase hline
theorem pe_bmK {o e : Expr} {es : List Expr} {to : TE} {t : TA} {name : Str} {apos cpos : Pos} {T id : String} {r : V → List V → Hp → VK → Prop} (pa : PlainAttrs T) (slot : Slot T name id) (hty : typeOf (.builtin id) = pure (.type "method_descriptor")) (hm : MtR X id r) (ho : PE X o to) (ha : PA X (e :: es) t) (h : X.K = K := by rfl)
    (hbase : attributeBase o name X.env (eval o X.env) = eval o X.env := by rfl)
    (hfew : ((backTo cpos (starEach (e :: es) X.env)).all (fun x => !x.1) && (backToKw cpos (keywordEach [] X.env)).all (fun x => x.1.isSome)
      && decide ((e :: es).length + ([] : List Keyword).length + (if ([] : List Keyword).isEmpty then 0 else 1) < 30)) = true := by rfl)
    (hline : (apos.endLine == cpos.line) = true := by rfl) (hs : starEach (e :: es) X.env = (false, eval e X.env) :: starEach es X.env := by rfl) (hplain : (backTo cpos (starEach es X.env)).any (·.1) = false := by rfl) :
    PE X (.Call (.Attribute o name apos) (e :: es) [] cpos) (tBM K T r to t) := by
  subst h; exact pe_bm pa slot hty hm ho ha hbase hfew hline hs hplain
theorem pe_calK (P : Program) (w : World) (mg : Str → Option Value) (base : Heap) {k : Nat} {x : Str} {ps : List Str} {sp : Sp} {p pos : Pos} {e : Expr} {es : List Expr} {t : TA} (C : Cal P w K mg base CX0 k x ps sp) (hr : Room k X.A) (hg : Gl X x) (ha : PA X (e :: es) t)
    (h1 : X.prog = P := by rfl) (h2 : X.w = w := by rfl) (h3 : X.K = K := by rfl) (h4 : X.mg = mg := by rfl) (h5 : X.base = base := by rfl)
    (hdb : (x == ("__debug__" : Str)) = false := by decide) (he : starEach (e :: es) X.env = (false, eval e X.env) :: starEach es X.env := by rfl) (hpl : (backTo pos (starEach es X.env)).any (·.1) = false := by rfl) :
    PE X (.Call (.Name x p) (e :: es) [] pos) (tCall sp [] E0 t) := by
  subst h1 h2 h3 h4 h5
  exact pe_cal C hr hg ha hdb he hpl
end
end DF
namespace DF
open Enc (enc)
open PySem PySem.Spec PyProof.Rows L2 Evl RT
section
variable {K : PySem.W.Frag} {ρ : Rho} {te ta tb tl : TE} {i j : Int}
theorem v_eqI (ha : VD K ta ρ (.int i)) (hb : VD K tb ρ (.int j)) : VD K (tOp (rEqD K) ta tb) ρ (.bool (decide (i = j))) := v_eq (α := Int) (x := i) (y := j) ha hb
theorem v_neI (ha : VD K ta ρ (.int i)) (hb : VD K tb ρ (.int j)) : VD K (tOp (rNeD K) ta tb) ρ (.bool (!decide (i = j))) := v_ne (α := Int) (x := i) (y := j) ha hb
end
theorem isNum_bit {x : Int} (h : x = 0 ∨ x = 1) : isNum (enc x) 0 1 = true := by
  show (decide ((0 : Int) ≤ x) && decide (x ≤ 1)) = true
  rw [decide_eq_true (by omega), decide_eq_true (by omega)]; rfl
theorem Good.pos {c : Cl} (g : Good c) : 0 < c.length := by have := g.len; omega
theorem Good.row {c : Cl} (g : Good c) {row : List Int} (h : row ∈ c) : 1 ≤ row.length ∧ row.length ≤ 60 := by rw [g.rows row h]; exact g.wide
theorem Good.is {c : Cl} (g : Good c) : isCloth (enc c) = true := by
  show isCloth (.list (c.map enc)) = true
  rw [isCloth_eq, Bool.and_eq_true, Bool.and_eq_true]
  refine ⟨decide_eq_true (by rw [List.length_map]; exact g.len), ?_, ?_⟩
  · rw [List.all_eq_true]
    intro x hx
    obtain ⟨row, hr, rfl⟩ := List.mem_map.mp hx
    show isRow (.list (row.map enc)) 1 = true
    rw [isRow_eq, Bool.and_eq_true]
    refine ⟨decide_eq_true (by rw [List.length_map]; exact g.row hr), ?_⟩
    rw [List.all_eq_true]
    intro y hy
    obtain ⟨v, hv, rfl⟩ := List.mem_map.mp hy
    exact isNum_bit (g.bits row hr v hv)
  · rw [List.all_eq_true]
    intro x hx
    obtain ⟨row, hr, rfl⟩ := List.mem_map.mp hx
    have h0 : (c.map enc).headD .none = enc (c.getD 0 default) := by
      cases c with
      | nil => cases hr
      | cons a r => rfl
    rw [h0]
    refine decide_eq_true ?_
    show (row.map enc).length = ((c.getD 0 default).map enc).length
    rw [List.length_map, List.length_map]
    exact g.rows row hr
theorem Good.at_ {c : Cl} (g : Good c) {k : Nat} (h : k < c.length) : c.getD k default ∈ c := by
  rw [List.getD_eq_getElem?_getD, List.getElem?_eq_getElem h]
  exact List.getElem_mem h
theorem Good.bit {c : Cl} (g : Good c) {row : List Int} (h : row ∈ c) (j : Nat) : row.getD j default = 0 ∨ row.getD j default = 1 := by
  rw [List.getD_eq_getElem?_getD]
  by_cases hj : j < row.length
  · rw [List.getElem?_eq_getElem hj]
    exact g.bits row h _ (List.getElem_mem hj)
  · rw [List.getElem?_eq_none (by omega)]
    exact .inl rfl
end DF
namespace DF
open Enc (enc)
/-! what a script draws -/
def cellAt (ns : List Int) (k : Nat) : Int := ns.getD k 0
def mixed (c : Int) (k : Nat) : Int := ((((c % 1000000007 + 17) * 48271 % 2147483647 + (k : Int)) * ((k : Int) * (k : Int) + 16807) % 2147483629) * 69621 % 2147483647) / 7
end DF
namespace DF
open Enc (enc)
theorem rev_range (row : List Int) : ((List.range row.length).map fun k => 1 - row.getD (row.length - 1 - k) default) = row.reverse.map fun one => 1 - one := by
  apply List.ext_getElem?
  intro i
  rw [List.getElem?_map, List.getElem?_map]
  by_cases h : i < row.length
  · rw [List.getElem?_range h, List.getElem?_reverse h, List.getElem?_eq_getElem (show row.length - 1 - i < row.length by omega)]
    simp only [Option.map_some]
    rw [List.getD_eq_getElem?_getD, List.getElem?_eq_getElem (show row.length - 1 - i < row.length by omega)]
    rfl
  · rw [List.getElem?_eq_none (by simpa using h), List.getElem?_eq_none (by simpa using h)]
    rfl
end DF

namespace DF
open Enc (enc)
open PySem PySem.Spec PyProof.Rows L2 Evl RT
/-- the same slots but one -/
structure But (j : Nat) (σ σ' : L2.St) : Prop where
  len : σ'.length = σ.length
  at_ : ∀ a : Nat, a ≠ j → σ'[a]? = σ[a]?
theorem But.refl (j : Nat) (σ : L2.St) : But j σ σ := ⟨rfl, fun _ _ => rfl⟩
theorem But.set {j : Nat} {σ σ' : L2.St} (b : But j σ σ') (x : Option V) : But j σ (σ'.set j x) := ⟨by rw [List.length_set, b.len], fun a h => by rw [List.getElem?_set_ne (Ne.symm h)]; exact b.at_ a h⟩
theorem But.env {K : PySem.W.Frag} {H : Hp} {σ σ' : L2.St} {ρ : Rho} {j : Nat} (b : But j σ σ') (n : Env K H σ ρ) : Env K H σ' (ρ.set j none) := ⟨by rw [b.len, n.1, List.length_set], fun a z h => by
  by_cases e : j = a
  · subst e
    by_cases hi : j < ρ.length
    · rw [List.getElem?_set_self hi] at h; cases h
    · rw [List.getElem?_eq_none (by simpa using hi)] at h; cases h
  · rw [List.getElem?_set_ne e] at h
    rw [b.at_ a (Ne.symm e)]
    exact n.2 a z h⟩
section
variable {K : PySem.W.Frag} {ρ : Rho} {te ta tb tl : TE} {tt : TT} {d : PyData} {z : Ent} {b : Bool} {H H0 H' H1 : Hp} {σ : L2.St} {D : Ends} {t u : TS} {p : Addr} {acc : List PyData}
/-- what the slots tell of H0 is known of every heap that holds H0 -/
theorem Env.of {ρ : Rho} (n : Env K H0 σ ρ) (g : Grown H0 H p acc) : Env K H σ ρ := n.mono g.ex
/-- for x in range(m): xs.append(e) -/
theorem s_growR {m : Int} {i j : Nat} (f : Nat → PyData) (hij : i ≠ j) (hl : VD K tl ρ (.int m)) (hm : -100000 ≤ m ∧ m ≤ 10000) (hz : acc.length ≤ 10000) (hi : σ[i]? = some (some (.ref p))) (g : Grown H0 H p acc) (n : Env K H0 σ ρ)
    (he : ∀ k : Nat, (k : Int) < m → VN K te ((ρ.set j none).set j (some (.d (.int (k : Int))))) (f k))
    (done : ∀ σ' H', But j σ σ' → Grown H0 H' p (acc ++ (List.range m.toNat).map f) → D.nx σ' H') : tFor (iRng1 (tCons tl tNil)) (gName j) (tDrop (tBM K "list" rAppend (tVar i) (tCons te tNil))) D σ H :=
  hl σ H (n.of g) _ fun v H1 e1 r1 => by
    cases Tp.int_inv r1
    refine ⟨m, rfl, by omega, by omega, ?_⟩
    refine for_range (lo := 0) (n := m.toNat) (fun k σ' H' => But j σ σ' ∧ Grown H0 H' p (acc ++ ((List.range m.toNat).take k).map f)) ⟨But.refl j σ, by simpa using g.mono e1⟩ (fun k σ' H' hk pv => ?_) (fun σ' H' pv => ?_)
    · obtain ⟨bt, g'⟩ := pv
      have e0 : (0 : Int) + (k : Int) = (k : Int) := Int.zero_add _
      rw [e0]
      have n' := (bt.env n).of g'
      refine s_push (ρ := (ρ.set j none).set j (some (.d (.int (k : Int))))) (d := f k) (by rw [List.getElem?_set_ne (Ne.symm hij), bt.at_ i hij]; exact hi) g' (by rw [List.length_append, List.length_map, List.length_take, List.length_range]; omega) (n'.set j (z := .d (.int (k : Int))) (.int _)) (he k (by omega)) fun H2 _ g2 => ?_
      refine ⟨bt.set _, ?_⟩
      rw [List.append_assoc] at g2
      rw [range_take hk, List.map_append, List.take_range]
      rw [List.take_range] at g2
      exact g2
    · obtain ⟨bt, g'⟩ := pv
      rw [List.take_of_length_le (by simp)] at g'
      exact done σ' H' bt g'
/-- for x in ys: xs.append(e) -/
theorem s_growL {ds : List PyData} {i j : Nat} (f : PyData → PyData) (hij : i ≠ j) (hl : VS K tl ρ (.list ds)) (hz : acc.length + ds.length ≤ 20000) (hi : σ[i]? = some (some (.ref p))) (g : Grown H0 H p acc) (n : Env K H0 σ ρ)
    (he : ∀ x ∈ ds, VN K te ((ρ.set j none).set j (some (.d x))) (f x))
    (done : ∀ σ' H', But j σ σ' → Grown H0 H' p (acc ++ ds.map f) → D.nx σ' H') : tFor (iList K tl) (gName j) (tDrop (tBM K "list" rAppend (tVar i) (tCons te tNil))) D σ H :=
  hl σ H0 H n g.ex _ fun v H1 e1 r1 => by
    obtain ⟨a, xs, rfl, ea, t'⟩ := Tp.lst_inv r1
    have g1 := g.mono e1
    refine ⟨a, rfl, ⟨xs, SqL.of (g1.ex _ _ ea)⟩, ?_⟩
    refine for_list (xs := xs) (fun k σ' H' => But j σ σ' ∧ Grown H0 H' p (acc ++ (ds.take k).map f)) ⟨But.refl j σ, by simpa using g1⟩ (fun k σ' H' _ pv => SqL.of (pv.2.ex _ _ ea)) (fun k x σ' H' hx pv => ?_) (fun σ' H' pv => ?_)
    · obtain ⟨bt, g'⟩ := pv
      obtain ⟨d, hd, td⟩ := t'.getV hx
      have hm : d ∈ ds := List.mem_of_getElem? hd
      have hk : k < ds.length := (List.getElem?_eq_some_iff.mp hd).1
      have n' := (bt.env n).of g'
      refine s_push (ρ := (ρ.set j none).set j (some (.d d))) (d := f d) (by rw [List.getElem?_set_ne (Ne.symm hij), bt.at_ i hij]; exact hi) g' (by rw [List.length_append, List.length_map, List.length_take]; omega) (n'.set j (z := .d d) (td.mono g'.ex)) (he d hm) fun H2 _ g2 => ?_
      refine ⟨bt.set _, ?_⟩
      rw [List.append_assoc] at g2
      rw [List.take_add_one, hd, List.map_append]
      exact g2
    · obtain ⟨bt, g'⟩ := pv
      rw [t'.len, List.take_length] at g'
      exact done σ' H' bt g'
/-- xs = [] -/
theorem s_empty {i : Nat} (k : ∀ p, H p = none → Grown H (upd H p (.lst [])) p [] → D.nx (σ.set i (some (.ref p))) (upd H p (.lst []))) : tAsg (tLst tNil) (gName i) D σ H :=
  ⟨Nat.zero_le _, fun p hp => k p hp (grown_start hp (Ex.new hp) upd_same)⟩
theorem New.put {H0 H1 H : Hp} {v : V} {vs : List V} {d : PyData} {ds : List PyData} {G : List Addr} (h : ∃ F, Own H v d F ∧ (∀ a ∈ F, H0 a = none) ∧ ∀ a ∈ F, a ∉ G) (o : OwnAll H vs ds G) (f : ∀ a ∈ G, H0 a = none) :
    ∃ F, OwnAll H (v :: vs) (d :: ds) F ∧ ∀ a ∈ F, H0 a = none := by
  obtain ⟨F, o1, f1, dj⟩ := h
  exact ⟨F ++ G, .cons o1 o dj, fun a ha => (List.mem_append.mp ha).elim (f1 a) (f a)⟩
/-- three of one's own, made one after another -/
theorem own3 {H0 H1 H2 H3 : Hp} {u v w : V} {a b c : PyData} (e0 : Ex H0 H1) (e1 : Ex H1 H2) (e2 : Ex H2 H3) (h1 : New H0 H1 u a) (h2 : New H1 H2 v b) (h3 : New H2 H3 w c) :
    ∃ F G L, Own H3 u a F ∧ Own H3 v b G ∧ Own H3 w c L ∧ (∀ x ∈ F, H0 x = none) ∧ (∀ x ∈ G, H0 x = none) ∧ (∀ x ∈ L, H0 x = none) ∧ (∀ x ∈ F, x ∉ G) ∧ (∀ x ∈ F, x ∉ L) ∧ (∀ x ∈ G, x ∉ L) := by
  obtain ⟨F, o1, f1⟩ := h1
  obtain ⟨G, o2, f2⟩ := h2
  obtain ⟨L, o3, f3⟩ := h3
  refine ⟨F, G, L, o1.mono (e1.trans e2), o2.mono e2, o3, f1, fun x hx => fresh_back e0 (f2 x hx), fun x hx => fresh_back (e0.trans e1) (f3 x hx), fun x hx hg => ?_, fun x hx hl => ?_, fun x hx hl => ?_⟩
  · obtain ⟨xs, q⟩ := o1.at_ x hx
    rw [f2 x hg] at q; cases q
  · obtain ⟨xs, q⟩ := o1.at_ x hx
    have := f3 x hl
    rw [e1 _ _ q] at this; cases this
  · obtain ⟨xs, q⟩ := o2.at_ x hx
    rw [f3 x hl] at q; cases q
end

/-! ### drafts -/
structure Dr where
  th : List Int
  ti : Cl
  tr : List Int
  deriving DecidableEq
@[reducible] instance : Enc Dr where
  enc := fun d => .tuple [enc d.th, enc d.ti, enc d.tr]
  eqv_enc := fun x y => by
    obtain ⟨a, b, c⟩ := x
    obtain ⟨a', b', c'⟩ := y
    simp only [PyData.eqv, PyData.eqvAll, Bool.and_eq_true, and_true, Dr.mk.injEq]
    exact and_congr (Enc.eqv_enc a a') (and_congr (Enc.eqv_enc b b') (Enc.eqv_enc c c'))
  lay := fun x => by simp only [PyData.canLay0, PyData.canLayAll0, Bool.and_eq_true]; exact ⟨Enc.lay x.th, Enc.lay x.ti, Enc.lay x.tr, trivial⟩
  deep := 4
  depth := fun x => by
    have h1 := Enc.depth x.th
    have h2 := Enc.depth x.ti
    have h3 := Enc.depth x.tr
    have e1 : Enc.deep (List Int) = 2 := rfl
    have e2 : Enc.deep Cl = 3 := rfl
    simp only [PyData.depth, PyData.depthAll] at *
    omega
def shaftsOf (ns : List Int) (k : Nat) : Int := if cellAt ns (k + 4) % 8 = 1 then 1 + cellAt ns k % 60 else 1 + cellAt ns k % 5
def treadlesOf (ns : List Int) (k : Nat) : Int := if cellAt ns (k + 4) % 8 = 2 then 1 + cellAt ns (k + 1) % 60 else 1 + cellAt ns (k + 1) % 5
def warpsOf (ns : List Int) (k : Nat) : Int := if cellAt ns (k + 4) % 8 = 3 then 10 + cellAt ns (k + 2) % 16 else if cellAt ns (k + 4) % 8 = 1 then 60 - cellAt ns (k + 2) % 31 else 1 + cellAt ns (k + 2) % 9
def weftsOf (ns : List Int) (k : Nat) : Int := if cellAt ns (k + 4) % 8 = 3 then 10 + cellAt ns (k + 3) % 16 else if cellAt ns (k + 4) % 8 = 2 then 60 - cellAt ns (k + 3) % 31 else 1 + cellAt ns (k + 3) % 9
theorem shafts_b (ns : List Int) (k : Nat) : 1 ≤ shaftsOf ns k ∧ shaftsOf ns k ≤ 60 := by unfold shaftsOf; split <;> omega
theorem treadles_b (ns : List Int) (k : Nat) : 1 ≤ treadlesOf ns k ∧ treadlesOf ns k ≤ 60 := by unfold treadlesOf; split <;> omega
theorem warps_b (ns : List Int) (k : Nat) : 1 ≤ warpsOf ns k ∧ warpsOf ns k ≤ 60 := by unfold warpsOf; split <;> first | omega | (split <;> omega)
theorem wefts_b (ns : List Int) (k : Nat) : 1 ≤ weftsOf ns k ∧ weftsOf ns k ≤ 60 := by unfold weftsOf; split <;> first | omega | (split <;> omega)
def draftBy (ns : List Int) (k : Nat) : Dr where
  th := (List.range (warpsOf ns k).toNat).map fun i => mixed (cellAt ns (k + 5)) i % shaftsOf ns k
  ti := (List.range (shaftsOf ns k).toNat).map fun s => (List.range (treadlesOf ns k).toNat).map fun i => mixed (cellAt ns (k + 7)) (61 * s + i) % 2
  tr := (List.range (weftsOf ns k).toNat).map fun i => mixed (cellAt ns (k + 6)) i % treadlesOf ns k
/-- a draft -/
structure GoodD (d : Dr) : Prop where
  ti : Good d.ti
  th : 1 ≤ d.th.length ∧ d.th.length ≤ 60
  tr : 1 ≤ d.tr.length ∧ d.tr.length ≤ 60
  sh : ∀ s ∈ d.th, 0 ≤ s ∧ s < d.ti.length
  tl : ∀ t ∈ d.tr, 0 ≤ t ∧ t < (d.ti.getD 0 default).length
def woven (d : Dr) : Cl := d.tr.map fun t => d.th.map fun s => (d.ti.getD s.toNat default).getD t.toNat default
theorem getD_map {α β : Type} [Inhabited β] (f : α → β) (xs : List α) (i : Nat) (h : i < xs.length) : (xs.map f).getD i default = f xs[i] := by
  rw [List.getD_eq_getElem?_getD, List.getElem?_map, List.getElem?_eq_getElem h]
  rfl
theorem draftBy_good (ns : List Int) (k : Nat) : GoodD (draftBy ns k) := by
  have h1 := shafts_b ns k
  have h2 := treadles_b ns k
  have h3 := warps_b ns k
  have h4 := wefts_b ns k
  have w0 : ((draftBy ns k).ti.getD 0 default).length = (treadlesOf ns k).toNat := by
    unfold draftBy
    simp only []
    rw [getD_map _ _ _ (by rw [List.length_range]; omega)]
    simp
  have tl : (draftBy ns k).ti.length = (shaftsOf ns k).toNat := by simp [draftBy]
  refine ⟨⟨?_, ?_, ?_, ?_⟩, ?_, ?_, ?_, ?_⟩
  · rw [tl]; omega
  · intro row hr
    rw [w0]
    obtain ⟨s, _, rfl⟩ := List.mem_map.mp hr
    simp
  · rw [w0]; omega
  · intro row hr x hx
    obtain ⟨s, _, rfl⟩ := List.mem_map.mp hr
    obtain ⟨i, _, rfl⟩ := List.mem_map.mp hx
    omega
  · show 1 ≤ (List.map _ (List.range (warpsOf ns k).toNat)).length ∧ (List.map _ (List.range (warpsOf ns k).toNat)).length ≤ 60
    rw [List.length_map, List.length_range]; omega
  · show 1 ≤ (List.map _ (List.range (weftsOf ns k).toNat)).length ∧ (List.map _ (List.range (weftsOf ns k).toNat)).length ≤ 60
    rw [List.length_map, List.length_range]; omega
  · intro s hs
    rw [tl]
    obtain ⟨i, _, rfl⟩ := List.mem_map.mp hs
    have a := Int.emod_nonneg (mixed (cellAt ns (k + 5)) i) (show shaftsOf ns k ≠ 0 by omega)
    have b := Int.emod_lt_of_pos (mixed (cellAt ns (k + 5)) i) (show 0 < shaftsOf ns k by omega)
    omega
  · intro t ht
    rw [w0]
    obtain ⟨i, _, rfl⟩ := List.mem_map.mp ht
    have a := Int.emod_nonneg (mixed (cellAt ns (k + 6)) i) (show treadlesOf ns k ≠ 0 by omega)
    have b := Int.emod_lt_of_pos (mixed (cellAt ns (k + 6)) i) (show 0 < treadlesOf ns k by omega)
    omega
theorem woven_good {d : Dr} (g : GoodD d) : Good (woven d) := by
  have h0 : ((woven d).getD 0 default).length = d.th.length := by
    unfold woven
    rw [getD_map _ _ _ (by have := g.tr; omega)]
    simp
  refine ⟨by show 1 ≤ (List.map _ d.tr).length ∧ (List.map _ d.tr).length ≤ 60; rw [List.length_map]; exact g.tr, fun row hr => ?_, by rw [h0]; exact g.th, fun row hr x hx => ?_⟩
  · rw [h0]
    obtain ⟨t, _, rfl⟩ := List.mem_map.mp hr
    simp
  · obtain ⟨t, ht, rfl⟩ := List.mem_map.mp hr
    obtain ⟨s, hs, rfl⟩ := List.mem_map.mp hx
    have := g.sh s hs
    exact g.ti.bit (g.ti.at_ (k := s.toNat) (by omega)) t.toNat
end DF
namespace DF
open Enc (enc)
open PySem PySem.Spec PyProof.Rows L2 Evl RT
section
variable {K : PySem.W.Frag} {ρ : Rho} {te ta tb tl : TE} {tt : TT} {d : PyData} {z : Ent} {b : Bool} {H H0 H' H1 : Hp} {σ : L2.St} {D : Ends} {t u : TS} {p : Addr} {acc : List PyData}
theorem q_setN {i : Nat} (h : VN K te ρ d) (n : Env K H σ ρ) (k : ∀ v H', Ex H H' → New H H' v d → Env K H' (σ.set i (some v)) (ρ.set i (some (.d d))) → u D (σ.set i (some v)) H') : tSeq (tAsg te (gName i)) u D σ H :=
  h σ H n _ fun v H' e w => k v H' e w ((n.mono e).set i (z := .d d) w.tp)
theorem q_setV {i : Nat} (h : VE K te ρ z) (n : Env K H σ ρ) (k : ∀ v H', Ex H H' → Rep K H' v z → Env K H' (σ.set i (some v)) (ρ.set i (some z)) → u D (σ.set i (some v)) H') : tSeq (tAsg te (gName i)) u D σ H :=
  h σ H n _ fun v H' e w => k v H' e w ((n.mono e).set i w)
theorem q_empty {i : Nat} (k : ∀ p, H p = none → Grown H (upd H p (.lst [])) p [] → u D (σ.set i (some (.ref p))) (upd H p (.lst []))) : tSeq (tAsg (tLst tNil) (gName i)) u D σ H :=
  s_empty (D := { D with nx := u D }) k
theorem q_growR {m : Int} {i j : Nat} (f : Nat → PyData) (hij : i ≠ j) (hl : VD K tl ρ (.int m)) (hm : -100000 ≤ m ∧ m ≤ 10000) (hz : acc.length ≤ 10000) (hi : σ[i]? = some (some (.ref p))) (g : Grown H0 H p acc) (n : Env K H0 σ ρ)
    (he : ∀ k : Nat, (k : Int) < m → VN K te ((ρ.set j none).set j (some (.d (.int (k : Int))))) (f k))
    (done : ∀ σ' H', But j σ σ' → Grown H0 H' p (acc ++ (List.range m.toNat).map f) → u D σ' H') : tSeq (tFor (iRng1 (tCons tl tNil)) (gName j) (tDrop (tBM K "list" rAppend (tVar i) (tCons te tNil)))) u D σ H :=
  s_growR (D := { D with nx := u D }) f hij hl hm hz hi g n he done
theorem q_growL {ds : List PyData} {i j : Nat} (f : PyData → PyData) (hij : i ≠ j) (hl : VS K tl ρ (.list ds)) (hz : acc.length + ds.length ≤ 20000) (hi : σ[i]? = some (some (.ref p))) (g : Grown H0 H p acc) (n : Env K H0 σ ρ)
    (he : ∀ x ∈ ds, VN K te ((ρ.set j none).set j (some (.d x))) (f x))
    (done : ∀ σ' H', But j σ σ' → Grown H0 H' p (acc ++ ds.map f) → u D σ' H') : tSeq (tFor (iList K tl) (gName j) (tDrop (tBM K "list" rAppend (tVar i) (tCons te tNil)))) u D σ H :=
  s_growL (D := { D with nx := u D }) f hij hl hz hi g n he done
theorem s_retTup3 {i j l : Nat} {x y w : V} {a b c : PyData} (h1 : σ[i]? = some (some x)) (h2 : σ[j]? = some (some y)) (h3 : σ[l]? = some (some w)) (o : ∃ F, OwnAll H [x, y, w] [a, b, c] F ∧ ∀ x ∈ F, H0 x = none)
    (k : ∀ v H', Ex H H' → New H0 H' v (.tuple [a, b, c]) → D.rt v H') : tRet (tTup (tCons (tVar i) (tCons (tVar j) (tCons (tVar l) tNil)))) D σ H := by
  obtain ⟨F, o, f⟩ := o
  exact ⟨x, h1, y, h2, w, h3, (show 3 ≤ sizeLine by decide), fun q hq => k _ _ (Ex.new hq) ⟨F, .tup upd_same (o.mono (Ex.new hq)), f⟩⟩
theorem s_retVar {i : Nat} {x : V} (h1 : σ[i]? = some (some x)) (k : D.rt x H) : tRet (tVar i) D σ H := ⟨x, h1, k⟩
end
end DF
namespace DF
open Enc (enc)
open PySem PySem.Spec PyProof.Rows L2 Evl RT
/-- the same slots but some -/
structure Buts (js : List Nat) (σ σ' : L2.St) : Prop where
  len : σ'.length = σ.length
  at_ : ∀ a : Nat, a ∉ js → σ'[a]? = σ[a]?
theorem Buts.refl (js : List Nat) (σ : L2.St) : Buts js σ σ := ⟨rfl, fun _ _ => rfl⟩
theorem Buts.set {js : List Nat} {j : Nat} {σ σ' : L2.St} (b : Buts js σ σ') (x : Option V) (h : j ∈ js) : Buts js σ (σ'.set j x) := ⟨by rw [List.length_set, b.len], fun a ha => by rw [List.getElem?_set_ne (fun e : j = a => ha (by rw [← e]; exact h))]; exact b.at_ a ha⟩
theorem Buts.but {js : List Nat} {j : Nat} {σ σ' σ2 : L2.St} (b : Buts js σ σ') (c : But j σ' σ2) (h : j ∈ js) : Buts js σ σ2 := ⟨by rw [c.len, b.len], fun a ha => by rw [c.at_ a (fun e : a = j => ha (by rw [e]; exact h))]; exact b.at_ a ha⟩
theorem Buts.trans {js : List Nat} {σ σ' σ2 : L2.St} (b : Buts js σ σ') (c : Buts js σ' σ2) : Buts js σ σ2 := ⟨by rw [c.len, b.len], fun a ha => by rw [c.at_ a ha]; exact b.at_ a ha⟩
theorem wipeR_len (ρ : Rho) : ∀ js : List Nat, (wipeR ρ js).length = ρ.length
  | [] => rfl
  | j :: js => by show ((wipeR ρ js).set j none).length = _; rw [List.length_set, wipeR_len ρ js]
theorem wipeR_some {ρ : Rho} {a : Nat} {z : Ent} : ∀ {js : List Nat}, (wipeR ρ js)[a]? = some (some z) → ρ[a]? = some (some z) ∧ a ∉ js
  | [], h => ⟨h, fun z => nomatch z⟩
  | j :: js, h => by
    have h : ((wipeR ρ js).set j none)[a]? = some (some z) := h
    by_cases e : j = a
    · subst e
      by_cases hi : j < (wipeR ρ js).length
      · rw [List.getElem?_set_self hi] at h; cases h
      · rw [List.getElem?_eq_none (by simpa using hi)] at h; cases h
    · rw [List.getElem?_set_ne e] at h
      obtain ⟨h1, h2⟩ := wipeR_some h
      exact ⟨h1, fun m => (List.mem_cons.mp m).elim (fun q => e q.symm) h2⟩
theorem Buts.env {K : PySem.W.Frag} {H : Hp} {σ σ' : L2.St} {ρ : Rho} {js : List Nat} (b : Buts js σ σ') (n : Env K H σ ρ) : Env K H σ' (wipeR ρ js) := ⟨by rw [b.len, n.1, wipeR_len], fun a z h => by
  obtain ⟨h1, h2⟩ := wipeR_some h
  rw [b.at_ a h2]
  exact n.2 a z h1⟩
section
variable {K : PySem.W.Frag} {ρ : Rho} {te ta tb tl : TE} {tt : TT} {d : PyData} {z : Ent} {b : Bool} {H H0 H' H1 : Hp} {σ : L2.St} {D : Ends} {t u : TS} {p : Addr} {acc : List PyData}
/-- a loop over a list whose turns each put one behind the list at p -/
theorem s_loopL {ds : List PyData} {j : Nat} {js : List Nat} (f : PyData → PyData) (hj : j ∈ js) (hl : VS K tl ρ (.list ds)) (g : Grown H0 H p acc) (n : Env K H0 σ ρ)
    (body : ∀ x ∈ ds, ∀ (v : V) (pre : List PyData) (σ' : L2.St) (H' : Hp) (D' : Ends), pre.length ≤ acc.length + ds.length → Buts js σ σ' → Grown H0 H' p pre → Tp H0 v x → Env K H0 (σ'.set j (some v)) ((wipeR ρ js).set j (some (.d x))) → D'.rt = D.rt →
      (∀ σ2 H2, Buts js σ σ2 → Grown H0 H2 p (pre ++ [f x]) → D'.nx σ2 H2) → t D' (σ'.set j (some v)) H')
    (done : ∀ σ' H', Buts js σ σ' → Grown H0 H' p (acc ++ ds.map f) → D.nx σ' H') : tFor (iList K tl) (gName j) t D σ H :=
  hl σ H0 H n g.ex _ fun v H1 e1 r1 => by
    obtain ⟨a, xs, rfl, ea, t'⟩ := Tp.lst_inv r1
    have g1 := g.mono e1
    refine ⟨a, rfl, ⟨xs, SqL.of (g1.ex _ _ ea)⟩, ?_⟩
    refine for_list (xs := xs) (fun k σ' H' => Buts js σ σ' ∧ Grown H0 H' p (acc ++ (ds.take k).map f)) ⟨Buts.refl js σ, by simpa using g1⟩ (fun k σ' H' _ pv => SqL.of (pv.2.ex _ _ ea)) (fun k x σ' H' hx pv => ?_) (fun σ' H' pv => ?_)
    · obtain ⟨bt, g'⟩ := pv
      obtain ⟨d, hd, td⟩ := t'.getV hx
      have hm : d ∈ ds := List.mem_of_getElem? hd
      have hk : k < ds.length := (List.getElem?_eq_some_iff.mp hd).1
      refine body d hm x (acc ++ (ds.take k).map f) σ' H' _ (by rw [List.length_append, List.length_map, List.length_take]; omega) bt g' td ((bt.env n).set j (z := .d d) td) rfl fun σ2 H2 b2 g2 => ?_
      refine ⟨b2, ?_⟩
      rw [List.append_assoc] at g2
      rw [List.take_add_one, hd, List.map_append]
      exact g2
    · obtain ⟨bt, g'⟩ := pv
      rw [t'.len, List.take_length] at g'
      exact done σ' H' bt g'
theorem q_loopL {ds : List PyData} {j : Nat} {js : List Nat} (f : PyData → PyData) (hj : j ∈ js) (hl : VS K tl ρ (.list ds)) (g : Grown H0 H p acc) (n : Env K H0 σ ρ)
    (body : ∀ x ∈ ds, ∀ (v : V) (pre : List PyData) (σ' : L2.St) (H' : Hp) (D' : Ends), pre.length ≤ acc.length + ds.length → Buts js σ σ' → Grown H0 H' p pre → Tp H0 v x → Env K H0 (σ'.set j (some v)) ((wipeR ρ js).set j (some (.d x))) → D'.rt = D.rt →
      (∀ σ2 H2, Buts js σ σ2 → Grown H0 H2 p (pre ++ [f x]) → D'.nx σ2 H2) → t D' (σ'.set j (some v)) H')
    (done : ∀ σ' H', Buts js σ σ' → Grown H0 H' p (acc ++ ds.map f) → u D σ' H') : tSeq (tFor (iList K tl) (gName j) t) u D σ H :=
  s_loopL (D := { D with nx := u D }) f hj hl g n body done
/-- xs.append(v), v a value of one's own in a slot -/
theorem s_pushV {i l : Nat} {v : V} (hi : σ[i]? = some (some (.ref p))) (hl : σ[l]? = some (some v)) (g : Grown H0 H1 p acc) (e : Ex H1 H) (w : New H1 H v d) (hz : acc.length < 100000)
    (k : ∀ H', Grown H0 H' p (acc ++ [d]) → D.nx σ H') : tDrop (tBM K "list" rAppend (tVar i) (tCons (tVar l) tNil)) D σ H := by
  obtain ⟨vs, hv, hl', g'⟩ := g.push e w
  exact ⟨.ref p, hi, .inl ⟨rfl, vs, SqL.of hv⟩, v, hl, p, vs, v, rfl, rfl, hv, sz_lt (by rw [hl']; exact hz), k _ g'⟩
end
end DF
namespace DF
open Enc (enc)
open PySem PySem.Spec PyProof.Rows L2 Evl RT
theorem findR_none {f : Nat → Option PyData} {ρ : Rho} : ∀ {l : List Nat}, (∀ i ∈ l, f i = none) → findR f ρ l = .nx ρ
  | [], _ => rfl
  | i :: r, h => by
    unfold findR
    rw [h i List.mem_cons_self]
    exact findR_none fun j hj => h j (List.mem_cons_of_mem _ hj)
theorem findR_some {f : Nat → Option PyData} {ρ : Rho} {d : PyData} : ∀ {l : List Nat}, (∀ i ∈ l, f i = none ∨ f i = some d) → (∃ i ∈ l, f i = some d) → findR f ρ l = .ret d
  | [], _, h => by obtain ⟨i, hi, _⟩ := h; cases hi
  | i :: r, h, hs => by
    unfold findR
    rcases h i List.mem_cons_self with q | q
    · rw [q]
      obtain ⟨j, hj, hf⟩ := hs
      rcases List.mem_cons.mp hj with rfl | hj
      · rw [q] at hf; cases hf
      · exact findR_some (fun k hk => h k (List.mem_cons_of_mem _ hk)) ⟨j, hj, hf⟩
    · rw [q]
theorem getD_ext {α : Type} [Inhabited α] {xs ys : List α} (hl : xs.length = ys.length) (h : ∀ i : Nat, i < ys.length → xs.getD i default = ys.getD i default) : xs = ys := by
  apply List.ext_getElem hl
  intro i h1 h2
  have := h i h2
  rw [List.getD_eq_getElem?_getD, List.getD_eq_getElem?_getD, List.getElem?_eq_getElem h1, List.getElem?_eq_getElem h2] at this
  exact this
theorem isI_list_enc {α : Type} [Enc α] (xs : List α) : isI "list" (enc xs) = true := isI_list_list
section
variable {K : PySem.W.Frag} {ρ : Rho} {te ta tb tl : TE} {tt : TT}
/-- all([isinstance(one, int) and not isinstance(one, bool) for one in xs]) -/
theorem v_allInts {xs : List Int} {j : Nat} {vs : List Nat} (hl : VD K tl ρ (enc xs)) (hz : xs.length ≤ 10000) (hj : j ∈ vs) (hv : ∀ z : Ent, ((wipeR ρ vs).set j (some z))[j]? = some (some z)) :
    VD K (tCB (rAll K) (tCons (tLc (iList K tl) (gName j) tYes (tAndV (tCB (rIsi K) (tCons (tVar j) (tCons (tC (.ty "int")) tNil))) (tNotV (tCB (rIsi K) (tCons (tVar j) (tCons (tC (.ty "bool")) tNil))))) vs) tNil)) ρ (.bool true) := by
  refine VE.eq (v_all (bs := xs.map fun _ => true) (VN.toD (n_lc (fun _ : Int => true) hl hz hj fun x _ => VD.toN (VE.eq (v_and (v_isi (v_var (hv _)) kit_int) fun _ => v_not (v_isi (v_var (hv _)) kit_bool)) ?_) rfl))) ?_
  · show Ent.d (.bool (isI "int" (.int x) && !isI "bool" (.int x))) = _
    rw [isI_int_int, isI_bool_int]; rfl
  · congr 2
    simp
end
end DF
namespace DF
open Enc (enc)
open PySem PySem.Spec PyProof.Rows L2 Evl RT
section
variable {K : PySem.W.Frag} {ρ ρ' : Rho} {t u : TS} {o : Out}
theorem findR_or (f : Nat → Option PyData) (ρ : Rho) : ∀ l : List Nat, ((∀ i ∈ l, f i = none) ∧ findR f ρ l = .nx ρ) ∨ ∃ i ∈ l, ∃ d, f i = some d ∧ findR f ρ l = .ret d
  | [] => .inl ⟨fun _ h => (by cases h), rfl⟩
  | i :: r => by
    cases h : f i with
    | some d => exact .inr ⟨i, List.mem_cons_self, d, h, by unfold findR; rw [h]⟩
    | none =>
      rcases findR_or f ρ r with ⟨h1, h2⟩ | ⟨j, hj, d, h1, h2⟩
      · exact .inl ⟨fun k hk => (List.mem_cons.mp hk).elim (fun e => e ▸ h) (h1 k), by unfold findR; rw [h]; exact h2⟩
      · exact .inr ⟨j, List.mem_cons_of_mem _ hj, d, h1, by unfold findR; rw [h]; exact h2⟩
theorem r_seqFind {f : Nat → Option PyData} {l : List Nat} (h1 : RD K t ρ (findR f ρ' l)) (h2 : (∀ i ∈ l, f i = none) → RD K u ρ' o) (h3 : ∀ i ∈ l, ∀ d, f i = some d → o = .ret d) : RD K (tSeq t u) ρ o := by
  rcases findR_or f ρ' l with ⟨a, b⟩ | ⟨i, hi, d, a, b⟩
  · rw [b] at h1
    exact r_seq h1 (h2 a)
  · rw [b] at h1
    rw [h3 i hi d a]
    exact r_seqR h1
theorem findD_or {α : Type} (f : α → Option PyData) (ρ : Rho) : ∀ l : List α, ((∀ i ∈ l, f i = none) ∧ findD f ρ l = .nx ρ) ∨ ∃ i ∈ l, ∃ d, f i = some d ∧ findD f ρ l = .ret d
  | [] => .inl ⟨fun _ h => (by cases h), rfl⟩
  | i :: r => by
    cases h : f i with
    | some d => exact .inr ⟨i, List.mem_cons_self, d, h, by unfold findD; rw [h]⟩
    | none =>
      rcases findD_or f ρ r with ⟨h1, h2⟩ | ⟨j, hj, d, h1, h2⟩
      · exact .inl ⟨fun k hk => (List.mem_cons.mp hk).elim (fun e => e ▸ h) (h1 k), by unfold findD; rw [h]; exact h2⟩
      · exact .inr ⟨j, List.mem_cons_of_mem _ hj, d, h1, by unfold findD; rw [h]; exact h2⟩
theorem r_seqFindD {f : PyData → Option PyData} {l : List PyData} (h1 : RD K t ρ (findD f ρ' l)) (h2 : (∀ i ∈ l, f i = none) → RD K u ρ' o) (h3 : ∀ i ∈ l, ∀ d, f i = some d → o = .ret d) : RD K (tSeq t u) ρ o := by
  rcases findD_or f ρ' l with ⟨a, b⟩ | ⟨i, hi, d, a, b⟩
  · rw [b] at h1
    exact r_seq h1 (h2 a)
  · rw [b] at h1
    rw [h3 i hi d a]
    exact r_seqR h1
end
end DF

namespace DF
open Enc (enc)
open PySem PySem.Spec PyProof.Rows L2 Evl RT

/-! ### rows of ints, each at its place -/
structure RowsAt (H : Hp) (F : List Addr) (c : Cl) : Prop where
  nd : F.Nodup
  len : F.length = c.length
  at_ : ∀ (i : Nat) (a : Addr) (row : List Int), F[i]? = some a → c[i]? = some row → H a = some (.lst (row.map V.int))
/-- a cloth's list at a, its rows at F -/
structure CAt (H : Hp) (a : Addr) (F : List Addr) (c : Cl) : Prop where
  lst : H a = some (.lst (F.map V.ref))
  rows : RowsAt H F c
  out : a ∉ F
theorem RowsAt.mono {H H' : Hp} {F : List Addr} {c : Cl} (e : Ex H H') (r : RowsAt H F c) : RowsAt H' F c := ⟨r.nd, r.len, fun i a row h1 h2 => e _ _ (r.at_ i a row h1 h2)⟩
theorem CAt.mono {H H' : Hp} {a : Addr} {F : List Addr} {c : Cl} (e : Ex H H') (r : CAt H a F c) : CAt H' a F c := ⟨e _ _ r.lst, r.rows.mono e, r.out⟩
theorem tp_ints {H : Hp} : ∀ ns : List Int, TpAll H (ns.map V.int) (ns.map enc)
  | [] => .nil
  | n :: ns => .cons (.int n) (tp_ints ns)
theorem Tp.ints {H : Hp} {a : Addr} {row : List Int} (h : H a = some (.lst (row.map V.int))) : Tp H (.ref a) (enc row) := .lst h (tp_ints row)
theorem RowsAt.tp {H : Hp} : ∀ {F : List Addr} {c : Cl}, RowsAt H F c → TpAll H (F.map V.ref) (c.map enc)
  | [], [], _ => .nil
  | [], _ :: _, r => by have := r.len; cases this
  | _ :: _, [], r => by have := r.len; cases this
  | a :: F, row :: c, r => .cons (Tp.ints (r.at_ 0 a row rfl rfl)) (RowsAt.tp (F := F) (c := c) ⟨(List.nodup_cons.mp r.nd).2, by have := r.len; simpa using this, fun i b z h1 h2 => r.at_ (i + 1) b z h1 h2⟩)
theorem CAt.tp {H : Hp} {a : Addr} {F : List Addr} {c : Cl} (h : CAt H a F c) : Tp H (.ref a) (enc c) := .lst h.lst h.rows.tp
theorem own_int {H : Hp} {v : V} {n : Int} {F : List Addr} (h : Own H v (.int n) F) : v = .int n ∧ F = [] := by
  cases h
  exact ⟨rfl, rfl⟩
theorem own_ints {H : Hp} : ∀ {ns : List Int} {vs : List V} {F : List Addr}, OwnAll H vs (ns.map enc) F → vs = ns.map V.int ∧ F = []
  | [], _, _, h => by
    cases h
    exact ⟨rfl, rfl⟩
  | n :: ns, _, _, h => by
    cases h with
    | cons h t _ =>
      obtain ⟨rfl, rfl⟩ := own_int h
      obtain ⟨rfl, rfl⟩ := own_ints t
      exact ⟨rfl, rfl⟩
theorem own_rows {H : Hp} : ∀ {c : Cl} {vs : List V} {F : List Addr}, OwnAll H vs (c.map enc) F → vs = F.map V.ref ∧ RowsAt H F c
  | [], _, _, .nil => ⟨rfl, List.nodup_nil, rfl, fun i a row h => by simp at h⟩
  | row :: c, _, _, .cons (F := A) (G := B) h t dj => by
    obtain ⟨a, xs, G, e1, e2, ha, t', na⟩ := h.lst_inv
    obtain ⟨e3, e4⟩ := own_ints t'
    subst e1 e2 e3 e4
    obtain ⟨e5, r⟩ := own_rows t
    subst e5
    refine ⟨rfl, ?_, ?_, fun i b z h1 h2 => ?_⟩
    · exact List.nodup_cons.mpr ⟨dj a List.mem_cons_self, r.nd⟩
    · show B.length + 1 = c.length + 1
      rw [r.len]
    · cases i with
      | zero => cases h1; cases h2; exact ha
      | succ i => exact r.at_ i b z h1 h2
theorem New.cat {H0 H : Hp} {v : V} {c : Cl} (h : New H0 H v (enc c)) : ∃ a F, v = .ref a ∧ CAt H a F c ∧ H0 a = none ∧ ∀ x ∈ F, H0 x = none := by
  obtain ⟨G, o, f⟩ := h
  obtain ⟨a, xs, F, rfl, rfl, ha, t, na⟩ := o.lst_inv
  obtain ⟨e, r⟩ := own_rows t
  subst e
  exact ⟨a, F, rfl, ⟨ha, r, na⟩, f a List.mem_cons_self, fun x hx => f x (List.mem_cons_of_mem _ hx)⟩
/-- all but what stands at F is as it was -/
def Off (F : List Addr) (H H' : Hp) : Prop := ∀ a, a ∉ F → H' a = H a
theorem Off.refl (F : List Addr) (H : Hp) : Off F H H := fun _ _ => rfl
theorem Off.upd {F : List Addr} {H H' : Hp} {a : Addr} {o : HO} (h : Off F H H') (m : a ∈ F) : Off F H (upd H' a o) := fun b hb => by rw [upd_ne (fun e : b = a => hb (e ▸ m))]; exact h b hb
theorem Off.ex {F : List Addr} {H0 H H' : Hp} (h : Off F H H') (e : Ex H0 H) (f : ∀ a ∈ F, H0 a = none) : Ex H0 H' := fun a o q => by
  rw [h a (fun m => by rw [f a m] at q; cases q)]
  exact e a o q
theorem Off.mono {F G : List Addr} {H H' : Hp} (h : Off F H H') (s : ∀ a ∈ F, a ∈ G) : Off G H H' := fun a n => h a fun m => n (s a m)
theorem Off.trans {F : List Addr} {H H1 H2 : Hp} (a : Off F H H1) (b : Off F H1 H2) : Off F H H2 := fun x n => (b x n).trans (a x n)
theorem RowsAt.off {F G : List Addr} {H H' : Hp} {c : Cl} (r : RowsAt H G c) (h : Off F H H') (dj : ∀ a ∈ G, a ∉ F) : RowsAt H' G c := ⟨r.nd, r.len, fun i a row h1 h2 => by rw [h a (dj a (List.mem_of_getElem? h1))]; exact r.at_ i a row h1 h2⟩
theorem CAt.off {F G : List Addr} {H H' : Hp} {c : Cl} {a : Addr} (r : CAt H a G c) (h : Off F H H') (na : a ∉ F) (dj : ∀ x ∈ G, x ∉ F) : CAt H' a G c := ⟨by rw [h a na]; exact r.lst, r.rows.off h dj, r.out⟩
/-- one row is changed -/
theorem RowsAt.set {F : List Addr} {H : Hp} {c : Cl} (r : RowsAt H F c) {i : Nat} {a : Addr} (ha : F[i]? = some a) (row : List Int) : RowsAt (upd H a (.lst (row.map V.int))) F (c.set i row) := by
  refine ⟨r.nd, by rw [List.length_set]; exact r.len, fun j b z h1 h2 => ?_⟩
  by_cases e : i = j
  · subst e
    rw [ha] at h1; cases h1
    have hi : i < c.length := by
      have := (List.getElem?_eq_some_iff.mp ha).1
      rw [r.len] at this; exact this
    rw [List.getElem?_set_self hi] at h2; cases h2
    exact upd_same
  · rw [List.getElem?_set_ne e] at h2
    have : b ≠ a := fun q => e (nd_ix r.nd ha (by rw [← q]; exact h1))
    rw [upd_ne this]
    exact r.at_ j b z h1 h2
theorem RowsAt.append {F G : List Addr} {H : Hp} {c e : Cl} (r : RowsAt H F c) (s : RowsAt H G e) (dj : ∀ a ∈ F, a ∉ G) : RowsAt H (F ++ G) (c ++ e) := by
  refine ⟨List.nodup_append.mpr ⟨r.nd, s.nd, fun a ha b hb q => dj a ha (q ▸ hb)⟩, by rw [List.length_append, List.length_append, r.len, s.len], fun i a row h1 h2 => ?_⟩
  by_cases h : i < F.length
  · rw [List.getElem?_append_left h] at h1
    rw [List.getElem?_append_left (by rw [← r.len]; exact h)] at h2
    exact r.at_ i a row h1 h2
  · rw [List.getElem?_append_right (by omega)] at h1
    rw [List.getElem?_append_right (by rw [← r.len]; omega)] at h2
    rw [r.len] at h1
    exact s.at_ _ a row h1 h2
theorem RowsAt.left {F G : List Addr} {H : Hp} {c e : Cl} (r : RowsAt H (F ++ G) (c ++ e)) (hl : F.length = c.length) : RowsAt H F c := by
  refine ⟨(List.nodup_append.mp r.nd).1, hl, fun i a row h1 h2 => r.at_ i a row ?_ ?_⟩
  · rw [List.getElem?_append_left (List.getElem?_eq_some_iff.mp h1).1]; exact h1
  · rw [List.getElem?_append_left (List.getElem?_eq_some_iff.mp h2).1]; exact h2
theorem RowsAt.right {F G : List Addr} {H : Hp} {c e : Cl} (r : RowsAt H (F ++ G) (c ++ e)) (hl : F.length = c.length) : RowsAt H G e := by
  refine ⟨(List.nodup_append.mp r.nd).2.1, by have := r.len; rw [List.length_append, List.length_append] at this; omega, fun i a row h1 h2 => r.at_ (F.length + i) a row ?_ ?_⟩
  · rw [List.getElem?_append_right (by omega)]; simpa using h1
  · rw [List.getElem?_append_right (by omega)]; simpa [hl] using h2
section
variable {K : PySem.W.Frag} {ρ : Rho} {te ta tb tl : TE} {tt : TT} {d : PyData} {z : Ent} {b : Bool} {H H0 H' H1 : Hp} {σ : L2.St} {D : Ends} {t u : TS} {p : Addr}
/-- the turns of a loop over a list of rows, each of which changes its row -/
theorem for_rows {F : List Addr} {c : Cl} {j : Nat} (g : List Int → List Int) (hp : H p = some (.lst (F.map V.ref))) (pF : p ∉ F) (r : RowsAt H F c)
    (turn : ∀ row ∈ c, ∀ (a : Addr) (σ' : L2.St) (H' : Hp) (D' : Ends), a ∈ F → H' a = some (.lst (row.map V.int)) → But j σ σ' → Off F H H' → D'.rt = D.rt →
      (∀ σ2, But j σ σ2 → D'.nx σ2 (upd H' a (.lst ((g row).map V.int)))) → t D' (σ'.set j (some (.ref a))) H')
    (done : ∀ σ' H', But j σ σ' → RowsAt H' F (c.map g) → Off F H H' → D.nx σ' H') :
    ∃ W : Nat → Nat → L2.St → Hp → Prop, (∃ m, W 0 m σ H) ∧ ∀ i m σ H, W i m σ H →
      ((Itl K p).stop i H ∧ D.nx σ H) ∨ ((Itl K p).go i H ∧ ∃ N : L2.St → Hp → Prop, (∀ σ' H', N σ' H' → ∃ m', m' < m ∧ W (i + 1) m' σ' H') ∧ ∀ x H', (Itl K p).yld i H x H' → gName j x σ H' fun σ2 H2 => t { D with nx := N, ct := N, bk := D.nx } σ2 H2) := by
  refine for_list (xs := F.map V.ref) (fun i σ' H' => But j σ σ' ∧ RowsAt H' F ((c.take i).map g ++ c.drop i) ∧ Off F H H') ⟨But.refl j σ, by simpa using r, Off.refl F H⟩ (fun i σ' H' _ pv => SqL.of (by rw [pv.2.2 p pF]; exact hp)) (fun i x σ' H' hx pv => ?_) (fun σ' H' pv => ?_)
  · obtain ⟨bt, r', off⟩ := pv
    rw [List.getElem?_map] at hx
    cases ha : F[i]? with
    | none => rw [ha] at hx; cases hx
    | some a =>
      rw [ha] at hx
      cases hx
      have hi : i < c.length := by
        have := (List.getElem?_eq_some_iff.mp ha).1
        rw [r.len] at this; exact this
      have hc : c[i]? = some c[i] := List.getElem?_eq_getElem hi
      have hm : ((c.take i).map g ++ c.drop i)[i]? = some c[i] := by
        have e1 : ((c.take i).map g).length = i := by rw [List.length_map, List.length_take, Nat.min_eq_left (Nat.le_of_lt hi)]
        rw [List.getElem?_append_right (by rw [e1]; exact Nat.le_refl i), e1, Nat.sub_self, List.getElem?_drop, Nat.add_zero]
        exact hc
      have ha' := r'.at_ i a _ ha hm
      refine turn c[i] (List.getElem_mem hi) a σ' H' _ (List.mem_of_getElem? ha) ha' bt off rfl fun σ2 b2 => ⟨b2, ?_, off.upd (List.mem_of_getElem? ha)⟩
      have := r'.set ha (g c[i])
      have e : ((c.take i).map g ++ c.drop i).set i (g c[i]) = (c.take (i + 1)).map g ++ c.drop (i + 1) := by
        have e1 : ((c.take i).map g).length = i := by rw [List.length_map, List.length_take, Nat.min_eq_left (Nat.le_of_lt hi)]
        rw [List.set_append_right _ _ (by rw [e1]; exact Nat.le_refl i), e1, Nat.sub_self, List.drop_eq_getElem_cons hi, List.take_add_one, hc, List.map_append, List.append_assoc]
        rfl
      rw [e] at this
      exact this
  · obtain ⟨bt, r', off⟩ := pv
    have hl : (F.map V.ref).length = c.length := by rw [List.length_map, r.len]
    rw [hl, List.take_length, List.drop_length, List.append_nil] at r'
    exact done σ' H' bt r' off
/-- row.append(7): one row longer -/
theorem s_app7 {a : Addr} {row : List Int} {k : Int} {i : Nat} (hi : σ[i]? = some (some (.ref a))) (ha : H a = some (.lst (row.map V.int))) (hz : row.length ≤ 10000) (n : D.nx σ (upd H a (.lst ((row ++ [k]).map V.int)))) :
    tDrop (tBM K "list" rAppend (tVar i) (tCons (tC (.int k)) tNil)) D σ H :=
  ⟨.ref a, hi, .inl ⟨rfl, _, SqL.of ha⟩, a, _, .int k, rfl, rfl, ha, sz_lt (by rw [List.length_map]; omega), by rw [List.map_append] at n; exact n⟩
/-- row.pop(): one row shorter -/
theorem s_pop {a : Addr} {row : List Int} {i : Nat} (hi : σ[i]? = some (some (.ref a))) (ha : H a = some (.lst (row.map V.int))) (hz : row ≠ []) (n : D.nx σ (upd H a (.lst (row.dropLast.map V.int)))) :
    tDrop (tBM0 K "list" rPop (tVar i)) D σ H := by
  have hl : 0 < row.length := List.length_pos_iff.mpr hz
  refine ⟨.ref a, hi, .inl ⟨rfl, _, SqL.of ha⟩, a, _, .int (row[row.length - 1]), rfl, rfl, ha, ?_, ?_⟩
  · rw [List.length_map, List.getElem?_map, List.getElem?_eq_getElem (by omega)]
    rfl
  · rw [List.map_dropLast] at n
    exact n
/-- tests whose answer is known -/
theorem q_ifF (hc : VT K tt ρ b) (hb : b = false) (n : Env K H σ ρ) (k : ∀ H', Ex H H' → u D σ H') : tSeq (tIfS tt t tNext) u D σ H := hc σ H n _ fun H' e => by
  subst hb
  exact k H' e
theorem s_ifF (hc : VT K tt ρ b) (hb : b = false) (n : Env K H σ ρ) (k : ∀ H', Ex H H' → D.nx σ H') : tIfS tt t tNext D σ H := hc σ H n _ fun H' e => by
  subst hb
  exact k H' e
theorem q_ifT (hc : VT K tt ρ b) (hb : b = true) (n : Env K H σ ρ) (k : ∀ H', Ex H H' → tSeq t u D σ H') : tSeq (tIfS tt t tNext) u D σ H := hc σ H n _ fun H' e => by
  subst hb
  exact k H' e
theorem s_retV (h : VE K te ρ z) (n : Env K H σ ρ) (k : ∀ v H', Ex H H' → Rep K H' v z → D.rt v H') : tRet te D σ H := h σ H n _ fun v H' e w => k v H' e w
theorem s_loopR1 {m : Int} {j : Nat} {js : List Nat} (hj : j ∈ js) (hl : VD K tl ρ (.int m)) (hm : -100000 ≤ m ∧ m ≤ 1000000) (n : Env K H σ ρ)
    (turn : ∀ k : Nat, (k : Int) < m → ∀ (σ' : L2.St) (H' : Hp) (D' : Ends), Buts js σ σ' → Ex H H' → Env K H' (σ'.set j (some (.int (k : Int)))) ((wipeR ρ js).set j (some (.d (.int (k : Int))))) → D'.rt = D.rt → (∀ σ2 H2, Buts js σ σ2 → Ex H H2 → D'.nx σ2 H2) → t D' (σ'.set j (some (.int (k : Int)))) H')
    (done : ∀ σ' H', Buts js σ σ' → Ex H H' → D.nx σ' H') : tFor (iRng1 (tCons tl tNil)) (gName j) t D σ H :=
  hl σ H n _ fun v H1 e1 r1 => by
    cases Tp.int_inv r1
    refine ⟨m, rfl, by omega, by omega, ?_⟩
    refine for_range (lo := 0) (n := m.toNat) (fun k σ' H' => Buts js σ σ' ∧ Ex H H') ⟨Buts.refl js σ, e1⟩ (fun k σ' H' hk pv => ?_) (fun σ' H' pv => done σ' H' pv.1 pv.2)
    obtain ⟨bt, e⟩ := pv
    have e0 : (0 : Int) + (k : Int) = (k : Int) := Int.zero_add _
    rw [e0]
    exact turn k (by omega) σ' H' _ bt e ((bt.env (n.mono e)).set j (z := .d (.int (k : Int))) (.int _)) rfl fun σ2 H2 b2 e2 => ⟨b2, e2⟩
end
end DF
namespace DF
open Enc (enc)
open PySem PySem.Spec PyProof.Rows L2 Evl RT
theorem Own.cat {H : Hp} {v : V} {c : Cl} {G : List Addr} (o : Own H v (enc c) G) : ∃ a F, v = .ref a ∧ G = a :: F ∧ CAt H a F c := by
  obtain ⟨a, xs, F, rfl, rfl, ha, t, na⟩ := o.lst_inv
  obtain ⟨e, r⟩ := own_rows t
  subst e
  exact ⟨a, F, rfl, rfl, ha, r, na⟩
theorem Env.add {K : PySem.W.Frag} {H : Hp} {σ : L2.St} {ρ : Rho} {v : V} {z : Ent} (i : Nat) (n : Env K H σ ρ) (h : σ[i]? = some (some v)) (r : Rep K H v z) : Env K H σ (ρ.set i (some z)) := by
  have h2 := n.set i r
  have : σ.set i (some v) = σ := by
    apply List.ext_getElem?
    intro j
    by_cases e : i = j
    · subst e
      rw [h]
      exact List.getElem?_set_self (List.getElem?_eq_some_iff.mp h).1
    · rw [List.getElem?_set_ne e]
  rw [this] at h2
  exact h2
section
variable {K : PySem.W.Frag} {ρ : Rho} {te ta tb tl : TE} {H H0 H' H1 : Hp} {σ : L2.St} {D : Ends} {t u : TS}
theorem q_loopR1 {m : Int} {j : Nat} {js : List Nat} (hj : j ∈ js) (hl : VD K tl ρ (.int m)) (hm : -100000 ≤ m ∧ m ≤ 1000000) (n : Env K H σ ρ)
    (turn : ∀ k : Nat, (k : Int) < m → ∀ (σ' : L2.St) (H' : Hp) (D' : Ends), Buts js σ σ' → Ex H H' → Env K H' (σ'.set j (some (.int (k : Int)))) ((wipeR ρ js).set j (some (.d (.int (k : Int))))) → D'.rt = D.rt → (∀ σ2 H2, Buts js σ σ2 → Ex H H2 → D'.nx σ2 H2) → t D' (σ'.set j (some (.int (k : Int)))) H')
    (done : ∀ σ' H', Buts js σ σ' → Ex H H' → u D σ' H') : tSeq (tFor (iRng1 (tCons tl tNil)) (gName j) t) u D σ H := s_loopR1 (D := { D with nx := u D }) hj hl hm n turn done
end
/-- what a law's def promises: it tells True -/
def spLaw (K : PySem.W.Frag) : Sp := fun vs H Q _ => ∃ (a : Addr) (ns : List Int), vs = [.ref a] ∧ SqL K H a (ns.map V.int) ∧ ∀ H', Q (.bl true) H'
end DF

namespace DF
open Enc (enc)
/-! ### cloths turned -/
theorem getD_lt {α : Type} [Inhabited α] {xs : List α} {i : Nat} (h : i < xs.length) : xs.getD i default = xs[i] := by
  rw [List.getD_eq_getElem?_getD, List.getElem?_eq_getElem h]
  rfl
theorem quarter_len (c : Cl) : (quarter c).length = (c.getD 0 default).length := by unfold quarter; simp
theorem quarter_at (c : Cl) {k : Nat} (h : k < (c.getD 0 default).length) : (quarter c).getD k default = c.map fun row => 1 - row.getD k default := by
  unfold quarter
  rw [getD_map _ _ _ (by simpa using h)]
  simp [warpOf]
theorem quarter_good {c : Cl} (g : Good c) : Good (quarter c) := by
  have h0 := quarter_at c (k := 0) (by have := g.wide; omega)
  have e0 : ((quarter c).getD 0 default).length = c.length := by rw [h0]; simp
  refine ⟨by rw [quarter_len]; exact g.wide, fun row hr => ?_, by rw [e0]; exact g.len, fun row hr x hx => ?_⟩
  · rw [e0]
    obtain ⟨k, _, rfl⟩ := List.mem_map.mp hr
    simp [warpOf]
  · obtain ⟨k, _, rfl⟩ := List.mem_map.mp hr
    obtain ⟨y, hy, rfl⟩ := List.mem_map.mp hx
    obtain ⟨r, hr', rfl⟩ := List.mem_map.mp hy
    have := g.bit hr' k
    omega
theorem quarter_quarter {c : Cl} (g : Good c) : quarter (quarter c) = c := by
  have h0 := quarter_at c (k := 0) (by have := g.wide; omega)
  have e0 : ((quarter c).getD 0 default).length = c.length := by rw [h0]; simp
  refine getD_ext (by rw [quarter_len, e0]) fun i hi => ?_
  rw [quarter_at _ (by rw [e0]; exact hi)]
  have hrow := g.rows _ (g.at_ hi)
  refine getD_ext (by rw [List.length_map, quarter_len, hrow]) fun j hj => ?_
  have hj' : j < (quarter c).length := by rw [quarter_len]; rw [hrow] at hj; exact hj
  rw [getD_map _ _ _ hj', ← getD_lt hj', quarter_at c (by rw [hrow] at hj; exact hj), getD_map _ _ _ hi, ← getD_lt hi]
  omega
theorem over_good {c : Cl} (g : Good c) : Good (over c) := by
  have hp := g.pos
  have e0 : ((over c).getD 0 default).length = (c.getD 0 default).length := by
    unfold over
    rw [getD_map _ _ _ hp, ← getD_lt hp]
    simp
  refine ⟨by unfold over; rw [List.length_map]; exact g.len, fun row hr => ?_, by rw [e0]; exact g.wide, fun row hr x hx => ?_⟩
  · rw [e0]
    obtain ⟨r, h, rfl⟩ := List.mem_map.mp hr
    rw [List.length_map, List.length_reverse]
    exact g.rows r h
  · obtain ⟨r, h, rfl⟩ := List.mem_map.mp hr
    obtain ⟨y, hy, rfl⟩ := List.mem_map.mp hx
    have := g.bits r h y (List.mem_reverse.mp hy)
    omega
theorem over_over (c : Cl) : over (over c) = c := by
  unfold over
  rw [List.map_map]
  have : ∀ row : List Int, ((fun row : List Int => row.reverse.map fun one => 1 - one) ∘ fun row => row.reverse.map fun one => 1 - one) row = row := fun row => by
    show List.map _ (List.reverse (List.map _ (List.reverse row))) = row
    rw [← List.map_reverse, List.reverse_reverse, List.map_map]
    have e : ((fun one : Int => 1 - one) ∘ fun one => 1 - one) = id := by
      funext x
      show 1 - (1 - x) = x
      omega
    rw [e, List.map_id]
  rw [List.map_congr_left fun a _ => this a]
  simp
theorem drop_last7 (c : Cl) (k : Int) : (c.map fun row => row ++ [k]).map List.dropLast = c := by
  rw [List.map_map]
  have : ∀ row : List Int, (List.dropLast ∘ fun row => row ++ [k]) row = row := fun row => by simp
  rw [List.map_congr_left fun a _ => this a]
  simp
end DF

namespace DF
open Enc (enc)
open PySem PySem.Spec PyProof.Rows L2 Evl RT
/-! ### drafts -/
def isDraft (d : PyData) : Bool := match d with
  | .tuple [a, b, c] => isCloth b && (isRow a ((lenD b : Int) - 1) && isRow c ((lenD (match b with | .list (r :: _) => r | _ => .none) : Int) - 1))
  | _ => false
theorem isDraft_eq {a b c : PyData} : isDraft (.tuple [a, b, c]) = (isCloth b && (isRow a ((lenD b : Int) - 1) && isRow c ((lenD (match b with | .list (r :: _) => r | _ => .none) : Int) - 1))) := rfl
theorem isDraft_no {d : PyData} (h : isI "tuple" d = false) : isDraft d = false := by
  cases d with
  | tuple ds => rw [isI_tuple_tuple] at h; cases h
  | _ => rfl
theorem isDraft_len {ds : List PyData} (h : ds.length ≠ 3) : isDraft (.tuple ds) = false := by
  match ds, h with
  | [], _ => rfl
  | [_], _ => rfl
  | [_, _], _ => rfl
  | [_, _, _], h => exact absurd rfl h
  | _ :: _ :: _ :: _ :: _, _ => rfl
theorem isCloth_cons {d : PyData} (h : isCloth d = true) : ∃ e0 dr, d = .list (.list e0 :: dr) := by
  cases d with
  | list ds =>
    obtain ⟨h1, h2, h3⟩ := isCloth_rows h
    cases ds with
    | nil => simp at h1
    | cons a r =>
      obtain ⟨e0, rfl, _⟩ := isRow_list (h2 a List.mem_cons_self)
      exact ⟨e0, r, rfl⟩
  | _ => simp [isCloth] at h
theorem isRow_enc {xs : List Int} {hi : Int} (h1 : 1 ≤ xs.length ∧ xs.length ≤ 60) (h2 : ∀ x ∈ xs, 0 ≤ x ∧ x ≤ hi) : isRow (enc xs) hi = true := by
  show isRow (.list (xs.map enc)) hi = true
  rw [isRow_eq, Bool.and_eq_true]
  refine ⟨decide_eq_true (by rw [List.length_map]; exact h1), ?_⟩
  rw [List.all_eq_true]
  intro y hy
  obtain ⟨v, hv, rfl⟩ := List.mem_map.mp hy
  have := h2 v hv
  show (decide ((0 : Int) ≤ v) && decide (v ≤ hi)) = true
  rw [decide_eq_true this.1, decide_eq_true this.2]; rfl
theorem GoodD.is {d : Dr} (g : GoodD d) : isDraft (enc d) = true := by
  show isDraft (.tuple [enc d.th, enc d.ti, enc d.tr]) = true
  rw [isDraft_eq, Bool.and_eq_true, Bool.and_eq_true]
  have h1 : lenD (enc d.ti) = d.ti.length := by show (d.ti.map enc).length = _; rw [List.length_map]
  have h2 : lenD (match (enc d.ti : PyData) with | .list (r :: _) => r | _ => .none) = (d.ti.getD 0 default).length := by
    have := g.ti.pos
    obtain ⟨th, ti, tr⟩ := d
    cases ti with
    | nil => simp at this
    | cons r c =>
      show (r.map enc).length = r.length
      rw [List.length_map]
  refine ⟨g.ti.is, isRow_enc g.th fun s hs => ?_, isRow_enc g.tr fun t ht => ?_⟩
  · rw [h1]
    have := g.sh s hs
    omega
  · rw [h2]
    have := g.tl t ht
    omega
section
variable {K : PySem.W.Frag} {ρ : Rho} {te ta tb tl : TE} {d : Dr}
theorem v_th (ha : VD K ta ρ (enc d)) : VD K (tOp (rIx K) ta (tC (.int 0))) ρ (enc d.th) := v_ixT (ds := [enc d.th, enc d.ti, enc d.tr]) ha v_int rfl
theorem v_ti (ha : VD K ta ρ (enc d)) : VD K (tOp (rIx K) ta (tC (.int 1))) ρ (enc d.ti) := v_ixT (ds := [enc d.th, enc d.ti, enc d.tr]) ha v_int rfl
theorem v_tr (ha : VD K ta ρ (enc d)) : VD K (tOp (rIx K) ta (tC (.int 2))) ρ (enc d.tr) := v_ixT (ds := [enc d.th, enc d.ti, enc d.tr]) ha v_int rfl
end
/-- a draft's objects -/
structure DAt (H : Hp) (t a b c : Addr) (F : List Addr) (d : Dr) : Prop where
  tup : H t = some (.tup [.ref a, .ref b, .ref c])
  th : H a = some (.lst (d.th.map V.int))
  ti : CAt H b F d.ti
  tr : H c = some (.lst (d.tr.map V.int))
theorem DAt.tp {H : Hp} {t a b c : Addr} {F : List Addr} {d : Dr} (h : DAt H t a b c F d) : Tp H (.ref t) (enc d) := .tup h.tup (.cons (Tp.ints h.th) (.cons h.ti.tp (.cons (Tp.ints h.tr) .nil)))
theorem DAt.mono {H H' : Hp} {t a b c : Addr} {F : List Addr} {d : Dr} (e : Ex H H') (h : DAt H t a b c F d) : DAt H' t a b c F d := ⟨e _ _ h.tup, e _ _ h.th, h.ti.mono e, e _ _ h.tr⟩
theorem own_intList {H : Hp} {v : V} {ns : List Int} {F : List Addr} (h : Own H v (enc ns) F) : ∃ a, v = .ref a ∧ F = [a] ∧ H a = some (.lst (ns.map V.int)) := by
  obtain ⟨a, xs, G, e1, e2, ha, t', na⟩ := h.lst_inv
  obtain ⟨e3, e4⟩ := own_ints t'
  subst e1 e2 e3 e4
  exact ⟨a, rfl, rfl, ha⟩
theorem Own.dat {H : Hp} {v : V} {d : Dr} {G : List Addr} (o : Own H v (enc d) G) : ∃ t a b c F, v = .ref t ∧ DAt H t a b c F d ∧ (∀ x, x ∈ G ↔ x = a ∨ x = b ∨ x = c ∨ x ∈ F) ∧ a ≠ b ∧ a ≠ c ∧ b ≠ c ∧ a ∉ F ∧ c ∉ F := by
  obtain ⟨t, xs, rfl, ht, o⟩ := Own.tup_inv (ds := [enc d.th, enc d.ti, enc d.tr]) o
  cases o with
  | cons o1 o2 j1 =>
    cases o2 with
    | cons o2 o3 j2 =>
      cases o3 with
      | cons o3 o4 j3 =>
        cases o4
        obtain ⟨a, rfl, rfl, ha⟩ := own_intList o1
        obtain ⟨b, F, rfl, rfl, hb⟩ := Own.cat o2
        obtain ⟨c, rfl, rfl, hc⟩ := own_intList o3
        have k1 := j1 a List.mem_cons_self
        have k2 := fun x hx => j2 x hx
        simp only [List.append_nil, List.mem_append, List.mem_cons, List.not_mem_nil, or_false, not_or] at k1 k2
        refine ⟨t, a, b, c, F, rfl, ⟨ht, ha, hb, hc⟩, fun x => ?_, k1.1.1, k1.2, k2 b (.inl rfl), k1.1.2, fun hm => k2 c (.inr hm) rfl⟩
        simp only [List.append_nil, List.mem_append, List.mem_cons, List.not_mem_nil, or_false]
        constructor
        · rintro (h | ((h | h) | h))
          · exact .inl h
          · exact .inr (.inl h)
          · exact .inr (.inr (.inr h))
          · exact .inr (.inr (.inl h))
        · rintro (h | h | h | h)
          · exact .inl h
          · exact .inr (.inl (.inl h))
          · exact .inr (.inr h)
          · exact .inr (.inl (.inr h))
theorem New.dat {H0 H : Hp} {v : V} {d : Dr} (o : New H0 H v (enc d)) : ∃ t a b c F, v = .ref t ∧ DAt H t a b c F d ∧ H0 a = none ∧ H0 b = none ∧ H0 c = none ∧ (∀ x ∈ F, H0 x = none) ∧ a ≠ b ∧ a ≠ c ∧ b ≠ c ∧ a ∉ F ∧ c ∉ F := by
  obtain ⟨G, o, f⟩ := o
  obtain ⟨t, a, b, c, F, e, h1, h2, h3, h4, h5, h6, h7⟩ := o.dat
  exact ⟨t, a, b, c, F, e, h1, f a ((h2 a).mpr (.inl rfl)), f b ((h2 b).mpr (.inr (.inl rfl))), f c ((h2 c).mpr (.inr (.inr (.inl rfl)))), fun x hx => f x ((h2 x).mpr (.inr (.inr (.inr hx)))), h3, h4, h5, h6, h7⟩
end DF
namespace DF
open Enc (enc)
open PySem PySem.Spec PyProof.Rows L2 Evl RT
/-- a value told without a change -/
def Val (te : TE) (σ : L2.St) (H : Hp) (v : V) : Prop := ∀ Q : VK, Q v H → te σ H Q
section
variable {K : PySem.W.Frag} {ρ : Rho} {te ta tb tl to ti : TE} {z : Ent} {H H0 H' H1 : Hp} {σ : L2.St} {D : Ends} {t u : TS} {v w : V} {a p : Addr} {xs : List V} {i : Int} {g : TG}
theorem val_var {k : Nat} (h : σ[k]? = some (some v)) : Val (tVar k) σ H v := fun Q q => ⟨v, h, q⟩
theorem val_c : Val (tC v) σ H v := fun Q q => q
theorem val_ixL (ha : Val ta σ H (.ref p)) (hb : Val tb σ H (.int i)) (h : H p = some (.lst xs)) (e : atI xs i = some v) : Val (tOp (rIx K) ta tb) σ H v := fun Q q =>
  ha _ (hb _ (.inl ⟨p, xs, i, v, rfl, rfl, SqL.of h, e, q⟩))
theorem val_ixT (ha : Val ta σ H (.ref p)) (hb : Val tb σ H (.int i)) (h : H p = some (.tup xs)) (e : atI xs i = some v) : Val (tOp (rIx K) ta tb) σ H v := fun Q q =>
  ha _ (hb _ (.inr (.inl ⟨p, xs, i, v, rfl, rfl, SqT.of h, e, q⟩)))
/-- x[i] = e -/
theorem q_setAt {k : Nat} {n : Int} {row : List Int} (h : VD K te ρ (.int n)) (m : Env K H σ ρ) (ho : ∀ H', Ex H H' → Val to σ H' (.ref p)) (hi : ∀ H', Ex H H' → Val ti σ H' (.int (k : Int))) (hp : H p = some (.lst (row.map V.int))) (hk : k < row.length)
    (q : ∀ H', Ex H H' → u D σ (upd H' p (.lst ((row.set k n).map V.int)))) : tSeq (tAsg te (gSub to ti rSetL)) u D σ H :=
  h σ H m _ fun v H' e r => by
    cases Tp.int_inv r
    refine ho H' e _ (hi H' e _ ⟨p, _, (k : Int), k, rfl, rfl, e _ _ hp, ixN_nat (by rw [List.length_map]; exact hk), ?_⟩)
    have := q H' e
    rw [List.map_set] at this
    exact this
theorem s_setAt {k : Nat} {n : Int} {row : List Int} (h : VD K te ρ (.int n)) (m : Env K H σ ρ) (ho : ∀ H', Ex H H' → Val to σ H' (.ref p)) (hi : ∀ H', Ex H H' → Val ti σ H' (.int (k : Int))) (hp : H p = some (.lst (row.map V.int))) (hk : k < row.length)
    (q : ∀ H', Ex H H' → D.nx σ (upd H' p (.lst ((row.set k n).map V.int)))) : tAsg te (gSub to ti rSetL) D σ H :=
  h σ H m _ fun v H' e r => by
    cases Tp.int_inv r
    refine ho H' e _ (hi H' e _ ⟨p, _, (k : Int), k, rfl, rfl, e _ _ hp, ixN_nat (by rw [List.length_map]; exact hk), ?_⟩)
    have := q H' e
    rw [List.map_set] at this
    exact this
/-- x.reverse(), x.clear(), x.append(k) of a list of ints -/
theorem q_reverse {row : List Int} (ho : Val to σ H (.ref p)) (hp : H p = some (.lst (row.map V.int))) (q : u D σ (upd H p (.lst (row.reverse.map V.int)))) : tSeq (tDrop (tBM0 K "list" rReverse to)) u D σ H :=
  ho _ ⟨.inl ⟨rfl, _, SqL.of hp⟩, p, _, rfl, rfl, hp, by rw [List.map_reverse] at q; exact q⟩
theorem s_clear (ho : Val to σ H (.ref p)) (hp : H p = some (.lst xs)) (q : D.nx σ (upd H p (.lst []))) : tDrop (tBM0 K "list" rClear to) D σ H :=
  ho _ ⟨.inl ⟨rfl, _, SqL.of hp⟩, p, _, rfl, rfl, hp, q⟩
theorem q_clear (ho : Val to σ H (.ref p)) (hp : H p = some (.lst xs)) (q : u D σ (upd H p (.lst []))) : tSeq (tDrop (tBM0 K "list" rClear to)) u D σ H := s_clear (D := { D with nx := u D }) ho hp q
theorem s_appI {n : Int} {row : List Int} (ho : Val to σ H (.ref p)) (hp : H p = some (.lst (row.map V.int))) (hz : row.length ≤ 10000) (q : D.nx σ (upd H p (.lst ((row ++ [n]).map V.int)))) : tDrop (tBM K "list" rAppend to (tCons (tC (.int n)) tNil)) D σ H :=
  ho _ ⟨.inl ⟨rfl, _, SqL.of hp⟩, p, _, .int n, rfl, rfl, hp, sz_lt (by rw [List.length_map]; omega), by rw [List.map_append] at q; exact q⟩
theorem q_appI {n : Int} {row : List Int} (ho : Val to σ H (.ref p)) (hp : H p = some (.lst (row.map V.int))) (hz : row.length ≤ 10000) (q : u D σ (upd H p (.lst ((row ++ [n]).map V.int)))) : tSeq (tDrop (tBM K "list" rAppend to (tCons (tC (.int n)) tNil))) u D σ H := s_appI (D := { D with nx := u D }) ho hp hz q
/-- x.append([]) -/
theorem q_appE (ho : ∀ H', Ex H H' → Val to σ H' (.ref p)) (hp : H p = some (.lst xs)) (hz : xs.length ≤ 10000) (q : ∀ p2, H p2 = none → u D σ (upd (upd H p2 (.lst [])) p (.lst (xs ++ [.ref p2])))) : tSeq (tDrop (tBM K "list" rAppend to (tCons (tLst tNil) tNil))) u D σ H :=
  ho H (Ex.refl H) _ ⟨.inl ⟨rfl, _, SqL.of hp⟩, Nat.zero_le _, fun p2 hp2 => ⟨p, _, .ref p2, rfl, rfl, Ex.new hp2 _ _ hp, sz_lt (by omega), q p2 hp2⟩⟩
theorem RowsAt.some {F : List Addr} {c : Cl} (r : RowsAt H F c) {a : Addr} (h : a ∈ F) : ∃ o, H a = Option.some o := by
  obtain ⟨i, hi, he⟩ := List.getElem_of_mem h
  exact ⟨_, r.at_ i a _ (by rw [List.getElem?_eq_getElem hi, he]) (List.getElem?_eq_getElem (by rw [← r.len]; exact hi))⟩
theorem CAt.some {a : Addr} {F : List Addr} {c : Cl} (r : CAt H a F c) {x : Addr} (h : x = a ∨ x ∈ F) : ∃ o, H x = Option.some o := by
  rcases h with rfl | h
  · exact ⟨_, r.lst⟩
  · exact r.rows.some h
theorem off_one {o : HO} : Off [a] H (upd H a o) := fun b hb => upd_ne fun e => hb (by rw [e]; exact List.mem_cons_self)
/-- the row at its place -/
theorem CAt.row {F : List Addr} {c : Cl} (C : CAt H a F c) {k : Nat} (h : k < c.length) : ∃ r, F[k]? = Option.some r ∧ r ∈ F ∧ H r = Option.some (.lst ((c.getD k default).map V.int)) ∧ atI (F.map V.ref) (k : Int) = Option.some (.ref r) := by
  have hk : k < F.length := by rw [C.rows.len]; exact h
  refine ⟨F[k], List.getElem?_eq_getElem hk, List.getElem_mem hk, ?_, atI_nat (by rw [List.getElem?_map, List.getElem?_eq_getElem hk]; rfl)⟩
  rw [getD_lt h]
  exact C.rows.at_ k _ _ (List.getElem?_eq_getElem hk) (List.getElem?_eq_getElem h)
/-- a row is changed at one place -/
theorem CAt.set {F : List Addr} {c : Cl} (C : CAt H a F c) {k : Nat} {r : Addr} (hr : F[k]? = Option.some r) (row : List Int) : CAt (upd H r (.lst (row.map V.int))) a F (c.set k row) :=
  ⟨by rw [upd_ne (fun e => C.out (by rw [e]; exact List.mem_of_getElem? hr))]; exact C.lst, C.rows.set hr row, C.out⟩
end
end DF

namespace DF
open Enc (enc)
open PySem PySem.Spec PyProof.Rows L2 Evl RT
section
variable {K : PySem.W.Frag} {ρ : Rho} {te ta tb tc tl to ti : TE} {tt : TT} {z : Ent} {H H0 H' H1 : Hp} {σ : L2.St} {D : Ends} {t u : TS} {v w : V} {a p : Addr} {xs : List V} {i : Int} {g : TG} {d : PyData} {acc : List PyData}
/-! ### slices -/
theorem v_slD {ds : List PyData} {tlo thi : TO} {lo hi : Option Int} (ha : VD K ta ρ (.list ds)) (h1 : ∀ σ H, Env K H σ ρ → ∀ Q : Option Int → Hp → Prop, (∀ H', Ex H H' → Q lo H') → tlo σ H Q) (h2 : ∀ σ H, Env K H σ ρ → ∀ Q : Option Int → Hp → Prop, (∀ H', Ex H H' → Q hi H') → thi σ H Q) :
    VD K (tSl (rSlL K) ta tlo thi) ρ (.list ((ds.drop (HT.sIx ds.length 0 lo)).take (HT.sIx ds.length ds.length hi - HT.sIx ds.length 0 lo))) := fun σ H n Q q =>
  ha σ H n _ fun v H1 e1 r => h1 σ H1 (n.mono e1) _ fun H2 e2 => h2 σ H2 (n.mono (e1.trans e2)) _ fun H3 e3 => by
    obtain ⟨a, xs, rfl, ea, t⟩ := Tp.lst_inv r
    refine ⟨a, xs, rfl, SqL.of (e3 _ _ (e2 _ _ ea)), fun p hp => q _ _ (((e1.trans e2).trans e3).trans (Ex.new hp)) (.lst upd_same ((t.cut lo hi).mono ((e2.trans e3).trans (Ex.new hp))))⟩
theorem o_none : ∀ σ H, Env K H σ ρ → ∀ Q : Option Int → Hp → Prop, (∀ H', Ex H H' → Q none H') → tNoPart σ H Q := fun _ H _ Q q => q H (Ex.refl H)
theorem o_some (h : VD K te ρ (.int i)) : ∀ σ H, Env K H σ ρ → ∀ Q : Option Int → Hp → Prop, (∀ H', Ex H H' → Q (some i) H') → tPart te σ H Q := fun σ H n Q q => h σ H n _ fun v H' e r => by
  cases Tp.int_inv r
  exact ⟨i, rfl, q H' e⟩
theorem sl_to {α : Type} (xs : List α) (k : Nat) : (xs.drop (HT.sIx xs.length 0 none)).take (HT.sIx xs.length xs.length (some (k : Int)) - HT.sIx xs.length 0 none) = xs.take k := by
  rw [HT.sIx_none, HT.sIx_nat, Nat.sub_zero, List.drop_zero]
  by_cases h : k ≤ xs.length
  · rw [Nat.min_eq_left h]
  · rw [Nat.min_eq_right (by omega), List.take_length, List.take_of_length_le (by omega)]
theorem sl_from {α : Type} (xs : List α) (k : Nat) : (xs.drop (HT.sIx xs.length 0 (some (k : Int)))).take (HT.sIx xs.length xs.length none - HT.sIx xs.length 0 (some (k : Int))) = xs.drop k := by
  rw [HT.sIx_none, HT.sIx_nat]
  by_cases h : k ≤ xs.length
  · rw [Nat.min_eq_left h, List.take_of_length_le (by simp)]
  · rw [Nat.min_eq_right (by omega), Nat.sub_self, List.take_zero, List.drop_of_length_le (by omega)]
/-- xs[:k], xs[k:] -/
theorem v_slTo {α : Type} [Enc α] {xs : List α} (k : Nat) (ha : VD K ta ρ (enc xs)) (hb : VD K tb ρ (.int i)) (e : i = (k : Int)) : VD K (tSl (rSlL K) ta tNoPart (tPart tb)) ρ (enc (xs.take k)) := by
  subst e
  exact (v_slD ha o_none (o_some hb)).eq (by rw [sl_to, ← List.map_take]; rfl)
theorem v_slFrom {α : Type} [Enc α] {xs : List α} (k : Nat) (ha : VD K ta ρ (enc xs)) (hb : VD K tb ρ (.int i)) (e : i = (k : Int)) : VD K (tSl (rSlL K) ta (tPart tb) tNoPart) ρ (enc (xs.drop k)) := by
  subst e
  exact (v_slD ha (o_some hb) o_none).eq (by rw [sl_from, ← List.map_drop]; rfl)
/-! ### loops over a range whose turns grow a list of one's own -/
theorem s_loopRA {m : Int} {j : Nat} {js : List Nat} (ac : Nat → List PyData) (h0 : ac 0 = acc) (hj : j ∈ js) (hl : VD K tl ρ (.int m)) (hm : -100000 ≤ m ∧ m ≤ 1000000) (g : Grown H0 H p acc) (n : Env K H0 σ ρ)
    (body : ∀ k : Nat, (k : Int) < m → ∀ (σ' : L2.St) (H' : Hp) (D' : Ends), Buts js σ σ' → Grown H0 H' p (ac k) → Env K H0 (σ'.set j (some (.int (k : Int)))) ((wipeR ρ js).set j (some (.d (.int (k : Int))))) → D'.rt = D.rt →
      (∀ σ2 H2, Buts js σ σ2 → Grown H0 H2 p (ac (k + 1)) → D'.nx σ2 H2) → t D' (σ'.set j (some (.int (k : Int)))) H')
    (done : ∀ σ' H', Buts js σ σ' → Grown H0 H' p (ac m.toNat) → D.nx σ' H') : tFor (iRng1 (tCons tl tNil)) (gName j) t D σ H :=
  hl σ H (n.of g) _ fun v H1 e1 r1 => by
    cases Tp.int_inv r1
    refine ⟨m, rfl, by omega, by omega, ?_⟩
    refine for_range (lo := 0) (n := m.toNat) (fun k σ' H' => Buts js σ σ' ∧ Grown H0 H' p (ac k)) ⟨Buts.refl js σ, by rw [h0]; exact g.mono e1⟩ (fun k σ' H' hk pv => ?_) (fun σ' H' pv => done σ' H' pv.1 pv.2)
    have e0 : (0 : Int) + (k : Int) = (k : Int) := Int.zero_add _
    rw [e0]
    exact body k (by omega) σ' H' _ pv.1 pv.2 ((pv.1.env n).set j (z := .d (.int (k : Int))) (.int _)) rfl fun σ2 H2 b2 g2 => ⟨b2, g2⟩
theorem q_loopRA {m : Int} {j : Nat} {js : List Nat} (ac : Nat → List PyData) (h0 : ac 0 = acc) (hj : j ∈ js) (hl : VD K tl ρ (.int m)) (hm : -100000 ≤ m ∧ m ≤ 1000000) (g : Grown H0 H p acc) (n : Env K H0 σ ρ)
    (body : ∀ k : Nat, (k : Int) < m → ∀ (σ' : L2.St) (H' : Hp) (D' : Ends), Buts js σ σ' → Grown H0 H' p (ac k) → Env K H0 (σ'.set j (some (.int (k : Int)))) ((wipeR ρ js).set j (some (.d (.int (k : Int))))) → D'.rt = D.rt →
      (∀ σ2 H2, Buts js σ σ2 → Grown H0 H2 p (ac (k + 1)) → D'.nx σ2 H2) → t D' (σ'.set j (some (.int (k : Int)))) H')
    (done : ∀ σ' H', Buts js σ σ' → Grown H0 H' p (ac m.toNat) → u D σ' H') : tSeq (tFor (iRng1 (tCons tl tNil)) (gName j) t) u D σ H := s_loopRA (D := { D with nx := u D }) ac h0 hj hl hm g n body done
/-- an if whose answer is known, at the end of a block -/
theorem s_ifT {b : Bool} (hc : VT K tt ρ b) (hb : b = true) (n : Env K H σ ρ) (k : ∀ H', Ex H H' → t D σ H') : tIfS tt t u D σ H := hc σ H n _ fun H' e => by
  subst hb
  exact k H' e
theorem New.ints {H0 H : Hp} {v : V} {ns : List Int} (h : New H0 H v (enc ns)) : ∃ a, v = .ref a ∧ H a = some (.lst (ns.map V.int)) ∧ H0 a = none := by
  obtain ⟨F, o, f⟩ := h
  obtain ⟨a, rfl, rfl, ha⟩ := own_intList o
  exact ⟨a, rfl, ha, f a List.mem_cons_self⟩
end
/-! ### first threads -/
def firstK (c : Cl) (k : Nat) : Bool := !decide (c.getD k default ∈ c.take k)
def firstPlaces (c : Cl) : List Int := ((List.range c.length).filter (firstK c)).map fun k : Nat => (k : Int)
def columns (c : Cl) : Cl := (List.range (c.getD 0 default).length).map fun k => warpOf c k
def placeBetween (a b : List Int) : Option Nat := (List.range a.length).find? fun k => !decide (a.getD k default = b.getD k default)
def encO : Option Nat → PyData
  | none => .none
  | some k => .int (k : Int)
theorem columns_len (c : Cl) : (columns c).length = (c.getD 0 default).length := by unfold columns; simp
theorem columns_at (c : Cl) {k : Nat} (h : k < (c.getD 0 default).length) : (columns c).getD k default = warpOf c k := by
  unfold columns
  rw [getD_map _ _ _ (by simpa using h)]
  simp
theorem columns_row {c : Cl} {row : List Int} (h : row ∈ columns c) : row.length = c.length := by
  obtain ⟨k, _, rfl⟩ := List.mem_map.mp h
  simp [warpOf]
/-- of each row of the first k there is a first one -/
theorem first_of (c : Cl) (k : Nat) : ∀ i : Nat, i < k → i < c.length → ∃ j, j ≤ i ∧ firstK c j = true ∧ c.getD j default = c.getD i default := by
  intro i
  induction i using Nat.strongRecOn with
  | _ i ih =>
    intro hi hc
    cases h : firstK c i with
    | true => exact ⟨i, Nat.le_refl i, h, rfl⟩
    | false =>
      unfold firstK at h
      have hm : c.getD i default ∈ c.take i := by simpa using h
      obtain ⟨j, hj, e⟩ := List.getElem_of_mem hm
      have hj' : j < i := by rw [List.length_take] at hj; omega
      obtain ⟨l, h1, h2, h3⟩ := ih j hj' (by omega) (by omega)
      refine ⟨l, by omega, h2, ?_⟩
      rw [h3, getD_lt (by omega), ← e, List.getElem_take]
theorem firsts_any (c : Cl) {k : Nat} (h : k < c.length) : ((((List.range k).filter (firstK c)).map fun i : Nat => (i : Int)).any fun a => decide (c.getD a.toNat default = c.getD k default)) = decide (c.getD k default ∈ c.take k) := by
  rw [Bool.eq_iff_iff]
  simp only [List.any_eq_true, List.mem_map, List.mem_filter, List.mem_range, decide_eq_true_eq]
  constructor
  · rintro ⟨a, ⟨i, ⟨hi, _⟩, rfl⟩, e⟩
    rw [Int.toNat_natCast] at e
    rw [← e, getD_lt (by omega), ← List.getElem_take (h := by rw [List.length_take]; omega) (j := k)]
    exact List.getElem_mem _
  · intro hm
    obtain ⟨i, hi, e⟩ := List.getElem_of_mem hm
    have hik : i < k := by rw [List.length_take] at hi; omega
    obtain ⟨j, h1, h2, h3⟩ := first_of c k i hik (by omega)
    refine ⟨(j : Int), ⟨j, ⟨by omega, h2⟩, rfl⟩, ?_⟩
    rw [Int.toNat_natCast, h3, getD_lt (by omega), ← e, List.getElem_take]
end DF
namespace DF
open Enc (enc)
open PySem PySem.Spec PyProof.Rows L2 Evl RT
section
variable {K : PySem.W.Frag} {ρ ρ' : Rho} {t u : TS} {o : Out}
theorem findR_first (f : Nat → Option PyData) (ρ : Rho) : ∀ l : List Nat, ((∀ i ∈ l, f i = none) ∧ findR f ρ l = .nx ρ) ∨ ∃ (k i : Nat) (d : PyData), l[k]? = some i ∧ (∀ j i' : Nat, j < k → l[j]? = some i' → f i' = none) ∧ f i = some d ∧ findR f ρ l = .ret d
  | [] => .inl ⟨fun _ h => (by cases h), rfl⟩
  | i :: r => by
    cases h : f i with
    | some d => exact .inr ⟨0, i, d, rfl, fun j _ hj => absurd hj (Nat.not_lt_zero j), h, by unfold findR; rw [h]⟩
    | none =>
      rcases findR_first f ρ r with ⟨h1, h2⟩ | ⟨k, j, d, h1, h2, h3, h4⟩
      · exact .inl ⟨fun k hk => (List.mem_cons.mp hk).elim (fun e => e ▸ h) (h1 k), by unfold findR; rw [h]; exact h2⟩
      · refine .inr ⟨k + 1, j, d, by simpa using h1, fun a i' ha hi' => ?_, h3, by unfold findR; rw [h]; exact h4⟩
        cases a with
        | zero => simp at hi'; subst hi'; exact h
        | succ a => exact h2 a i' (by omega) (by simpa using hi')
/-- a search over range(n): the first turn that returns -/
theorem r_seqFirst {f : Nat → Option PyData} {n : Nat} (h1 : RD K t ρ (findR f ρ' (List.range n))) (h2 : (∀ i < n, f i = none) → RD K u ρ' o) (h3 : ∀ i < n, ∀ d, (∀ j < i, f j = none) → f i = some d → o = .ret d) : RD K (tSeq t u) ρ o := by
  rcases findR_first f ρ' (List.range n) with ⟨a, b⟩ | ⟨k, i, d, hk, hf, hd, b⟩
  · rw [b] at h1
    exact r_seq h1 (h2 fun i hi => a i (List.mem_range.mpr hi))
  · rw [b] at h1
    obtain ⟨hl, e⟩ := List.getElem?_eq_some_iff.mp hk
    rw [List.length_range] at hl
    rw [List.getElem_range] at e
    subst e
    rw [h3 k hl d (fun j hj => hf j j hj (List.getElem?_range (by omega))) hd]
    exact r_seqR h1
end
theorem placeBetween_none {a b : List Int} (h : ∀ k < a.length, a.getD k default = b.getD k default) : placeBetween a b = none := by
  unfold placeBetween
  rw [List.find?_eq_none]
  intro k hk
  rw [decide_eq_true (h k (List.mem_range.mp hk))]
  decide
theorem find_filter {α : Type} {p : α → Bool} : ∀ {l : List α} {x : α}, l.find? p = some x → ∃ r, l.filter p = x :: r
  | [], _, h => by simp at h
  | a :: l, x, h => by
    rw [List.find?_cons] at h
    rw [List.filter_cons]
    cases hp : p a with
    | true => rw [hp] at h; cases h; exact ⟨_, by rw [if_pos rfl]⟩
    | false =>
      rw [hp] at h
      obtain ⟨r, e⟩ := find_filter h
      exact ⟨r, by rw [if_neg (by decide)]; exact e⟩
theorem find_range {p : Nat → Bool} : ∀ {n i : Nat}, i < n → p i = true → (∀ j < i, p j = false) → (List.range n).find? p = some i := by
  intro n
  induction n with
  | zero => intro i h; omega
  | succ n ih =>
    intro i hi hp hn
    rw [List.range_succ, List.find?_append]
    by_cases h : i < n
    · rw [ih h hp hn]; rfl
    · have e : i = n := by omega
      subst e
      rw [List.find?_eq_none.mpr fun j hj => by rw [hn j (List.mem_range.mp hj)]; decide]
      simp [hp]
theorem placeBetween_some {a b : List Int} {i : Nat} (hi : i < a.length) (h : ¬ a.getD i default = b.getD i default) (hn : ∀ j < i, a.getD j default = b.getD j default) : placeBetween a b = some i := by
  unfold placeBetween
  exact find_range hi (by rw [decide_eq_false h]; rfl) fun j hj => by rw [decide_eq_true (hn j hj)]; rfl
end DF

namespace DF
open Enc (enc)
open PySem PySem.Spec PyProof.Rows L2 Evl RT
/-- the place of the first one that is it -/
def idxD {α : Type} [DecidableEq α] (xs : List α) (x : α) : Nat := xs.idxOf x
theorem idxOf_ne {α : Type} [DecidableEq α] : ∀ {xs : List α} {x : α} {m : Nat} (hm : m < xs.idxOf x) {hl : m < xs.length}, xs[m] ≠ x
  | [], x, m, hm, hl => by simp at hl
  | y :: ys, x, m, hm, hl => by
    rw [List.idxOf_cons] at hm
    by_cases h : y = x
    · rw [h] at hm; simp at hm
    · have hb : (y == x) = false := beq_eq_false_iff_ne.mpr h
      rw [hb] at hm
      cases m with
      | zero => exact h
      | succ m =>
        have hm' : m + 1 < ys.idxOf x + 1 := hm
        exact idxOf_ne (xs := ys) (x := x) (m := m) (by omega)
section
variable {K : PySem.W.Frag} {ρ : Rho} {te ta tb tc tl to ti : TE} {tt : TT} {z : Ent} {H H0 H' H1 : Hp} {σ : L2.St} {D : Ends} {t u : TS} {v w : V} {a p : Addr} {xs : List V} {i : Int} {g : TG} {d : PyData} {acc : List PyData}
/-- a comprehension whose items stand already -/
theorem v_lc {α β : Type} [Enc α] [Enc β] {xs : List α} {j : Nat} {vs : List Nat} (f : α → β) (hl : VD K tl ρ (enc xs)) (hz : xs.length ≤ 10000) (hj : j ∈ vs)
    (he : ∀ x ∈ xs, VS K te ((wipeR ρ vs).set j (some (.d (enc x)))) (enc (f x))) : VD K (tLc (iList K tl) (gName j) tYes te vs) ρ (enc (xs.map f)) := by
  refine fun σ H n Q q => hl σ H n _ fun v H1 e1 r1 => ?_
  obtain ⟨a, us, rfl, ea, t⟩ := Tp.lst_inv r1
  refine ⟨a, rfl, ⟨us, SqL.of ea⟩, fun D hD => ?_⟩
  refine lc_list (xs := us) (fun i H' => PvS H1 D ((xs.take i).map fun x => enc (f x)) H') (by simpa using PvS.start hD) (fun i H' _ pv => SqL.of (pv.1 _ _ ea)) (fun i x H' hx pv => ⟨wipe_back hj, ?_⟩) (fun H' pv => ?_)
  · obtain ⟨d, hd, td⟩ := t.getV hx
    rw [List.getElem?_map] at hd
    cases hxi : xs[i]? with
    | none => rw [hxi] at hd; cases hd
    | some y =>
      rw [hxi] at hd
      cases hd
      have hm : y ∈ xs := List.mem_of_getElem? hxi
      have hi : i < xs.length := (List.getElem?_eq_some_iff.mp hxi).1
      refine turnS hD pv (((n.mono e1).wipe vs).set j (z := .d (enc y)) td) t_yes (fun _ => he y hm) (by rw [List.length_map, List.length_take]; omega) (fun _ => ?_) (fun z => nomatch z)
      rw [List.take_add_one, hxi]
      simp
  · rw [t.len, List.length_map, List.take_length] at pv
    have w := pv.done
    rw [show (xs.map fun x => enc (f x)) = (xs.map f).map enc by rw [List.map_map]; rfl] at w
    exact q _ H' (e1.trans pv.1) w
/-- xs.index(x) -/
theorem v_index {α : Type} [Enc α] [DecidableEq α] {xs : List α} {x : α} (ha : VD K to ρ (enc xs)) (hb : VD K te ρ (enc x)) (hx : x ∈ xs) (h : Enc.deep α + 1 ≤ 64 := by decide) : VD K (tBM K "list" (rIndexD K) to (tCons te tNil)) ρ (.int ((idxD xs x : Nat) : Int)) := fun σ H n Q q =>
  ha σ H n _ fun u H1 e1 r1 => by
    obtain ⟨a, us, rfl, ea, t⟩ := Tp.lst_inv r1
    refine ⟨.inl ⟨rfl, us, SqL.of ea⟩, hb σ H1 (n.mono e1) _ fun v H2 e2 r2 => ?_⟩
    have hi : xs.idxOf x < xs.length := List.idxOf_lt_length_of_mem hx
    refine ⟨a, v, enc x, xs.map enc, xs.idxOf x, enc x, rfl, rfl, Tp.dp ((Tp.lst ea t : Tp H1 (.ref a) (enc xs)).mono e2) (Enc.lay xs), Tp.dp r2 (Enc.lay x), shaped_enc xs h, shaped_enc x (by omega), ?_, ?_, fun m z' hm hz => ?_, q _ H2 (e1.trans e2) (.int _)⟩
    · rw [List.getElem?_map, List.getElem?_eq_getElem hi, List.getElem_idxOf hi]
      rfl
    · exact (Enc.eqv_enc x x).mpr rfl
    · rw [List.getElem?_map, List.getElem?_eq_getElem (show m < xs.length by omega)] at hz
      cases hz
      cases q2 : PyData.eqv (enc xs[m]) (enc x) with
      | false => rfl
      | true =>
        have e := (Enc.eqv_enc _ _).mp q2
        exact absurd e (idxOf_ne hm)
/-- a def that tells data that may be another's -/
def spE (K : PySem.W.Frag) (R : List Ent → PyData → Prop) : Sp := fun vs H Q _ => ∃ zs r, RepAll K H vs zs ∧ R zs r ∧ ∀ v H', Ex H H' → Tp H' v r → Q v H'
theorem v_callE {R : List Ent → PyData → Prop} {E : XK} {ta : TA} {zs : List Ent} (ha : AE K ta ρ zs) (hR : R zs d) : VD K (tCall (spE K R) [] E ta) ρ d := fun σ H n Q q =>
  ha σ H n _ fun vs H1 e1 r1 => by
    show spE K R (vs ++ []) H1 Q E
    rw [List.append_nil]
    exact ⟨zs, d, r1, hR, fun v H' e2 w => q v H' (e1.trans e2) w⟩
/-- returned tuples: two slots of one's own and a new one; a slot between two new ones -/
theorem s_ret_vvn {i j : Nat} {x y : V} {a b c : PyData} {F : List Addr} (h1 : σ[i]? = some (some x)) (h2 : σ[j]? = some (some y)) (o : OwnAll H [x, y] [a, b] F) (f : ∀ x ∈ F, H0 x = none) (e : Ex H0 H) (n : Env K H σ ρ) (h : VN K te ρ c)
    (k : ∀ v H', Ex H H' → New H0 H' v (.tuple [a, b, c]) → D.rt v H') : tRet (tTup (tCons (tVar i) (tCons (tVar j) (tCons te tNil)))) D σ H :=
  ⟨x, h1, y, h2, h σ H n _ fun w H' e' ⟨G, oG, fG⟩ => ⟨(show 3 ≤ sizeLine by decide), fun q hq => by
    have al : OwnAll H' [x, y, w] [a, b, c] (F ++ G) := by
      have := OwnAll.append (OwnAll.cons oG .nil (fun _ _ z => nomatch z)) (o.mono e') (fun z hz hg => by
        rw [List.append_nil] at hg
        obtain ⟨xs, hx⟩ := o.at_ z hz
        rw [fG z hg] at hx
        cases hx)
      rw [List.append_nil] at this
      exact this
    exact k _ _ (e'.trans (Ex.new hq)) ⟨F ++ G, .tup upd_same (al.mono (Ex.new hq)), fun z hz => (List.mem_append.mp hz).elim (f z) fun h => fresh_back e (fG z h)⟩⟩⟩
theorem s_ret_nvn {j : Nat} {y : V} {a b c : PyData} {F : List Addr} (h2 : σ[j]? = some (some y)) (o : Own H y b F) (f : ∀ x ∈ F, H0 x = none) (e : Ex H0 H) (n : Env K H σ ρ) (ha : VN K ta ρ a) (h : VN K te ρ c)
    (k : ∀ v H', Ex H H' → New H0 H' v (.tuple [a, b, c]) → D.rt v H') : tRet (tTup (tCons ta (tCons (tVar j) (tCons te tNil)))) D σ H :=
  ha σ H n _ fun x H1 e1 ⟨A, oA, fA⟩ => ⟨y, h2, h σ H1 (n.mono e1) _ fun w H' e' ⟨G, oG, fG⟩ => ⟨(show 3 ≤ sizeLine by decide), fun q hq => by
    have o' := o.mono (e1.trans e')
    have oA' := oA.mono e'
    have al : OwnAll H' [x, y, w] [a, b, c] (A ++ (F ++ (G ++ []))) := .cons oA' (.cons o' (.cons oG .nil (fun _ _ z => nomatch z)) fun z hz hg => by
        rw [List.append_nil] at hg
        obtain ⟨xs, hx⟩ := o.at_ z hz
        have := fG z hg
        rw [e1 _ _ hx] at this
        cases this) fun z hz hg => by
      rw [List.append_nil] at hg
      rcases List.mem_append.mp hg with h | h
      · obtain ⟨xs, hx⟩ := o.at_ z h
        rw [fA z hz] at hx
        cases hx
      · obtain ⟨xs, hx⟩ := oA.at_ z hz
        rw [fG z h] at hx
        cases hx
    exact k _ _ ((e1.trans e').trans (Ex.new hq)) ⟨_, .tup upd_same (al.mono (Ex.new hq)), fun z hz => by
      rcases List.mem_append.mp hz with h | h
      · exact fresh_back e (fA z h)
      · rcases List.mem_append.mp h with h | h
        · exact f z h
        · rw [List.append_nil] at h
          exact fresh_back (e.trans e1) (fG z h)⟩⟩⟩
end
/-! ### the least draft -/
def heads (c : Cl) : Cl := ((List.range c.length).filter (firstK c)).map fun k => c.getD k default
def numbersOf (c : Cl) : List Int := c.map fun row => ((idxD (heads c) row : Nat) : Int)
def leastDraft (c : Cl) : Dr where
  th := numbersOf (columns c)
  ti := (firstPlaces (columns c)).map fun warp => (firstPlaces c).map fun weft => (c.getD weft.toNat default).getD warp.toNat default
  tr := numbersOf c
theorem mem_first {c : Cl} {k : Int} (h : k ∈ firstPlaces c) : 0 ≤ k ∧ k < c.length ∧ firstK c k.toNat = true := by
  obtain ⟨i, hi, rfl⟩ := List.mem_map.mp h
  obtain ⟨h1, h2⟩ := List.mem_filter.mp hi
  have := List.mem_range.mp h1
  exact ⟨by omega, by omega, by rw [Int.toNat_natCast]; exact h2⟩
theorem heads_eq (c : Cl) : heads c = (firstPlaces c).map fun k => c.getD k.toNat default := by
  unfold heads firstPlaces
  rw [List.map_map]
  apply List.map_congr_left
  intro k _
  show _ = c.getD ((k : Int)).toNat default
  rw [Int.toNat_natCast]
theorem mem_heads {c : Cl} {row : List Int} (h : row ∈ c) : row ∈ heads c := by
  obtain ⟨i, hi, e⟩ := List.getElem_of_mem h
  obtain ⟨j, h1, h2, h3⟩ := first_of c c.length i hi hi
  refine List.mem_map.mpr ⟨j, List.mem_filter.mpr ⟨List.mem_range.mpr (by omega), h2⟩, ?_⟩
  rw [h3, getD_lt hi, e]
theorem heads_sub {c : Cl} {row : List Int} (h : row ∈ heads c) : row ∈ c := by
  obtain ⟨k, hk, rfl⟩ := List.mem_map.mp h
  have := List.mem_range.mp (List.mem_filter.mp hk).1
  rw [getD_lt this]
  exact List.getElem_mem this
theorem heads_len (c : Cl) : (heads c).length = (firstPlaces c).length := by unfold heads firstPlaces; rw [List.length_map, List.length_map]
theorem firstPlaces_len (c : Cl) : (firstPlaces c).length ≤ c.length := by
  unfold firstPlaces
  rw [List.length_map]
  exact Nat.le_trans (List.length_filter_le _ _) (by simp)
end DF
namespace DF
open Enc (enc)
open PySem PySem.Spec PyProof.Rows L2 Evl RT
def headsK (c : Cl) (k : Nat) : Cl := ((List.range k).filter (firstK c)).map fun i => c.getD i default
theorem headsK_all (c : Cl) : headsK c c.length = heads c := rfl
theorem headsK_yes {c : Cl} {k : Nat} (h : firstK c k = true) : headsK c (k + 1) = headsK c k ++ [c.getD k default] := by
  unfold headsK
  rw [List.range_succ, List.filter_append, List.map_append]
  simp [h]
theorem headsK_no {c : Cl} {k : Nat} (h : firstK c k = false) : headsK c (k + 1) = headsK c k := by
  unfold headsK
  rw [List.range_succ, List.filter_append, List.map_append]
  simp [h]
theorem headsK_len (c : Cl) (k : Nat) : (headsK c k).length ≤ k := by
  unfold headsK
  rw [List.length_map]
  exact Nat.le_trans (List.length_filter_le _ _) (by simp)
theorem headsK_mem {c : Cl} {k : Nat} (hk : k ≤ c.length) {row : List Int} : row ∈ headsK c k ↔ row ∈ c.take k := by
  constructor
  · intro h
    obtain ⟨i, hi, rfl⟩ := List.mem_map.mp h
    have hi2 := List.mem_range.mp (List.mem_filter.mp hi).1
    rw [getD_lt (by omega), ← List.getElem_take (h := by rw [List.length_take]; omega) (j := k)]
    exact List.getElem_mem _
  · intro h
    obtain ⟨i, hi, e⟩ := List.getElem_of_mem h
    have hik : i < k := by rw [List.length_take] at hi; omega
    obtain ⟨j, h1, h2, h3⟩ := first_of c k i hik (by omega)
    refine List.mem_map.mpr ⟨j, List.mem_filter.mpr ⟨List.mem_range.mpr (by omega), h2⟩, ?_⟩
    rw [h3, getD_lt (by omega), ← e, List.getElem_take]
theorem headsK_pre (c : Cl) {k : Nat} : ∀ m : Nat, ∃ r, headsK c (k + m) = headsK c k ++ r
  | 0 => ⟨[], by simp⟩
  | m + 1 => by
    obtain ⟨r, e⟩ := headsK_pre c (k := k) m
    cases h : firstK c (k + m) with
    | true => exact ⟨r ++ [c.getD (k + m) default], by rw [← Nat.add_assoc, headsK_yes h, e, List.append_assoc]⟩
    | false => exact ⟨r, by rw [← Nat.add_assoc, headsK_no h, e]⟩
theorem idxD_pre {α : Type} [DecidableEq α] {xs r : List α} {x : α} (h : x ∈ xs) : idxD (xs ++ r) x = idxD xs x := by
  unfold idxD
  rw [List.idxOf_append]
  simp [h]
theorem headsK_in {c : Cl} {k : Nat} (hk : k < c.length) : c.getD k default ∈ headsK c (k + 1) := by
  rw [headsK_mem (by omega), getD_lt hk, ← List.getElem_take (h := by rw [List.length_take]; omega) (j := k + 1)]
  exact List.getElem_mem _
theorem headsK_idx {c : Cl} {k : Nat} (hk : k < c.length) : idxD (headsK c (k + 1)) (c.getD k default) = idxD (heads c) (c.getD k default) := by
  obtain ⟨r, e⟩ := headsK_pre c (k := k + 1) (c.length - (k + 1))
  rw [show k + 1 + (c.length - (k + 1)) = c.length by omega, headsK_all] at e
  rw [e, idxD_pre (headsK_in hk)]
theorem idxD_spec {α : Type} [DecidableEq α] {xs : List α} {k : Nat} (hk : k < xs.length) (hnot : xs[k] ∉ xs.take k) : idxD xs xs[k] = k := by
  unfold idxD
  have hi : xs.idxOf xs[k] < xs.length := List.idxOf_lt_length_of_mem (List.getElem_mem hk)
  have e := List.getElem_idxOf hi
  have hle : ¬ k < xs.idxOf xs[k] := fun q => idxOf_ne q (hl := hk) rfl
  refine Nat.le_antisymm (Nat.not_lt.mp hle) (Nat.not_lt.mp fun q => hnot ?_)
  have h2 : (xs.take k)[xs.idxOf xs[k]]'(by rw [List.length_take]; exact Nat.lt_min.mpr ⟨q, hi⟩) = xs[k] := by rw [List.getElem_take]; exact e
  exact h2 ▸ List.getElem_mem _
/-- the place of a first one -/
theorem idxD_first {c : Cl} {k : Nat} (hk : k < c.length) (h : firstK c k = true) : idxD c (c.getD k default) = k := by
  unfold firstK at h
  have hnot : c.getD k default ∉ c.take k := by simpa using h
  rw [getD_lt hk] at hnot ⊢
  exact idxD_spec hk hnot
end DF
namespace DF
open Enc (enc)
open PySem PySem.Spec PyProof.Rows L2 Evl RT
theorem Good.flip {c : Cl} (g : Good c) {k j : Nat} (hk : k < c.length) : Good (c.set k ((c.getD k default).set j (1 - (c.getD k default).getD j default))) := by
  have w0 : ((c.set k ((c.getD k default).set j (1 - (c.getD k default).getD j default))).getD 0 default).length = (c.getD 0 default).length := by
    by_cases h : k = 0
    · subst h
      rw [List.getD_eq_getElem?_getD, List.getElem?_set_self hk]
      simp
    · rw [List.getD_eq_getElem?_getD, List.getElem?_set_ne h, ← List.getD_eq_getElem?_getD]
  refine ⟨by rw [List.length_set]; exact g.len, fun row hr => ?_, by rw [w0]; exact g.wide, fun row hr x hx => ?_⟩
  · rw [w0]
    rcases List.mem_or_eq_of_mem_set hr with h | h
    · exact g.rows row h
    · rw [h, List.length_set]
      exact g.rows _ (g.at_ hk)
  · rcases List.mem_or_eq_of_mem_set hr with h | h
    · exact g.bits row h x hx
    · rw [h] at hx
      rcases List.mem_or_eq_of_mem_set hx with h2 | h2
      · exact g.bits _ (g.at_ hk) x h2
      · have := g.bit (g.at_ hk) j
        omega
section
variable {K : PySem.W.Frag} {ρ : Rho} {te ta tb tc tl to ti : TE} {tt : TT} {z : Ent} {H H0 H' H1 : Hp} {σ : L2.St} {D : Ends} {t u : TS} {v w : V} {a p : Addr} {xs : List V} {i : Int} {g : TG} {d : PyData} {acc : List PyData}
/-- for x in ys: xs.append(e), of plain data -/
theorem s_growLE {α β : Type} [Enc α] [Enc β] {ys : List α} {acc : List β} {i j : Nat} (f : α → β) (hij : i ≠ j) (hl : VS K tl ρ (enc ys)) (hz : acc.length + ys.length ≤ 20000) (hi : σ[i]? = some (some (.ref p))) (g : Grown H0 H p (acc.map enc)) (n : Env K H0 σ ρ)
    (he : ∀ x ∈ ys, VN K te ((ρ.set j none).set j (some (.d (enc x)))) (enc (f x)))
    (done : ∀ σ' H', But j σ σ' → Grown H0 H' p ((acc ++ ys.map f).map enc) → D.nx σ' H') : tFor (iList K tl) (gName j) (tDrop (tBM K "list" rAppend (tVar i) (tCons te tNil))) D σ H :=
  hl σ H0 H n g.ex _ fun v H1 e1 r1 => by
    obtain ⟨a, xs, rfl, ea, t'⟩ := Tp.lst_inv r1
    have g1 := g.mono e1
    refine ⟨a, rfl, ⟨xs, SqL.of (g1.ex _ _ ea)⟩, ?_⟩
    refine for_list (xs := xs) (fun k σ' H' => But j σ σ' ∧ Grown H0 H' p ((acc ++ (ys.take k).map f).map enc)) ⟨But.refl j σ, by simpa using g1⟩ (fun k σ' H' _ pv => SqL.of (pv.2.ex _ _ ea)) (fun k x σ' H' hx pv => ?_) (fun σ' H' pv => ?_)
    · obtain ⟨bt, g'⟩ := pv
      obtain ⟨d, hd, td⟩ := t'.getV hx
      rw [List.getElem?_map] at hd
      cases hyk : ys[k]? with
      | none => rw [hyk] at hd; cases hd
      | some y =>
        rw [hyk] at hd
        cases hd
        have hm : y ∈ ys := List.mem_of_getElem? hyk
        have hk : k < ys.length := (List.getElem?_eq_some_iff.mp hyk).1
        have n' := (bt.env n).of g'
        refine s_push (ρ := (ρ.set j none).set j (some (.d (enc y)))) (d := enc (f y)) (by rw [List.getElem?_set_ne (Ne.symm hij), bt.at_ i hij]; exact hi) g' (by rw [List.length_map, List.length_append, List.length_map, List.length_take]; omega) (n'.set j (z := .d (enc y)) (td.mono g'.ex)) (he y hm) fun H2 _ g2 => ?_
        refine ⟨bt.set _, ?_⟩
        rw [List.take_add_one, hyk]
        simpa using g2
    · obtain ⟨bt, g'⟩ := pv
      rw [t'.len, List.length_map, List.take_length] at g'
      exact done σ' H' bt g'
theorem q_growLE {α β : Type} [Enc α] [Enc β] {ys : List α} {acc : List β} {i j : Nat} (f : α → β) (hij : i ≠ j) (hl : VS K tl ρ (enc ys)) (hz : acc.length + ys.length ≤ 20000) (hi : σ[i]? = some (some (.ref p))) (g : Grown H0 H p (acc.map enc)) (n : Env K H0 σ ρ)
    (he : ∀ x ∈ ys, VN K te ((ρ.set j none).set j (some (.d (enc x)))) (enc (f x)))
    (done : ∀ σ' H', But j σ σ' → Grown H0 H' p ((acc ++ ys.map f).map enc) → u D σ' H') : tSeq (tFor (iList K tl) (gName j) (tDrop (tBM K "list" rAppend (tVar i) (tCons te tNil)))) u D σ H :=
  s_growLE (D := { D with nx := u D }) f hij hl hz hi g n he done
/-- a part of what the slots tell -/
theorem Env.only {ρ' : Rho} (n : Env K H σ ρ) (h : ρ'.length = ρ.length := by rfl) (s : ∀ (i : Nat) (z : Ent), ρ'[i]? = some (some z) → ρ[i]? = some (some z)) : Env K H σ ρ' := n.sub ⟨h, s⟩
end
theorem least_ti (c : Cl) : ((heads (columns c)).map fun col => (heads c).map fun row => col.getD (idxD c row) default) = (leastDraft c).ti := by
  unfold leastDraft
  simp only []
  rw [heads_eq, heads_eq, List.map_map]
  apply List.map_congr_left
  intro w hw
  show List.map _ (List.map _ _) = _
  rw [List.map_map]
  apply List.map_congr_left
  intro f hf
  have m1 := mem_first hw
  have m2 := mem_first hf
  show List.getD ((columns c).getD w.toNat default) (idxD c (c.getD f.toNat default)) default = _
  rw [idxD_first (by omega) m2.2.2, columns_at c (by have := m1.2.1; rw [columns_len] at this; omega)]
  unfold warpOf
  rw [getD_map _ _ _ (show f.toNat < c.length by omega), ← getD_lt]
end DF
namespace DF
theorem idxD_lt {α : Type} [DecidableEq α] {xs : List α} {x : α} (h : x ∈ xs) : idxD xs x < xs.length := List.idxOf_lt_length_of_mem h
end DF

namespace DF
open Enc (enc)
open PySem PySem.Spec PyProof.Rows L2 Evl RT
/-! ### the least draft weaves the cloth, and has the fewest -/
theorem getD_idxD {α : Type} [DecidableEq α] [Inhabited α] {xs : List α} {x : α} (h : x ∈ xs) : xs.getD (idxD xs x) default = x := by
  rw [getD_lt (idxD_lt h)]
  exact List.getElem_idxOf (idxD_lt h)
theorem range_getD (row : List Int) : ((List.range row.length).map fun k => row.getD k default) = row := by
  refine getD_ext (by simp) fun i hi => ?_
  rw [getD_map _ _ _ (by simpa using hi)]
  simp
theorem least_weaves {c : Cl} (g : Good c) : woven (leastDraft c) = c := by
  unfold woven
  rw [← least_ti]
  show (numbersOf c).map (fun t => (numbersOf (columns c)).map fun s => _) = c
  unfold numbersOf
  rw [List.map_map]
  have key : ∀ row ∈ c, (((columns c).map fun col => ((idxD (heads (columns c)) col : Nat) : Int)).map fun s => ((((heads (columns c)).map fun col => (heads c).map fun r => col.getD (idxD c r) default).getD s.toNat default).getD (((idxD (heads c) row : Nat) : Int)).toNat default)) = row := by
    intro row hr
    rw [List.map_map]
    unfold columns
    rw [List.map_map]
    have hw := g.rows row hr
    have : ∀ w ∈ List.range (c.getD 0 default).length, (((fun s : Int => ((((heads (columns c)).map fun col => (heads c).map fun r => col.getD (idxD c r) default).getD s.toNat default).getD (((idxD (heads c) row : Nat) : Int)).toNat default)) ∘ fun col => ((idxD (heads (columns c)) col : Nat) : Int)) ∘ fun k => warpOf c k) w = row.getD w default := by
      intro w hwm
      have hw2 := List.mem_range.mp hwm
      have hcol : warpOf c w ∈ columns c := List.mem_map.mpr ⟨w, hwm, rfl⟩
      show (((((heads (columns c)).map fun col => (heads c).map fun r => col.getD (idxD c r) default).getD ((((idxD (heads (columns c)) (warpOf c w)) : Nat) : Int)).toNat default).getD (((idxD (heads c) row : Nat) : Int)).toNat default)) = row.getD w default
      rw [Int.toNat_natCast, Int.toNat_natCast, getD_map _ _ _ (idxD_lt (mem_heads hcol)), ← getD_lt, getD_idxD (mem_heads hcol), getD_map _ _ _ (idxD_lt (mem_heads hr)), ← getD_lt, getD_idxD (mem_heads hr)]
      unfold warpOf
      rw [getD_map _ _ _ (idxD_lt hr), ← getD_lt, getD_idxD hr]
    have e := List.map_congr_left this
    unfold columns at e
    rw [e, ← hw]
    exact range_getD row
  have e2 : c.map (fun row => (((columns c).map fun col => ((idxD (heads (columns c)) col : Nat) : Int)).map fun s => ((((heads (columns c)).map fun col => (heads c).map fun r => col.getD (idxD c r) default).getD s.toNat default).getD (((idxD (heads c) row : Nat) : Int)).toNat default))) = c.map id := List.map_congr_left key
  rw [List.map_id] at e2
  exact e2
theorem firstPlaces_pos {c : Cl} (h : 0 < c.length) : 0 < (firstPlaces c).length := by
  have hm : c[0] ∈ heads c := mem_heads (List.getElem_mem h)
  rw [← heads_len]
  exact List.length_pos_of_mem hm
theorem least_good {c : Cl} (g : Good c) : GoodD (leastDraft c) := by
  have hc := g.pos
  have hw := g.wide
  have lc := columns_len c
  have p1 := firstPlaces_pos hc
  have p2 := firstPlaces_pos (c := columns c) (by omega)
  have f1 := firstPlaces_len (columns c)
  have f2 := firstPlaces_len c
  have z3 : (leastDraft c).ti.length = (firstPlaces (columns c)).length := by show (List.map _ _).length = _; rw [List.length_map]
  have z4 : ∀ row ∈ (leastDraft c).ti, row.length = (firstPlaces c).length := fun row hr => by
    obtain ⟨x, _, rfl⟩ := List.mem_map.mp hr
    rw [List.length_map]
  have z5 : ((leastDraft c).ti.getD 0 default).length = (firstPlaces c).length := z4 _ (by
    rw [getD_lt (by omega)]
    exact List.getElem_mem _)
  have g1 := g.len
  refine ⟨⟨by omega, fun row hr => by rw [z4 row hr, z5], by rw [z5]; omega, fun row hr x hx => ?_⟩, by show 1 ≤ (List.map _ _).length ∧ (List.map _ _).length ≤ 60; rw [List.length_map]; omega, by show 1 ≤ (List.map _ _).length ∧ (List.map _ _).length ≤ 60; rw [List.length_map]; omega, fun s hs => ?_, fun t ht => ?_⟩
  · obtain ⟨w, hw', rfl⟩ := List.mem_map.mp hr
    obtain ⟨f, hf, rfl⟩ := List.mem_map.mp hx
    have m := mem_first hf
    exact g.bit (g.at_ (k := f.toNat) (by omega)) _
  · obtain ⟨col, hcol, rfl⟩ := List.mem_map.mp hs
    have := idxD_lt (mem_heads hcol)
    rw [heads_len] at this
    omega
  · obtain ⟨row, hrow, rfl⟩ := List.mem_map.mp ht
    have := idxD_lt (mem_heads hrow)
    rw [heads_len] at this
    omega
theorem headsK_nodup (c : Cl) : ∀ k : Nat, k ≤ c.length → (headsK c k).Nodup
  | 0, _ => by unfold headsK; simp
  | k + 1, h => by
    have ih := headsK_nodup c k (by omega)
    cases hf : firstK c k with
    | true =>
      rw [headsK_yes hf]
      refine List.nodup_append.mpr ⟨ih, by simp, fun x hx y hy e => ?_⟩
      rw [List.mem_singleton] at hy
      subst hy e
      rw [headsK_mem (by omega)] at hx
      unfold firstK at hf
      simp at hf
      exact hf (by simpa using hx)
    | false => rw [headsK_no hf]; exact ih
theorem nodup_le {α : Type} [DecidableEq α] : ∀ {xs ys : List α}, xs.Nodup → (∀ x ∈ xs, x ∈ ys) → xs.length ≤ ys.length
  | [], _, _, _ => Nat.zero_le _
  | x :: xs, ys, hn, h => by
    have hx := h x List.mem_cons_self
    have hn' := List.nodup_cons.mp hn
    have := nodup_le (xs := xs) (ys := ys.erase x) hn'.2 fun y hy => (List.mem_erase_of_ne (fun e => hn'.1 (by rw [← e]; exact hy))).mpr (h y (List.mem_cons_of_mem _ hy))
    rw [List.length_erase_of_mem hx] at this
    have hp := List.length_pos_of_mem hx
    simp only [List.length_cons]
    omega
theorem woven_row0 {d : Dr} (g : GoodD d) : ((woven d).getD 0 default).length = d.th.length := by
  unfold woven
  rw [getD_map _ _ _ (by have := g.tr; omega)]
  simp
theorem woven_warp {d : Dr} {w : Nat} (hw : w < d.th.length) : warpOf (woven d) w = d.tr.map fun t => (d.ti.getD (d.th.getD w default).toNat default).getD t.toNat default := by
  unfold warpOf woven
  rw [List.map_map]
  apply List.map_congr_left
  intro t _
  show (List.map _ d.th).getD w default = _
  rw [getD_map _ _ _ hw, ← getD_lt]
/-- a draft has at least as many shafts and treadles -/
theorem few_warps {d : Dr} (g : GoodD d) : (firstPlaces (columns (woven d))).length ≤ d.ti.length := by
  rw [← heads_len]
  have h := nodup_le (xs := heads (columns (woven d))) (ys := (List.range d.ti.length).map fun s => d.tr.map fun t => (d.ti.getD s default).getD t.toNat default) (headsK_nodup _ _ (Nat.le_refl _)) fun x hx => by
    obtain ⟨w, hw, rfl⟩ := List.mem_map.mp (heads_sub hx)
    have hw2 := List.mem_range.mp hw
    rw [woven_row0 g] at hw2
    have hs := g.sh (d.th.getD w default) (by rw [getD_lt hw2]; exact List.getElem_mem hw2)
    exact List.mem_map.mpr ⟨(d.th.getD w default).toNat, List.mem_range.mpr (by omega), (woven_warp hw2).symm⟩
  simpa using h
theorem few_wefts {d : Dr} (g : GoodD d) : (firstPlaces (woven d)).length ≤ (d.ti.getD 0 default).length := by
  rw [← heads_len]
  have h := nodup_le (xs := heads (woven d)) (ys := (List.range (d.ti.getD 0 default).length).map fun t => d.th.map fun s => (d.ti.getD s.toNat default).getD t default) (headsK_nodup _ _ (Nat.le_refl _)) fun x hx => by
    obtain ⟨t, ht, rfl⟩ := List.mem_map.mp (heads_sub hx)
    have := g.tl t ht
    exact List.mem_map.mpr ⟨t.toNat, List.mem_range.mpr (by omega), rfl⟩
  simpa using h
/-- first ones are unlike -/
theorem first_lt {c : Cl} {i j : Nat} (hij : i < j) (hj : j < (firstPlaces c).length) : (firstPlaces c).getD i default < (firstPlaces c).getD j default := by
  have hp : (firstPlaces c).Pairwise (· < ·) := by
    unfold firstPlaces
    rw [List.pairwise_map]
    exact (List.pairwise_lt_range.filter _).imp fun h => by omega
  rw [getD_lt (by omega), getD_lt hj]
  exact List.pairwise_iff_getElem.mp hp i j (by omega) hj hij
theorem first_ne {c : Cl} {i j : Nat} (hij : i < j) (hj : j < (firstPlaces c).length) : c.getD ((firstPlaces c).getD i default).toNat default ≠ c.getD ((firstPlaces c).getD j default).toNat default := by
  have hl := first_lt hij hj
  have mi := mem_first (c := c) (k := (firstPlaces c).getD i default) (by rw [getD_lt (by omega)]; exact List.getElem_mem _)
  have mj := mem_first (c := c) (k := (firstPlaces c).getD j default) (by rw [getD_lt hj]; exact List.getElem_mem _)
  intro e
  have h := mj.2.2
  unfold firstK at h
  have hnot : c.getD ((firstPlaces c).getD j default).toNat default ∉ c.take ((firstPlaces c).getD j default).toNat := by simpa using h
  apply hnot
  rw [← e]
  generalize (firstPlaces c).getD i default = x at *
  generalize (firstPlaces c).getD j default = y at *
  have hx : x.toNat < c.length := by omega
  have hxy : x.toNat < y.toNat := by omega
  rw [getD_lt hx, ← List.getElem_take (h := by rw [List.length_take]; exact Nat.lt_min.mpr ⟨hxy, hx⟩) (j := y.toNat)]
  exact List.getElem_mem _
theorem placeBetween_is {a b : List Int} (hl : a.length = b.length) (hn : a ≠ b) : ∃ i, placeBetween a b = some i ∧ i < a.length ∧ a.getD i default ≠ b.getD i default := by
  cases hP : placeBetween a b with
  | none =>
    exfalso
    unfold placeBetween at hP
    rw [List.find?_eq_none] at hP
    refine hn (getD_ext hl fun i hi => ?_)
    have := hP i (List.mem_range.mpr (by omega))
    simpa using this
  | some i =>
    unfold placeBetween at hP
    have h1 := List.find?_some hP
    have h2 := List.mem_of_find?_eq_some hP
    exact ⟨i, rfl, List.mem_range.mp h2, by simpa using h1⟩
end DF
namespace DF
open Enc (enc)
open PySem PySem.Spec PyProof.Rows L2 Evl RT
section
variable {K : PySem.W.Frag} {ρ : Rho} {tl : TE} {t : TS}
theorem wipeR_sub (ρ : Rho) (js : List Nat) : Sub (wipeR ρ js) ρ := ⟨wipeR_len ρ js, fun _ _ h => (wipeR_some h).1⟩
/-- a loop over range(m), each turn of which goes on and changes slots that are forgotten -/
theorem r_forAll {m : Int} {j : Nat} {js : List Nat} (ρt : Nat → Rho) (hl : VD K tl ρ (.int m)) (hm : -100000 ≤ m ∧ m ≤ 1000000)
    (hb : ∀ i : Nat, (i : Int) < m → RD K t ((wipeR ρ js).set j (some (.d (.int (i : Int))))) (.nx (ρt i)) ∧ Sub (wipeR ρ js) (ρt i)) :
    RD K (tFor (iRng1 (tCons tl tNil)) (gName j) t) ρ (.nx (wipeR ρ js)) := fun D σ H n q =>
  hl σ H n _ fun v H1 e1 r1 => by
    cases Tp.int_inv r1
    refine ⟨m, rfl, by omega, by omega, ?_⟩
    refine for_range (lo := 0) (n := m.toNat) (fun i σ' H' => Ex H H' ∧ Env K H' σ' (wipeR ρ js)) ⟨e1, (n.mono e1).sub (wipeR_sub ρ js)⟩ (fun i σ' H' hi pv => ?_) (fun σ' H' pv => q σ' H' pv.1 pv.2)
    obtain ⟨e, n'⟩ := pv
    have e0 : (0 : Int) + (i : Int) = (i : Int) := Int.zero_add _
    rw [e0]
    obtain ⟨h1, h2⟩ := hb i (by omega)
    exact h1 _ _ H' (n'.set j (z := .d (.int (i : Int))) (.int _)) fun σ2 H2 e2 n2 => ⟨e.trans e2, n2.sub h2⟩
end
end DF

namespace DF
open Enc (enc)
open PySem PySem.Spec PyProof.Rows L2 Evl RT
/-! ### drafts turned -/
def dQuarter (d : Dr) : Dr := ⟨d.tr, quarter d.ti, d.th⟩
def dOver (d : Dr) : Dr := ⟨d.th.reverse, d.ti.map fun row : List Int => row.map fun one => 1 - one, d.tr⟩
theorem dQuarter_good {d : Dr} (g : GoodD d) : GoodD (dQuarter d) := by
  have e0 : ((quarter d.ti).getD 0 default).length = d.ti.length := by
    rw [quarter_at d.ti (k := 0) (by have := g.ti.wide; omega)]; simp
  refine ⟨quarter_good g.ti, g.tr, g.th, fun s hs => ?_, fun t ht => ?_⟩
  · show 0 ≤ s ∧ s < (quarter d.ti).length
    rw [quarter_len]
    exact g.tl s hs
  · show 0 ≤ t ∧ t < ((quarter d.ti).getD 0 default).length
    rw [e0]
    exact g.sh t ht
theorem flip_row0 {c : Cl} (h : 0 < c.length) : ((c.map fun row : List Int => row.map fun one => 1 - one).getD 0 default).length = (c.getD 0 default).length := by
  rw [getD_map _ _ _ h, ← getD_lt h]; simp
theorem dOver_good {d : Dr} (g : GoodD d) : GoodD (dOver d) := by
  have hp := g.ti.pos
  have e0 := flip_row0 hp
  refine ⟨⟨by show 1 ≤ (List.map _ d.ti).length ∧ (List.map _ d.ti).length ≤ 60; rw [List.length_map]; exact g.ti.len, fun row hr => ?_, by show 1 ≤ (List.getD (d.ti.map fun row : List Int => row.map fun one => 1 - one) 0 default).length ∧ (List.getD (d.ti.map fun row : List Int => row.map fun one => 1 - one) 0 default).length ≤ 60; rw [e0]; exact g.ti.wide, fun row hr x hx => ?_⟩, by show 1 ≤ d.th.reverse.length ∧ d.th.reverse.length ≤ 60; rw [List.length_reverse]; exact g.th, g.tr, fun s hs => ?_, fun t ht => ?_⟩
  · show row.length = (List.getD (d.ti.map fun row : List Int => row.map fun one => 1 - one) 0 default).length
    rw [e0]
    obtain ⟨r, h, rfl⟩ := List.mem_map.mp hr
    rw [List.length_map]
    exact g.ti.rows r h
  · obtain ⟨r, h, rfl⟩ := List.mem_map.mp hr
    obtain ⟨y, hy, rfl⟩ := List.mem_map.mp hx
    have := g.ti.bits r h y hy
    omega
  · show 0 ≤ s ∧ s < (List.map _ d.ti).length
    rw [List.length_map]
    exact g.sh s (List.mem_reverse.mp hs)
  · show 0 ≤ t ∧ t < (List.getD (d.ti.map fun row : List Int => row.map fun one => 1 - one) 0 default).length
    rw [e0]
    exact g.tl t ht
theorem dQuarter_two {d : Dr} (g : GoodD d) : dQuarter (dQuarter d) = d := by
  unfold dQuarter
  simp only [quarter_quarter g.ti]
theorem dOver_two (d : Dr) : dOver (dOver d) = d := by
  unfold dOver
  obtain ⟨th, ti, tr⟩ := d
  simp only [List.reverse_reverse, List.map_map]
  have : ∀ row : List Int, ((fun row : List Int => row.map fun one => 1 - one) ∘ fun row : List Int => row.map fun one => 1 - one) row = row := fun row => by
    show List.map _ (List.map _ row) = row
    rw [List.map_map]
    have e : ((fun one : Int => 1 - one) ∘ fun one => 1 - one) = id := by
      funext x
      show 1 - (1 - x) = x
      omega
    rw [e, List.map_id]
  rw [List.map_congr_left fun a _ => this a]
  simp
theorem woven_quarter {d : Dr} (g : GoodD d) : woven (dQuarter d) = quarter (woven d) := by
  have w0 := woven_row0 g
  refine getD_ext (by rw [quarter_len, w0]; simp [woven, dQuarter]) fun w hw => ?_
  rw [quarter_len, w0] at hw
  rw [quarter_at _ (by rw [w0]; exact hw)]
  unfold woven
  rw [getD_map _ _ _ (show w < (dQuarter d).tr.length from hw), List.map_map]
  show List.map (fun s : Int => ((quarter d.ti).getD s.toNat default).getD ((d.th[w] : Int)).toNat default) d.tr = _
  apply List.map_congr_left
  intro t ht
  have h1 := g.tl t ht
  have h2 := g.sh d.th[w] (List.getElem_mem hw)
  rw [quarter_at _ (by omega), getD_map _ _ _ (show (d.th[w]).toNat < d.ti.length by omega), ← getD_lt]
  show _ = 1 - (List.map _ d.th).getD w default
  rw [getD_map _ _ _ hw]
theorem woven_over {d : Dr} (g : GoodD d) : woven (dOver d) = over (woven d) := by
  unfold woven over
  rw [List.map_map]
  apply List.map_congr_left
  intro t ht
  show List.map _ d.th.reverse = List.map _ (List.map _ d.th).reverse
  rw [← List.map_reverse, List.map_map]
  apply List.map_congr_left
  intro s hs
  have h1 := g.tl t ht
  have h2 := g.sh s (List.mem_reverse.mp hs)
  have h3 := g.ti.rows _ (g.ti.at_ (k := s.toNat) (by omega))
  show ((d.ti.map fun row : List Int => row.map fun one => 1 - one).getD s.toNat default).getD t.toNat default = 1 - (d.ti.getD s.toNat default).getD t.toNat default
  rw [getD_map _ _ _ (show s.toNat < d.ti.length by omega), ← getD_lt, getD_map _ _ _ (show t.toNat < (d.ti.getD s.toNat default).length by omega), ← getD_lt]
/-! ### a draft's objects that change -/
structure DSep (a b c : Addr) (F : List Addr) : Prop where
  ab : a ≠ b
  ac : a ≠ c
  bc : b ≠ c
  aF : a ∉ F
  cF : c ∉ F
theorem DAt.tne {H : Hp} {t a b c : Addr} {F : List Addr} {d : Dr} (h : DAt H t a b c F d) {x : Addr} {l : List V} (hx : H x = some (.lst l)) : t ≠ x := fun e => by
  rw [← e, h.tup] at hx
  cases hx
theorem DAt.setTh {H : Hp} {t a b c : Addr} {F : List Addr} {d : Dr} (h : DAt H t a b c F d) (s : DSep a b c F) (th : List Int) : DAt (upd H a (.lst (th.map V.int))) t a b c F ⟨th, d.ti, d.tr⟩ :=
  ⟨by rw [upd_ne (h.tne h.th)]; exact h.tup, upd_same, h.ti.off off_one (fun hm => s.ab (List.mem_singleton.mp hm).symm) fun x hx hm => s.aF (by rw [← List.mem_singleton.mp hm]; exact hx), by
    show upd H a _ c = _
    rw [upd_ne s.ac.symm]; exact h.tr⟩
theorem DAt.setTr {H : Hp} {t a b c : Addr} {F : List Addr} {d : Dr} (h : DAt H t a b c F d) (s : DSep a b c F) (tr : List Int) : DAt (upd H c (.lst (tr.map V.int))) t a b c F ⟨d.th, d.ti, tr⟩ :=
  ⟨by rw [upd_ne (h.tne h.tr)]; exact h.tup, by
    show upd H c _ a = _
    rw [upd_ne s.ac]; exact h.th, h.ti.off off_one (fun hm => s.bc (List.mem_singleton.mp hm)) fun x hx hm => s.cF (by rw [← List.mem_singleton.mp hm]; exact hx), upd_same⟩
theorem DAt.off {H H' : Hp} {t a b c : Addr} {F G : List Addr} {d : Dr} (h : DAt H t a b c F d) (o : Off G H H') (lists : ∀ x ∈ G, ∃ l, H x = some (.lst l)) (ha : a ∉ G) (hb : b ∉ G) (hc : c ∉ G) (hF : ∀ x ∈ F, x ∉ G) : DAt H' t a b c F d :=
  ⟨by rw [o t (fun hm => by obtain ⟨l, hl⟩ := lists t hm; exact h.tne hl rfl)]; exact h.tup, by rw [o a ha]; exact h.th, h.ti.off o hb hF, by rw [o c hc]; exact h.tr⟩
theorem rows_lists {H : Hp} {F : List Addr} {c : Cl} (r : RowsAt H F c) : ∀ x ∈ F, ∃ l, H x = some (.lst l) := fun x hx => by
  obtain ⟨i, hi, he⟩ := List.getElem_of_mem hx
  exact ⟨_, r.at_ i x _ (by rw [List.getElem?_eq_getElem hi, he]) (List.getElem?_eq_getElem (by rw [← r.len]; exact hi))⟩
theorem DAt.setTi {H H' : Hp} {t a b c : Addr} {F G : List Addr} {d : Dr} {ti : Cl} (h : DAt H t a b c F d) (o : Off G H H') (lists : ∀ x ∈ G, ∃ l, H x = some (.lst l)) (ha : a ∉ G) (hb : b ∉ G) (hc : c ∉ G) (r : RowsAt H' F ti) : DAt H' t a b c F ⟨d.th, ti, d.tr⟩ :=
  ⟨by rw [o t (fun hm => by obtain ⟨l, hl⟩ := lists t hm; exact h.tne hl rfl)]; exact h.tup, by rw [o a ha]; exact h.th, ⟨by rw [o b hb]; exact h.ti.lst, r, h.ti.out⟩, by rw [o c hc]; exact h.tr⟩
/-- two drafts of one's own, apart -/
theorem own2D {H0 H1 H2 H3 : Hp} {u v : V} {d e : Dr} (e0 : Ex H0 H1) (e1 : Ex H1 H2) (h1 : New H0 H1 u (enc d)) (h2 : New H1 H2 v (enc e)) :
    ∃ t a b c F t' a' b' c' F', u = .ref t ∧ v = .ref t' ∧ DAt H2 t a b c F d ∧ DAt H2 t' a' b' c' F' e ∧ DSep a b c F ∧ DSep a' b' c' F' ∧
      (∀ x, x = a ∨ x = b ∨ x = c ∨ x ∈ F → H0 x = none ∧ x ≠ a' ∧ x ≠ b' ∧ x ≠ c' ∧ x ∉ F') ∧ (∀ x, x = a' ∨ x = b' ∨ x = c' ∨ x ∈ F' → H0 x = none ∧ x ≠ a ∧ x ≠ b ∧ x ≠ c ∧ x ∉ F) := by
  obtain ⟨t, a, b, c, F, rfl, D, f1, f2, f3, f4, d1, d2, d3, d4, d5⟩ := h1.dat
  obtain ⟨t', a', b', c', F', rfl, D', f1', f2', f3', f4', d1', d2', d3', d4', d5'⟩ := h2.dat
  have s1 : ∀ x, x = a ∨ x = b ∨ x = c ∨ x ∈ F → ∃ o, H1 x = some o := fun x hx => by
    rcases hx with rfl | rfl | rfl | hx
    · exact ⟨_, D.th⟩
    · exact ⟨_, D.ti.lst⟩
    · exact ⟨_, D.tr⟩
    · exact D.ti.rows.some hx
  have n2 : ∀ x, x = a' ∨ x = b' ∨ x = c' ∨ x ∈ F' → H1 x = none := fun x hx => by
    rcases hx with rfl | rfl | rfl | hx
    · exact f1'
    · exact f2'
    · exact f3'
    · exact f4' x hx
  have n0 : ∀ x, x = a ∨ x = b ∨ x = c ∨ x ∈ F → H0 x = none := fun x hx => by
    rcases hx with rfl | rfl | rfl | hx
    · exact f1
    · exact f2
    · exact f3
    · exact f4 x hx
  have ne : ∀ x y, (x = a ∨ x = b ∨ x = c ∨ x ∈ F) → (y = a' ∨ y = b' ∨ y = c' ∨ y ∈ F') → x ≠ y := fun x y hx hy q => by
    obtain ⟨o, ho⟩ := s1 x hx
    rw [q, n2 y hy] at ho
    cases ho
  refine ⟨t, a, b, c, F, t', a', b', c', F', rfl, rfl, D.mono e1, D', ⟨d1, d2, d3, d4, d5⟩, ⟨d1', d2', d3', d4', d5'⟩, fun x hx => ⟨n0 x hx, ne x a' hx (.inl rfl), ne x b' hx (.inr (.inl rfl)), ne x c' hx (.inr (.inr (.inl rfl))), fun h => ne x x hx (.inr (.inr (.inr h))) rfl⟩, fun x hx => ⟨fresh_back e0 (n2 x hx), fun q => ne a x (.inl rfl) hx q.symm, fun q => ne b x (.inr (.inl rfl)) hx q.symm, fun q => ne c x (.inr (.inr (.inl rfl))) hx q.symm, fun h => ne x x (.inr (.inr (.inr h))) hx rfl⟩⟩
section
variable {K : PySem.W.Frag} {ρ : Rho} {te ta tb tc tl to ti : TE} {tt : TT} {z : Ent} {H H0 H' H1 : Hp} {σ : L2.St} {D : Ends} {t u : TS} {v w : V} {a p : Addr} {xs : List V} {i : Int} {g : TG} {d : PyData} {acc : List PyData}
/-- a list of one's own, told by an expression, that a loop grows -/
theorem s_growLEV {α β : Type} [Enc α] [Enc β] {ys : List α} {acc : List β} {j : Nat} (I : Hp → Prop) (f : α → β) (hto : ∀ σ' H', But j σ σ' → I H' → Val to σ' H' (.ref p)) (kE : ∀ H1 H2, I H1 → Ex H1 H2 → I H2) (kU : ∀ H1 o, I H1 → I (upd H1 p o))
    (hl : VS K tl ρ (enc ys)) (hz : acc.length + ys.length ≤ 20000) (hI : I H) (g : Grown H0 H p (acc.map enc)) (n : Env K H0 σ ρ)
    (he : ∀ x ∈ ys, VN K te ((ρ.set j none).set j (some (.d (enc x)))) (enc (f x)))
    (done : ∀ σ' H', But j σ σ' → I H' → Grown H0 H' p ((acc ++ ys.map f).map enc) → D.nx σ' H') : tFor (iList K tl) (gName j) (tDrop (tBM K "list" rAppend to (tCons te tNil))) D σ H :=
  hl σ H0 H n g.ex _ fun v H1 e1 r1 => by
    obtain ⟨a, xs, rfl, ea, t'⟩ := Tp.lst_inv r1
    have g1 := g.mono e1
    refine ⟨a, rfl, ⟨xs, SqL.of (g1.ex _ _ ea)⟩, ?_⟩
    refine for_list (xs := xs) (fun k σ' H' => But j σ σ' ∧ I H' ∧ Grown H0 H' p ((acc ++ (ys.take k).map f).map enc)) ⟨But.refl j σ, kE _ _ hI e1, by simpa using g1⟩ (fun k σ' H' _ pv => SqL.of (pv.2.2.ex _ _ ea)) (fun k x σ' H' hx pv => ?_) (fun σ' H' pv => ?_)
    · obtain ⟨bt, hI', g'⟩ := pv
      obtain ⟨d, hd, td⟩ := t'.getV hx
      rw [List.getElem?_map] at hd
      cases hyk : ys[k]? with
      | none => rw [hyk] at hd; cases hd
      | some y =>
        rw [hyk] at hd
        cases hd
        have hm : y ∈ ys := List.mem_of_getElem? hyk
        have n' := (bt.env n).of g'
        obtain ⟨h0, e0, vs, F, hv, o, nD, fr⟩ := id g'
        refine hto _ H' (bt.set _) hI' _ ⟨.inl ⟨rfl, vs, SqL.of hv⟩, ?_⟩
        refine he y hm _ H' (n'.set j (z := .d (enc y)) (td.mono g'.ex)) _ fun w H2 e2 nw => ?_
        obtain ⟨vs', hv', hl', g2⟩ := g'.push e2 nw
        refine ⟨p, vs', w, rfl, rfl, hv', sz_lt (by rw [hl', List.length_map, List.length_append, List.length_map, List.length_take]; have := (List.getElem?_eq_some_iff.mp hyk).1; omega), bt.set _, kU _ _ (kE _ _ hI' e2), ?_⟩
        rw [List.take_add_one, hyk]
        simpa using g2
    · obtain ⟨bt, hI', g'⟩ := pv
      rw [t'.len, List.length_map, List.take_length] at g'
      exact done σ' H' bt hI' g'
/-- x = (a, [], c) -/
theorem q_setTupE {k : Nat} {a c : PyData} (h1 : VD K ta ρ a) (h3 : VD K tc ρ c) (n : Env K H σ ρ)
    (q : ∀ (x y : V) (p t : Addr) (H1 H' : Hp), Ex H H1 → Tp H1 x a → H1 p = none → Grown H1 H' p [] → t ≠ p → H' t = some (.tup [x, .ref p, y]) → Tp H' y c → Env K H1 σ ρ → u D (σ.set k (some (.ref t))) H') : tSeq (tAsg (tTup (tCons ta (tCons (tLst tNil) (tCons tc tNil)))) (gName k)) u D σ H :=
  h1 σ H n _ fun x H1 e1 r1 => ⟨Nat.zero_le _, fun p hp => h3 σ _ (n.mono (e1.trans (Ex.new hp))) _ fun y H2 e2 r3 => ⟨(show 3 ≤ sizeLine by decide), fun t ht => by
    have gr := grown_start hp (Ex.new (o := .lst []) hp) upd_same
    have hp2 := e2 _ _ (upd_same (H := H1) (a := p) (o := .lst []))
    refine q x y p t H1 _ e1 r1 hp ((gr.mono e2).mono (Ex.new ht)) (fun e => ?_) upd_same (r3.mono (Ex.new ht)) (n.mono e1)
    rw [← e, ht] at hp2
    cases hp2⟩⟩
end
end DF
namespace DF
open Enc (enc)
open PySem PySem.Spec PyProof.Rows L2 Evl RT
section
variable {K : PySem.W.Frag} {ρ : Rho} {te : TE} {z : Ent} {H : Hp} {σ : L2.St} {D : Ends}
theorem s_setV {i : Nat} (h : VE K te ρ z) (n : Env K H σ ρ) (k : ∀ v H', Ex H H' → Rep K H' v z → Env K H' (σ.set i (some v)) (ρ.set i (some z)) → D.nx (σ.set i (some v)) H') : tAsg te (gName i) D σ H :=
  h σ H n _ fun v H' e w => k v H' e w ((n.mono e).set i w)
end
end DF

namespace DF
open Enc (enc)
open PySem PySem.Spec PyProof.Rows L2 Evl RT
section
variable {K : PySem.W.Frag} {ρ : Rho} {te ta tb tc tl to ti : TE} {tt : TT} {z : Ent} {H H0 H' H1 : Hp} {σ : L2.St} {D : Ends} {t u : TS} {v w : V} {a p : Addr} {xs : List V} {i : Int} {g : TG} {d : PyData} {acc : List PyData}
theorem q_growLEV {α β : Type} [Enc α] [Enc β] {ys : List α} {acc : List β} {j : Nat} (I : Hp → Prop) (f : α → β) (hto : ∀ σ' H', But j σ σ' → I H' → Val to σ' H' (.ref p)) (kE : ∀ H1 H2, I H1 → Ex H1 H2 → I H2) (kU : ∀ H1 o, I H1 → I (upd H1 p o))
    (hl : VS K tl ρ (enc ys)) (hz : acc.length + ys.length ≤ 20000) (hI : I H) (g : Grown H0 H p (acc.map enc)) (n : Env K H0 σ ρ)
    (he : ∀ x ∈ ys, VN K te ((ρ.set j none).set j (some (.d (enc x)))) (enc (f x)))
    (done : ∀ σ' H', But j σ σ' → I H' → Grown H0 H' p ((acc ++ ys.map f).map enc) → u D σ' H') : tSeq (tFor (iList K tl) (gName j) (tDrop (tBM K "list" rAppend to (tCons te tNil)))) u D σ H :=
  s_growLEV (D := { D with nx := u D }) I f hto kE kU hl hz hI g n he done
/-- x = (a, [], c), c a value that stands already -/
theorem q_setTupS {k : Nat} {a c : PyData} (h1 : VD K ta ρ a) (h3 : VS K tc ρ c) (n : Env K H σ ρ)
    (q : ∀ (x y : V) (p t : Addr) (H1 H' : Hp), Ex H H1 → Tp H1 x a → H1 p = none → Grown H1 H' p [] → t ≠ p → H' t = some (.tup [x, .ref p, y]) → Tp H1 y c → Env K H1 σ ρ → u D (σ.set k (some (.ref t))) H') : tSeq (tAsg (tTup (tCons ta (tCons (tLst tNil) (tCons tc tNil)))) (gName k)) u D σ H :=
  h1 σ H n _ fun x H1 e1 r1 => ⟨Nat.zero_le _, fun p hp => h3 σ H1 _ (n.mono e1) (Ex.new hp) _ fun y H2 e2 r3 => ⟨(show 3 ≤ sizeLine by decide), fun t ht => by
    have gr := grown_start hp (Ex.new (o := .lst []) hp) upd_same
    have hp2 := e2 _ _ (upd_same (H := H1) (a := p) (o := .lst []))
    refine q x y p t H1 _ e1 r1 hp ((gr.mono e2).mono (Ex.new ht)) (fun e => ?_) upd_same r3 (n.mono e1)
    rw [← e, ht] at hp2
    cases hp2⟩⟩
end
theorem mod_both {a b : Int} (ha : 0 < a) (hb : 0 < b) : 0 < (if a < b then a else b) ∧ (if a < b then a else b) ≤ a ∧ (if a < b then a else b) ≤ b := by
  split <;> omega
end DF

namespace HotL
open PySem PySem.Spec PyProof.Rows HotX
section
variable {prog : Program} {w : World} {A : Around} {E : Value → Shared → Prop} {s : Shared}
theorem pyNext_list_end_hot {it l x1 : Addr} {i : Nat} {items} {Q : Option Value → Shared → Prop} (hot : HotAt A x1 s.heap) (hne : x1 ≠ it)
    (hit : s.heap.IsListIter it l i) (hl : s.heap.IsList l items) (hx : items[i]? = none)
    (hQ : ∀ h', Heap.ExtBut it s.heap h' → Q none { s with heap := h' }) : wpAny (model prog w) A (pyNext (.ref it)) Q E s := by
  obtain ⟨o, ho, hc, hd⟩ := id hit
  obtain ⟨ol, hol, _, nl, hdl⟩ := hl
  obtain ⟨hh, o1, vs1, h1, d1, c1⟩ := hot
  unfold pyNext
  refine wpAny_bind (wpAny_attempt (wpAny_callSpecial?_slot (name := Str.ofString "__next__") hit.typeIs slot_listiter_next
    (wpAny_call_entry slot_listiter_next hit.typeIs entry_listiter_next ?_ (args_listiter_next _))))
  show wpAny _ _ (field (.ref it) 0 >>= _) _ _ s
  refine wpAny_bind (wpAny_field ho hd (x := .ref l) rfl ?_)
  show wpAny _ _ (if (Value.ref l == Value.none) = true then _ else _) _ _ s
  rw [if_neg (show ¬ ((Value.ref l == Value.none) = true) from Bool.false_ne_true)]
  show wpAny _ _ (field (.ref it) 1 >>= _) _ _ s
  refine wpAny_bind (wpAny_field ho hd (x := .int i 0) rfl ?_)
  show wpAny _ _ (seqItems? (.ref l) >>= _) _ _ s
  refine wpAny_bind (wpAny_seqItems hol hdl ?_)
  simp only [Int.toNat_natCast, hx]
  refine wpAny_bind (wpAny_rule (wpAny_bind (wpAny_setField ho hd (by simp) ?_)))
  show wpAny _ _ (newExc (.type "StopIteration") [] >>= _) _ _ _
  refine wpAny_bind ?_
  simp only [newExc, newTuple]
  refine wpAny_bind (wpAny_newObj_type ?_ (by size_fits))
  refine wpAny_bind (m := firstArgMember _ _) (wpAny_of_eq (a := Value.none) (by first | rfl | (simp only [firstArgMember]; rfl)) ?_)
  refine wpAny_newObj_type ?_ (by size_fits)
  have h1' := (Heap.get?_update_other s.heap (Obj.mapFields (·.setIfInBounds 0 Value.none)) (Ne.symm hne)).trans h1
  refine raiseNew_hot ⟨hh, o1, vs1, Heap.get?_push_of_some _ (Heap.get?_push_of_some _ h1'), d1, c1⟩ (Nat.ne_of_lt (Heap.lt_size (Heap.get?_push_of_some _ h1'))) (Heap.get?_push_size _ rfl) rfl (by first | (simp; done) | (simp; omega) | (simp only [Array.size_append]; simp; omega)) ?_
  refine wpAny_bind (wpAny_isInstance (T := "StopIteration") (b := true) ⟨_, Heap.get?_update_self _ (Heap.get?_push_size _ rfl) rfl, rfl⟩ isSubtype_stop ?_)
  refine wpAny_pure (hQ _ fun b o hb e => ?_)
  have e' := (((Heap.SameBut.update ..).extBut (a := it) (h := s.heap)) : Heap.ExtBut it s.heap (s.heap.update it (Obj.mapFields (·.setIfInBounds 0 Value.none)))) b o hb e
  rw [Heap.get?_update_other _ _ (Nat.ne_of_gt (Heap.lt_size (Heap.get?_push_of_some _ e')))]
  exact Heap.get?_push_of_some _ (Heap.get?_push_of_some _ e')
theorem walks_listH {x1 I ax : Addr} (hh : A.handled = some (.ref x1)) (hne : ax ≠ I) (hx1 : x1 ≠ I) (items : Array Value) :
    Walks prog w A I [I, ax, x1] [I] items.size (fun i v => items[i]? = some v) (fun i h => h.IsListIter I ax i ∧ h.IsList ax items ∧ HotAt A x1 h) where
  sub := fun b hb => by simp at hb; simp [hb]
  frame := fun _ _ _ st hk => ⟨st.1.at fun o e => hk I (by simp) o e, st.2.1.at fun o e => hk ax (by simp) o e, by
    obtain ⟨h0, o, vs, h1, d1, c1⟩ := st.2.2
    exact ⟨h0, o, vs, hk x1 (by simp) _ h1, d1, c1⟩⟩
  item := fun i s Q E hi st hQ => by
    refine wpAny_pyNext_list_item st.1 st.2.1 (x := items[i]) (by simp [hi]) fun h' hit' hs' => ?_
    refine hQ _ h' s.toks (by simp [hi]) ⟨hit', st.2.1.extBut hs'.extBut hne, ?_⟩ fun b o hb e => hs'.extBut b o (fun h => hb (by simp [h])) e
    obtain ⟨h0, o, vs, h1, d1, c1⟩ := st.2.2
    exact ⟨h0, o, vs, hs'.extBut _ _ hx1 h1, d1, c1⟩
  done := fun s Q E st hQ => pyNext_list_end_hot st.2.2 hx1 st.1 st.2.1 (by simp) fun h' he' => hQ h' s.toks fun b o hb e => he' b o (fun h => hb (by simp [h])) e
  self := fun _ _ _ _ st hQ => wpAny_pyIter_listiter st.1 hQ
end
open L2
theorem cr_anyH {X : Cx} {K : PySem.W.Frag} (hc : L2H.HotC X) (h : X.K = K := by rfl) : CallR X (.builtin "any") (rAny K) := by
  subst h
  intro pins s σ H vs us Q I r h
  obtain ⟨a, bs, rfl, hs, q⟩ := h
  obtain ⟨its, rv, hl, _⟩ := I.list hs
  rw [Vals.ref1 r]
  have hb := rv.bls
  obtain ⟨x1, hh, o1, vs1, h1, d1, c1⟩ := hc.at I
  refine call_any_walk (iter_any hl.isList fun s₂ e2 st hne => ?_)
  subst e2
  refine ⟨_, _, _, _, _, _, _, rfl, walks_listH (A := X.A.in1) (x1 := x1) hh hne (Nat.ne_of_lt (Heap.lt_size h1)) its.toArray, ⟨st.1, st.2, hh, o1, vs1, Heap.get?_push_of_some _ h1, d1, c1⟩, truth_bools hb, fun h' tk hk => ?_⟩
  refine ⟨.bl _, H, I.kept fun b o eo => hk b o (fun hmem => ?_) (Heap.get?_push_of_some _ eo), ?_, q⟩
  · rcases List.mem_cons.mp hmem with e1 | hmem
    · exact absurd (e1 ▸ Heap.lt_size eo) (Nat.lt_irrefl _)
    · cases hmem
  · show Value.bool _ = Value.bool _
    rw [← L2.any_range, hb, List.size_toArray, List.length_map]
end HotL
namespace DF
open Enc (enc)
open PySem PySem.Spec PyProof.Rows L2 Evl RT
/-! ### own errors -/
/-- the error's class at C, named x, the others beside it, over one base class at L -/
structure FitX (K : PySem.W.Frag) (mg : Str → Option Value) (x x1 x2 x3 : Str) (L C a1 a2 a3 : Addr) : Prop where
  gL : mg "LoomError" = some (.ref L)
  g : mg x = some (.ref C)
  g1 : mg x1 = some (.ref a1)
  g2 : mg x2 = some (.ref a2)
  g3 : mg x3 = some (.ref a3)
  gV : mg "ValueError" = none
  ex : PySem.W.excIn K C [.type "ValueError", .type "Exception", .type "BaseException", .type "object"] "ValueError.__new__" = true
  kp : PySem.W.keepIn K (.ref C) = true
  sb : PySem.W.subIn K (.ref C) (.type "BaseException") = some true
  ty : PySem.W.typeIn K (.ref C) = some (.type "type")
  lb : PySem.W.subIn K (.ref L) (.type "BaseException") = some true
  ld : PySem.W.hasDictIn K L = true
  lt : PySem.W.typeIn K (.ref L) = some (.type "type")
  up : PySem.W.subIn K (.ref C) (.ref L) = some true
  i0 : PySem.W.kitOne K (.ref C) (.ref C) = some true
  i1 : PySem.W.kitOne K (.ref C) (.ref a1) = some false
  i2 : PySem.W.kitOne K (.ref C) (.ref a2) = some false
  i3 : PySem.W.kitOne K (.ref C) (.ref a3) = some false
  iV : PySem.W.kitOne K (.ref C) (.type "ValueError") = some true
  ec : ExcC K C
theorem FitX.caught {K : PySem.W.Frag} {mg : Str → Option Value} {x x1 x2 x3 : Str} {L C a1 a2 a3 : Addr} (e : FitX K mg x x1 x2 x3 L C a1 a2 a3) : PySem.W.exmOne K (.ref C) (.ref L) = some true := PySem.W.exm_ref e.lb e.ld e.lt e.up
/-- a def that tells data of its own, or raises an error of the class at C -/
def spX (K : PySem.W.Frag) (R : List Ent → PyData → Prop) (S : List Ent → Addr → Prop) : Sp := fun vs H Q E =>
  ∃ zs, RepAll K H vs zs ∧ ((∃ r, R zs r ∧ ∀ v H', Ex H H' → New H H' v r → Q v H') ∨ ∃ C, S zs C ∧ ∀ H', Ex H H' → E (.ref C) none H')
section
variable {P : Program} {w : World} {K : PySem.W.Frag} {mg : Str → Option Value} {base : Heap}
theorem okXN {x qual : Str} {st : Stmt} {f : Addr} {fd : FuncData} {N ps : List Str} {k : Nat} {sp : Sp} (F : Fun K x qual st f fd) (S : FnScope N ps (defScope st)) (len : ∀ vs H Q E, sp vs H Q E → vs.length = ps.length)
    (hbody : ∀ (cdv : Value) (A : Around) (outer : List PySem.Env) (s : Shared) (H : Hp) (vs : List V) (Q : VK) (E : XK), Room k (A.deeper (envOfC qual (defScope st) s.heap.objs.size f cdv)) → sp vs H Q E →
      ∃ t, PSs (cxOf (L2N.CX P w) P w K mg base N qual (defScope st) f cdv A outer s H E) (defBody st) t ∧ t { nx := fun _ H' => Q .non H', rt := Q } (start N vs) H) : FnOk P w K mg base (L2N.CX P w) (k + 1) f fd ps sp := by
  obtain ⟨oc, od, kV, doc, pm, an, cdv, ct, osl, rfl, lk, hcd⟩ := F.ex
  exact fn_of lk hcd S len fun A outer s H vs Q E hr hsp => hbody cdv A outer s H vs Q E hr hsp
theorem takes0N {X : Cx} : L2N.Takes X (fun _ _ _ _ => False) := fun _ _ x => by
  obtain ⟨_, _, _, _, _, _, _, _, _, _, _, _, _, _, _, _, z⟩ := x
  exact z.elim
theorem hot_of {X : Cx} {a : Addr} {oe : Obj} {cls : Value} {d : Option Addr} {pn : List (Addr × Obj)} (hz : L2N.Zn cls d oe) (hf : ∃ vs, oe.data = .fields vs) : L2H.HotC (X.suite a ((a, oe) :: pn)) := by
  obtain ⟨vs, hv⟩ := hf
  exact ⟨(a, oe), ⟨rfl, vs, hv, hz.2.2 vs hv⟩, List.mem_cons_self⟩
theorem cal_spX {x : Str} {st : Stmt} {N ps : List Str} {k : Nat} {sp : Sp} (D : Dfn K mg x st ps) (S : FnScope N ps (defScope st)) (len : ∀ vs H Q E, sp vs H Q E → vs.length = ps.length)
    (hbody : ∀ (f : Addr) (cdv : Value) (A : Around) (outer : List PySem.Env) (s : Shared) (H : Hp) (vs : List V) (Q : VK) (E : XK), Room k (A.deeper (envOfC x (defScope st) s.heap.objs.size f cdv)) → sp vs H Q E →
      ∃ t, PSs (cxOf (L2N.CX P w) P w K mg base N x (defScope st) f cdv A outer s H E) (defBody st) t ∧ t { nx := fun _ H' => Q .non H', rt := Q } (start N vs) H) : Cal P w K mg base (L2N.CX P w) (k + 1) x ps sp := by
  obtain ⟨f, fd, hm, F, b⟩ := D
  exact ⟨f, fd, hm, okXN F S len (hbody f), F.kp, b⟩
theorem pe_calX {X : Cx} (P : Program) (w : World) (mg : Str → Option Value) (base : Heap) {W : WX} {k : Nat} {x : Str} {ps : List Str} {sp : Sp} {p pos : Pos} {e : Expr} {es : List Expr} {t : TA} (C : Cal P w K mg base (L2N.CX P w) k x ps sp) (hr : Room k X.A) (tk : L2N.Takes X W) (hg : Gl X x) (ha : PA X (e :: es) t)
    (h1 : X.prog = P := by rfl) (h2 : X.w = w := by rfl) (h3 : X.K = K := by rfl) (h4 : X.mg = mg := by rfl) (h5 : X.base = base := by rfl)
    (hdb : (x == ("__debug__" : Str)) = false := by decide) (he : starEach (e :: es) X.env = (false, eval e X.env) :: starEach es X.env := by rfl) (hpl : (backTo pos (starEach es X.env)).any (·.1) = false := by rfl) :
    PE X (.Call (.Name x p) (e :: es) [] pos) (tCallS sp (WE W) t) := by
  subst h1 h2 h3 h4 h5
  obtain ⟨f, fd, hm, F, kp, b⟩ := C
  exact pe_callS F hr hg hm kp b (fun σ => L2N.passAt tk σ) ha hdb he hpl
/-- isinstance(e, X), e the error that the suite holds -/
def rIsX (K : PySem.W.Frag) (a : Addr) (cls : Value) (d : Option Addr) : List V → Hp → VK → Prop := fun xs H Q => ∃ D, cls = .ref D ∧ d = none ∧ ExcC K D ∧ rIsE K D a xs H Q
theorem call_isX {X : Cx} {a : Addr} {oe : Obj} {cls : Value} {d : Option Addr} {pn : List (Addr × Obj)} (hz : L2N.Zn cls d oe) (hf : ∃ vs, oe.data = .fields vs) (h : X.K = K := by rfl) : CallR (X.suite a ((a, oe) :: pn)) (.builtin "isinstance") (rIsX K a cls d) := by
  subst h
  intro pins s σ H xs us Q I r hh
  obtain ⟨D, rfl, rfl, C, q⟩ := hh
  exact call_isE C hz.zc hf pins s σ H xs us Q I r q
end
section
variable {K : PySem.W.Frag} {ρ : Rho} {te ta tb tc tl to ti : TE} {tt : TT} {z : Ent} {H H0 H' H1 : Hp} {σ : L2.St} {D : Ends} {t u : TS} {v w : V} {a p : Addr} {xs : List V} {i : Int} {g : TG} {d : PyData} {acc : List PyData} {b : Bool}
theorem New.lst1 {H2 : Hp} (w : New H H2 v d) (hp : H2 p = none) (e : Ex H H2) : New H (upd H2 p (.lst [v])) (.ref p) (.list [d]) := by
  obtain ⟨F, o, f⟩ := w
  have o1 := OwnAll.cons (o.mono (Ex.new (o := .lst [v]) hp)) .nil fun a _ z => nomatch z
  rw [List.append_nil] at o1
  refine ⟨p :: F, .lst upd_same o1 fun z => ?_, fun a ha => ?_⟩
  · obtain ⟨xs, hx⟩ := o.at_ p z
    rw [hp] at hx
    cases hx
  · rcases List.mem_cons.mp ha with rfl | ha
    · exact fresh_back e hp
    · exact f a ha
theorem v_isX {a C c : Addr} (hv : VE K ta ρ (.is (.ref a))) (ec : ExcC K C) (e : PySem.W.kitOne K (.ref C) (.ref c) = some b) : VD K (tCB (rIsX K a (.ref C) none) (tCons ta (tCons (tC (.ref c)) tNil))) ρ (.bool b) := fun σ H m Q q =>
  hv σ H m _ fun v H1 e1 r => by
    cases r
    exact ⟨C, rfl, rfl, ec, .ref c, .ref c, b, rfl, fun u h => h, e, q _ H1 e1 (.bl _)⟩
theorem v_isXT {a C : Addr} {T : String} (hv : VE K ta ρ (.is (.ref a))) (ec : ExcC K C) (e : PySem.W.kitOne K (.ref C) (.type T) = some b) : VD K (tCB (rIsX K a (.ref C) none) (tCons ta (tCons (tC (.ty T)) tNil))) ρ (.bool b) := fun σ H m Q q =>
  hv σ H m _ fun v H1 e1 r => by
    cases r
    exact ⟨C, rfl, rfl, ec, .ty T, .type T, b, rfl, fun u h => h, e, q _ H1 e1 (.bl _)⟩
/-- a call that may raise, told for its own sake -/
theorem q_callX {R : List Ent → PyData → Prop} {S : List Ent → Addr → Prop} {E : L2.St → XK} {ta : TA} {zs : List Ent} (ha : AE K ta ρ zs) (n : Env K H σ ρ) (h : (∃ d, R zs d ∧ ∀ H', Ex H H' → u D σ H') ∨ ∃ C, S zs C ∧ ∀ H', Ex H H' → E σ (.ref C) none H') :
    tSeq (tDrop (tCallS (spX K R S) E ta)) u D σ H := ha σ H n _ fun vs H1 e1 r1 => ⟨zs, r1, h.elim (fun ⟨d, hR, k⟩ => .inl ⟨d, hR, fun v H' e2 _ => k H' (e1.trans e2)⟩) fun ⟨C, hS, k⟩ => .inr ⟨C, hS, fun H' e2 => k H' (e1.trans e2)⟩⟩
/-- return [f(..)], f may raise -/
theorem s_retX {R : List Ent → PyData → Prop} {S : List Ent → Addr → Prop} {E : L2.St → XK} {ta : TA} {zs : List Ent} (ha : AE K ta ρ zs) (n : Env K H σ ρ) (h : (∃ d, R zs d ∧ ∀ v H', Ex H H' → New H H' v d → D.rt v H') ∨ ∃ C, S zs C ∧ ∀ H', Ex H H' → E σ (.ref C) none H') :
    tRet (tCallS (spX K R S) E ta) D σ H := ha σ H n _ fun vs H1 e1 r1 => ⟨zs, r1, h.elim (fun ⟨d, hR, k⟩ => .inl ⟨d, hR, fun v H' e2 w => k v H' (e1.trans e2) (w.back e1)⟩) fun ⟨C, hS, k⟩ => .inr ⟨C, hS, fun H' e2 => k H' (e1.trans e2)⟩⟩
theorem s_retLX {R : List Ent → PyData → Prop} {S : List Ent → Addr → Prop} {E : L2.St → XK} {ta : TA} {zs : List Ent} (ha : AE K ta ρ zs) (n : Env K H σ ρ) (h : (∃ d, R zs d ∧ ∀ v H', Ex H H' → New H H' v (.list [d]) → D.rt v H') ∨ ∃ C, S zs C ∧ ∀ H', Ex H H' → E σ (.ref C) none H') :
    tRet (tLst (tCons (tCallS (spX K R S) E ta) tNil)) D σ H := ha σ H n _ fun vs H1 e1 r1 => ⟨zs, r1, h.elim (fun ⟨d, hR, k⟩ => .inl ⟨d, hR, fun v H2 e2 w => ⟨sz_of (by simp), fun p hp => by
    exact k (.ref p) _ (e1.trans (e2.trans (Ex.new hp))) ((w.lst1 hp e2).back e1)⟩⟩) fun ⟨C, hS, k⟩ => .inr ⟨C, hS, fun H' e2 => k H' (e1.trans e2)⟩⟩
end
end DF

namespace DF
open Enc (enc)
open PySem PySem.Spec PyProof.Rows L2 Evl RT
/-! ### cloths sewn -/
theorem enc_inj {α : Type} [Enc α] {a b : α} (h : enc a = enc b) : a = b := (Enc.eqv_enc a b).mp (by rw [h]; exact (Enc.eqv_enc b b).mpr rfl)
theorem two_inj {α β : Type} [Enc α] [Enc β] {a a' : α} {b b' : β} {zs : List Ent} (h : (Ent.d (enc a) :: Ent.d (enc b) :: zs) = (Ent.d (enc a') :: Ent.d (enc b') :: zs)) : a = a' ∧ b = b' := by
  injection h with h1 h2
  injection h2 with h2 _
  injection h1 with h1
  injection h2 with h2
  exact ⟨enc_inj h1, enc_inj h2⟩
def beside (a b : Cl) : Cl := (List.range a.length).map fun k => a.getD k default ++ b.getD k default
def fitted (c : Cl) (m n : Nat) : Cl := (List.range m).map fun k => (List.range n).map fun j => (c.getD (k % c.length) default).getD (j % (c.getD (k % c.length) default).length) default
def rep {α : Type} (xs : List α) (k : Nat) : List α := (List.replicate k xs).flatten
def repeated (c : Cl) (d a : Nat) : Cl := (rep c d).map fun row => rep row a
theorem rep_len {α : Type} (xs : List α) : ∀ k : Nat, (rep xs k).length = xs.length * k
  | 0 => by simp [rep]
  | k + 1 => by
    have := rep_len xs k
    unfold rep at this ⊢
    rw [List.replicate_succ, List.flatten_cons, List.length_append, this, Nat.mul_succ]
    omega
theorem rep_at {α : Type} [Inhabited α] (xs : List α) : ∀ (k i : Nat), i < xs.length * k → (rep xs k).getD i default = xs.getD (i % xs.length) default
  | 0, i, h => by simp at h
  | k + 1, i, h => by
    have ih := rep_at xs k (i - xs.length)
    unfold rep at ih ⊢
    rw [List.replicate_succ, List.flatten_cons]
    by_cases hi : i < xs.length
    · rw [Nat.mod_eq_of_lt hi, List.getD_eq_getElem?_getD, List.getElem?_append_left hi, List.getD_eq_getElem?_getD]
    · rw [List.getD_eq_getElem?_getD, List.getElem?_append_right (by omega), ← List.getD_eq_getElem?_getD, ih (by have e := Nat.mul_succ xs.length k; rw [e] at h; omega), ← Nat.mod_eq_sub_mod (show i ≥ xs.length by omega)]
theorem repeated_fitted {c : Cl} (g : Good c) (d a : Nat) : repeated c d a = fitted c (c.length * d) ((c.getD 0 default).length * a) := by
  have h0 := g.pos
  refine getD_ext (by unfold repeated fitted; rw [List.length_map, rep_len, List.length_map, List.length_range]) fun k hk => ?_
  have hk' : k < c.length * d := by simpa [fitted] using hk
  unfold repeated fitted
  rw [getD_map _ _ _ (by rw [rep_len]; exact hk'), getD_map _ _ _ (by simpa using hk'), List.getElem_range, ← getD_lt (by rw [rep_len]; exact hk'), rep_at _ _ _ hk']
  have hm : k % c.length < c.length := Nat.mod_lt _ h0
  have hr : (c.getD (k % c.length) default).length = (c.getD 0 default).length := g.rows _ (g.at_ (k := k % c.length) hm)
  refine getD_ext (by rw [rep_len, List.length_map, List.length_range, hr]) fun j hj => ?_
  have hj' : j < (c.getD 0 default).length * a := by simpa using hj
  rw [rep_at _ _ _ (by rw [hr]; exact hj'), getD_map _ _ _ (by simpa using hj'), List.getElem_range]
def besideFits (a b : Cl) : Bool := decide ((a.length : Int) = (b.length : Int)) && decide (((a.getD 0 default).length : Int) + ((b.getD 0 default).length : Int) ≤ 60)
def behindFits (a b : Cl) : Bool := decide (((a.getD 0 default).length : Int) = ((b.getD 0 default).length : Int)) && decide ((a.length : Int) + (b.length : Int) ≤ 60)
def repFits (a : Cl) (d k : Int) : Bool := decide ((a.length : Int) * d ≤ 60) && decide (((a.getD 0 default).length : Int) * k ≤ 60)
def dueC (which : Int) (a b : Cl) (d k : Int) : Option Cl :=
  if which = 0 then (if besideFits a b = true then some (beside a b) else none)
  else if which = 1 then (if behindFits a b = true then some (a ++ b) else none)
  else if repFits a d k = true then some (fitted a ((a.length : Int) * d).toNat (((a.getD 0 default).length : Int) * k).toNat) else none
def encOC : Option Cl → PyData
  | none => .none
  | some c => enc c
def encTold : Option Cl → PyData
  | none => .list [.bool true, .str "refused"]
  | some c => .list [enc c]
def Small (c : Cl) : Prop := c.length ≤ 60 ∧ ∀ row ∈ c, row.length ≤ 60
theorem dueC_small {which : Int} {a b : Cl} {d k : Int} (ga : Good a) (gb : Good b) (hd : 1 ≤ d) (hk : 1 ≤ k) {c : Cl} (h : dueC which a b d k = some c) : Small c := by
  unfold dueC at h
  split at h
  · split at h
    · rename_i q
      cases h
      unfold besideFits at q
      simp only [Bool.and_eq_true, decide_eq_true_eq] at q
      refine ⟨by unfold beside; rw [List.length_map, List.length_range]; exact ga.len.2, fun row hr => ?_⟩
      obtain ⟨i, hi, rfl⟩ := List.mem_map.mp hr
      have hi' : i < a.length := by simpa using hi
      have r1 := ga.rows _ (ga.at_ (k := i) hi')
      have r2 := gb.rows _ (gb.at_ (k := i) (by omega))
      rw [List.length_append, r1, r2]
      omega
    · cases h
  · split at h
    · split at h
      · rename_i q
        cases h
        unfold behindFits at q
        simp only [Bool.and_eq_true, decide_eq_true_eq] at q
        refine ⟨by rw [List.length_append]; omega, fun row hr => ?_⟩
        rcases List.mem_append.mp hr with h | h
        · exact (ga.row h).2
        · exact (gb.row h).2
      · cases h
    · split at h
      · rename_i q
        cases h
        unfold repFits at q
        simp only [Bool.and_eq_true, decide_eq_true_eq] at q
        refine ⟨by unfold fitted; rw [List.length_map, List.length_range]; omega, fun row hr => ?_⟩
        obtain ⟨i, hi, rfl⟩ := List.mem_map.mp hr
        rw [List.length_map, List.length_range]
        omega
      · cases h
theorem fitted_good {c : Cl} (g : Good c) {m n : Nat} (hm : 1 ≤ m ∧ m ≤ 60) (hn : 1 ≤ n ∧ n ≤ 60) : Good (fitted c m n) := by
  have h0 := g.pos
  have e0 : ((fitted c m n).getD 0 default).length = n := by
    unfold fitted
    rw [getD_map _ _ _ (by simp; omega)]
    simp
  refine ⟨by unfold fitted; simp; omega, fun row hr => ?_, by rw [e0]; exact hn, fun row hr x hx => ?_⟩
  · rw [e0]
    obtain ⟨i, hi, rfl⟩ := List.mem_map.mp hr
    simp
  · obtain ⟨i, hi, rfl⟩ := List.mem_map.mp hr
    obtain ⟨j, hj, rfl⟩ := List.mem_map.mp hx
    have hm : i % c.length < c.length := Nat.mod_lt _ h0
    have hr := g.at_ (k := i % c.length) hm
    have hl := (g.row hr).1
    have hj : j % (c.getD (i % c.length) default).length < (c.getD (i % c.length) default).length := Nat.mod_lt _ (by omega)
    exact g.bits _ hr _ (by rw [getD_lt hj]; exact List.getElem_mem hj)
section
variable {K : PySem.W.Frag} {ρ ρ' : Rho} {te ta tb tc tl to ti : TE} {tt : TT} {z : Ent} {H H0 H' H1 : Hp} {σ : L2.St} {D : Ends} {t u : TS} {v w : V} {a p : Addr} {xs : List V} {i : Int} {g : TG} {d : PyData} {acc : List PyData} {b : Bool}
theorem q_callV (h : VE K te ρ z) (n : Env K H σ ρ) (k : ∀ H', Ex H H' → u D σ H') : tSeq (tDrop te) u D σ H := h σ H n _ fun v H' e w => k H' e
theorem q_callN (h : VN K te ρ d) (n : Env K H σ ρ) (k : ∀ H', Ex H H' → u D σ H') : tSeq (tDrop te) u D σ H := q_callV h.toD n k
theorem s_retN (h : VN K te ρ d) (n : Env K H σ ρ) (k : ∀ v H', Ex H H' → New H H' v d → D.rt v H') : tRet te D σ H := h σ H n _ fun v H' e w => k v H' e w
theorem tpAll_rep {H : Hp} {vs : List V} {ds : List PyData} (h : TpAll H vs ds) : ∀ k : Nat, TpAll H (List.replicate k vs).flatten (rep ds k)
  | 0 => .nil
  | k + 1 => by
    have := (tpAll_rep h k).append h
    unfold rep at this ⊢
    rw [List.replicate_succ, List.replicate_succ, List.flatten_cons, List.flatten_cons]
    exact this
theorem v_rep {α : Type} [Enc α] {ns : List α} {k : Int} (ha : VD K ta ρ (enc ns)) (hb : VD K tb ρ (.int k)) (hk : 0 ≤ k ∧ k ≤ 100000) (hz : ns.length * k.toNat ≤ 100000) : VD K (tOp rRep ta tb) ρ (enc (rep ns k.toNat)) := v_two ha hb fun H u v Q r1 r2 q => by
  cases Tp.int_inv r2
  obtain ⟨a, xs, rfl, ea, t⟩ := Tp.lst_inv r1
  refine ⟨a, k, xs, rfl, rfl, ea, by omega, by omega, sz_of (by rw [t.len, List.length_map]; exact hz), fun p hp => q _ _ (Ex.new hp) (.lst upd_same ?_)⟩
  have := tpAll_rep t k.toNat
  rw [show rep (ns.map enc) k.toNat = (rep ns k.toNat).map enc by unfold rep; rw [List.map_flatten, List.map_replicate]] at this
  exact this.mono (Ex.new hp)
theorem n_repI {ns : List Int} {k : Int} (ha : VD K ta ρ (enc ns)) (hb : VD K tb ρ (.int k)) (hk : 0 ≤ k ∧ k ≤ 100000) (hz : ns.length * k.toNat ≤ 100000) : VN K (tOp rRep ta tb) ρ (enc (rep ns k.toNat)) := n_two ha hb fun H u v Q r1 r2 q => by
  cases Tp.int_inv r2
  obtain ⟨a, xs, rfl, ea, t⟩ := Tp.lst_inv r1
  refine ⟨a, k, xs, rfl, rfl, ea, by omega, by omega, sz_of (by rw [t.len, List.length_map]; exact hz), fun p hp => q _ _ (Ex.new hp) ?_⟩
  have := tpAll_rep t k.toNat
  rw [show rep (ns.map enc) k.toNat = (rep ns k.toNat).map enc by unfold rep; rw [List.map_flatten, List.map_replicate]] at this
  exact new_plain (H' := H) hp this plain_ints
theorem tpAll_plain {H B : Hp} : ∀ {xs : List V} {ds : List PyData}, TpAll H xs ds → (∀ d ∈ ds, plain d = true) → TpAll B xs ds
  | _, _, .nil, _ => .nil
  | _, _, .cons h1 h2, pl => .cons (Tp.plain (H' := B) h1 (pl _ List.mem_cons_self)).tp (tpAll_plain h2 fun d hd => pl d (List.mem_cons_of_mem _ hd))
/-- a loop over plain items, in which the list at p may grow -/
theorem q_loopE {ds : List PyData} {j : Nat} {js : List Nat} (f : PyData → List PyData) (hj : j ∈ js) (hl : VD K tl ρ (.list ds)) (pl : ∀ d ∈ ds, plain d = true) (g : Grown H0 H p []) (n : Env K H0 σ ρ)
    (body : ∀ B, Ex H0 B → ∀ x ∈ ds, ∀ (v : V) (pre : List PyData) (σ' : L2.St) (H' : Hp) (D' : Ends), pre.length ≤ (ds.flatMap f).length → Buts js σ σ' → Grown B H' p pre → Tp B v x → D'.rt = D.rt →
      (∀ σ2 H2, Buts js σ σ2 → Grown B H2 p (pre ++ f x) → D'.nx σ2 H2) → t D' (σ'.set j (some v)) H')
    (done : ∀ B, Ex H0 B → ∀ σ' H', Buts js σ σ' → Grown B H' p (ds.flatMap f) → u D σ' H') : tSeq (tFor (iList K tl) (gName j) t) u D σ H :=
  hl σ H (n.of g) _ fun v H1 e1 r1 => by
    obtain ⟨a, xs, rfl, ea, t'⟩ := Tp.lst_inv r1
    have g1 := g.mono e1
    obtain ⟨h0, e0, vs, F, hv, o, nD, fr⟩ := id g1
    cases o
    let B : Hp := fun x => if x = p then none else H1 x
    have eB : Ex B H1 := fun x o hx => by
      by_cases q : x = p
      · have : B x = none := if_pos q
        rw [this] at hx; cases hx
      · have : B x = H1 x := if_neg q
        rw [← this]; exact hx
    have e0B : Ex H0 B := fun x o hx => by
      have q : x ≠ p := fun q => by rw [q, h0] at hx; cases hx
      show (if x = p then none else H1 x) = some o
      rw [if_neg q]
      exact e0 x o hx
    have gB : Grown B H1 p [] := grown_start (if_pos rfl) eB hv
    have eaB : a ≠ p → B a = some (.lst xs) := fun q => (if_neg q).trans ea
    have tB : TpAll B xs ds := tpAll_plain t' pl
    by_cases hap : a = p
    · subst hap
      rw [hv] at ea
      cases ea
      cases t'
      refine ⟨a, rfl, ⟨[], SqL.of hv⟩, ?_⟩
      refine for_list (xs := []) (fun k σ' H' => Buts js σ σ' ∧ Grown B H' a []) ⟨Buts.refl js σ, gB⟩ (fun k σ' H' _ pv => ?_) (fun k x σ' H' hx pv => by cases hx) (fun σ' H' pv => done B e0B σ' H' pv.1 pv.2)
      obtain ⟨_, _, vs2, F2, hv2, o2, _, _⟩ := pv.2
      cases o2
      exact SqL.of hv2
    refine ⟨a, rfl, ⟨xs, SqL.of ea⟩, ?_⟩
    refine for_list (xs := xs) (fun k σ' H' => Buts js σ σ' ∧ Grown B H' p ((ds.take k).flatMap f)) ⟨Buts.refl js σ, gB⟩ (fun k σ' H' _ pv => SqL.of (pv.2.ex _ _ (eaB hap))) (fun k x σ' H' hx pv => ?_) (fun σ' H' pv => ?_)
    · obtain ⟨bt, g'⟩ := pv
      obtain ⟨d, hd, td⟩ := tB.getV hx
      have hm : d ∈ ds := List.mem_of_getElem? hd
      refine body B e0B d hm x _ σ' H' _ ?_ bt g' td rfl fun σ2 H2 b2 g2 => ⟨b2, ?_⟩
      · have : (ds.take k).flatMap f ++ (ds.drop k).flatMap f = ds.flatMap f := by rw [← List.flatMap_append, List.take_append_drop]
        rw [← this, List.length_append]
        omega
      · rw [List.take_add_one, hd, List.flatMap_append]
        simpa using g2
    · obtain ⟨bt, g'⟩ := pv
      rw [t'.len, List.take_length] at g'
      exact done B e0B σ' H' bt g'
theorem own_intsAt {H : Hp} {a : Addr} {row : List Int} (h : H a = some (.lst (row.map V.int))) : Own H (.ref a) (enc row) [a] := by
  have all : ∀ ns : List Int, OwnAll H (ns.map V.int) (ns.map enc) [] := fun ns => by
    induction ns with
    | nil => exact .nil
    | cons n ns ih => exact .cons (.int n) ih fun _ z => nomatch z
  exact .lst h (all row) fun z => nomatch z
theorem RowsAt.own {H : Hp} : ∀ {F : List Addr} {c : Cl}, RowsAt H F c → OwnAll H (F.map V.ref) (c.map enc) F
  | [], [], _ => .nil
  | [], _ :: _, r => by have := r.len; cases this
  | _ :: _, [], r => by have := r.len; cases this
  | a :: F, row :: c, r => by
    have h := OwnAll.cons (own_intsAt (r.at_ 0 a row rfl rfl)) (RowsAt.own (F := F) (c := c) ⟨(List.nodup_cons.mp r.nd).2, by have := r.len; simpa using this, fun i b z h1 h2 => r.at_ (i + 1) b z h1 h2⟩) (fun x hx hm => by
      rw [List.mem_singleton.mp hx] at hm
      exact (List.nodup_cons.mp r.nd).1 hm)
    exact h
theorem CAt.own {H : Hp} {a : Addr} {F : List Addr} {c : Cl} (h : CAt H a F c) : Own H (.ref a) (enc c) (a :: F) := .lst h.lst h.rows.own h.out
theorem atI_last {xs : List V} (h : xs ≠ []) : atI xs (-1) = some (xs.getLast h) := by
  have hl : 0 < xs.length := List.length_pos_iff.mpr h
  have e : ixN xs.length (-1) = some (xs.length - 1) := by
    unfold ixN
    rw [if_neg (by decide)]
    first
    | (rw [if_pos (by omega)]; congr 1; omega)
    | (split <;> first | (congr 1; omega) | omega)
  unfold atI
  rw [e]
  show xs[xs.length - 1]? = _
  rw [List.getLast_eq_getElem, List.getElem?_eq_getElem]
theorem val_neg {i : Int} (h : Val ta σ H (.int i)) : Val (tUn (rU fun i => .int (-i)) ta) σ H (.int (-i)) := fun Q q => h _ ⟨i, rfl, q⟩
end
end DF

namespace DF
open Enc (enc)
open PySem PySem.Spec PyProof.Rows L2 Evl RT
/-! ### drafts side by side -/
section
variable {α : Type} [DecidableEq α] [Inhabited α]
def firsts (xs : List α) : List α := xs.foldl (fun acc x => if x ∈ acc then acc else acc ++ [x]) []
theorem take_next {xs : List α} {k : Nat} (h : k < xs.length) : xs.take (k + 1) = xs.take k ++ [xs.getD k default] := by
  rw [List.take_add_one, List.getElem?_eq_getElem h, getD_lt h]; rfl
theorem firsts_next {xs : List α} {k : Nat} (h : k < xs.length) : firsts (xs.take (k + 1)) = if xs.getD k default ∈ firsts (xs.take k) then firsts (xs.take k) else firsts (xs.take k) ++ [xs.getD k default] := by
  rw [take_next h]
  unfold firsts
  rw [List.foldl_append]
  rfl
theorem firsts_in {xs : List α} {k : Nat} (h : k < xs.length) : xs.getD k default ∈ firsts (xs.take (k + 1)) := by
  rw [firsts_next h]
  split
  · assumption
  · simp
theorem firsts_lenK (xs : List α) : ∀ k : Nat, k ≤ xs.length → (firsts (xs.take k)).length ≤ k
  | 0, _ => by simp [firsts]
  | k + 1, h => by
    have := firsts_lenK xs k (by omega)
    rw [firsts_next (by omega)]
    split
    · omega
    · rw [List.length_append]; simp; omega
theorem firsts_subK (xs : List α) : ∀ k : Nat, k ≤ xs.length → ∀ x ∈ firsts (xs.take k), x ∈ xs
  | 0, _, x, h => by simp [firsts] at h
  | k + 1, hk, x, h => by
    rw [firsts_next (by omega)] at h
    split at h
    · exact firsts_subK xs k (by omega) x h
    · rcases List.mem_append.mp h with h | h
      · exact firsts_subK xs k (by omega) x h
      · rw [List.mem_singleton.mp h, getD_lt (show k < xs.length by omega)]
        exact List.getElem_mem _
theorem firsts_pre (xs : List α) {k : Nat} : ∀ m : Nat, k + m ≤ xs.length → ∃ r, firsts (xs.take (k + m)) = firsts (xs.take k) ++ r
  | 0, _ => ⟨[], by simp⟩
  | m + 1, h => by
    obtain ⟨r, e⟩ := firsts_pre xs (k := k) m (by omega)
    rw [← Nat.add_assoc, firsts_next (by omega), e]
    split
    · exact ⟨r, rfl⟩
    · exact ⟨r ++ [xs.getD (k + m) default], by rw [List.append_assoc]⟩
theorem firsts_all (xs : List α) {k : Nat} (h : k ≤ xs.length) : ∃ r, firsts xs = firsts (xs.take k) ++ r := by
  obtain ⟨r, e⟩ := firsts_pre xs (k := k) (xs.length - k) (by omega)
  rw [show k + (xs.length - k) = xs.length by omega, List.take_length] at e
  exact ⟨r, e⟩
/-- each thing's place in firsts, as found on the way -/
def numK (xs : List α) (k : Nat) : Nat := idxD (firsts (xs.take (k + 1))) (xs.getD k default)
def numsOf (xs : List α) : List Int := (List.range xs.length).map fun k => ((numK xs k : Nat) : Int)
theorem numK_lt {xs : List α} {k : Nat} (h : k < xs.length) : numK xs k < (firsts xs).length := by
  obtain ⟨r, e⟩ := firsts_all xs (k := k + 1) h
  have := idxD_lt (firsts_in h)
  unfold numK
  rw [e, List.length_append]
  omega
theorem numK_at {xs : List α} {k : Nat} (h : k < xs.length) : (firsts xs).getD (numK xs k) default = xs.getD k default := by
  obtain ⟨r, e⟩ := firsts_all xs (k := k + 1) h
  have hi := idxD_lt (firsts_in h)
  unfold numK
  rw [e, List.getD_eq_getElem?_getD, List.getElem?_append_left hi, List.getElem?_eq_getElem hi]
  have := List.getElem_idxOf hi
  unfold idxD
  rw [this]
  rfl
end
instance : Inhabited Dr := ⟨⟨[], [], []⟩⟩
abbrev pairsOf (d e : Dr) : List (Int × Int) := d.tr.zip e.tr
def besideD (d e : Dr) : Dr where
  th := d.th ++ e.th.map fun s => s + (d.ti.length : Int)
  ti := (d.ti.map fun row => (firsts (pairsOf d e)).map fun p => row.getD p.1.toNat default) ++ e.ti.map fun row => (firsts (pairsOf d e)).map fun p => row.getD p.2.toNat default
  tr := numsOf (pairsOf d e)
def fits0 (d e : Dr) : Bool := decide ((d.tr.length : Int) = (e.tr.length : Int)) && decide ((d.th.length : Int) + (e.th.length : Int) ≤ 60)
def fits1 (d e : Dr) : Bool := decide ((d.ti.length : Int) + (e.ti.length : Int) ≤ 60)
theorem pairs_len {d e : Dr} (h : fits0 d e = true) : (pairsOf d e).length = d.tr.length ∧ d.tr.length = e.tr.length ∧ d.th.length + e.th.length ≤ 60 := by
  unfold fits0 at h
  simp only [Bool.and_eq_true, decide_eq_true_eq] at h
  refine ⟨?_, by omega, by omega⟩
  unfold pairsOf
  rw [List.length_zip]
  omega
theorem pairs_at {d e : Dr} (h : fits0 d e = true) {k : Nat} (hk : k < d.tr.length) : (pairsOf d e).getD k default = (d.tr.getD k default, e.tr.getD k default) := by
  obtain ⟨h1, h2, _⟩ := pairs_len h
  rw [getD_lt (by omega), getD_lt hk, getD_lt (by omega)]
  exact List.getElem_zip
theorem pairs_in {d e : Dr} {p : Int × Int} (h : p ∈ pairsOf d e) : p.1 ∈ d.tr ∧ p.2 ∈ e.tr := by
  obtain ⟨a, b⟩ := p
  exact List.of_mem_zip h
theorem firsts_sub {d e : Dr} {p : Int × Int} (h : p ∈ firsts (pairsOf d e)) : p.1 ∈ d.tr ∧ p.2 ∈ e.tr := by
  have := firsts_subK (pairsOf d e) (pairsOf d e).length (Nat.le_refl _) p (by rw [List.take_length]; exact h)
  exact pairs_in this
theorem firsts_le {d e : Dr} (h : fits0 d e = true) : (firsts (pairsOf d e)).length ≤ d.tr.length := by
  have := firsts_lenK (pairsOf d e) (pairsOf d e).length (Nat.le_refl _)
  rw [List.take_length] at this
  rw [← (pairs_len h).1]
  exact this
theorem besideD_good {d e : Dr} (gd : GoodD d) (ge : GoodD e) (h0 : fits0 d e = true) (h1 : fits1 d e = true) : GoodD (besideD d e) := by
  obtain ⟨p1, p2, p3⟩ := pairs_len h0
  have q1 : d.ti.length + e.ti.length ≤ 60 := by
    unfold fits1 at h1
    simp only [decide_eq_true_eq] at h1
    omega
  have f1 := firsts_le h0
  have d1 := gd.ti.len
  have e1 := ge.ti.len
  have d2 := gd.tr
  have d3 := gd.th
  have e3 := ge.th
  have f0 : 0 < (firsts (pairsOf d e)).length := Nat.lt_of_le_of_lt (Nat.zero_le _) (numK_lt (xs := pairsOf d e) (k := 0) (by omega))
  have rowsL : ∀ row ∈ (besideD d e).ti, row.length = (firsts (pairsOf d e)).length := fun row hr => by
    rcases List.mem_append.mp hr with h | h <;> (obtain ⟨r, _, rfl⟩ := List.mem_map.mp h; rw [List.length_map])
  have lenT : (besideD d e).ti.length = d.ti.length + e.ti.length := by show (List.length (_ ++ _)) = _; rw [List.length_append, List.length_map, List.length_map]
  have row0 : ((besideD d e).ti.getD 0 default).length = (firsts (pairsOf d e)).length := by
    rw [getD_lt (by omega)]
    exact rowsL _ (List.getElem_mem _)
  have lenH : (besideD d e).th.length = d.th.length + e.th.length := by show (List.length (_ ++ _)) = _; rw [List.length_append, List.length_map]
  have lenR : (besideD d e).tr.length = d.tr.length := by show (numsOf _).length = _; unfold numsOf; rw [List.length_map, List.length_range, p1]
  refine ⟨⟨by omega, fun row hr => by rw [row0]; exact rowsL row hr, by omega, fun row hr x hx => ?_⟩, by omega, by omega, fun s hs => ?_, fun t ht => ?_⟩
  · rcases List.mem_append.mp hr with h | h
    · obtain ⟨r, hr2, rfl⟩ := List.mem_map.mp h
      obtain ⟨p, hp, rfl⟩ := List.mem_map.mp hx
      have b := gd.tl p.1 (firsts_sub hp).1
      have hl := gd.ti.rows r hr2
      rw [getD_lt (show p.1.toNat < r.length by omega)]
      exact gd.ti.bits r hr2 _ (List.getElem_mem _)
    · obtain ⟨r, hr2, rfl⟩ := List.mem_map.mp h
      obtain ⟨p, hp, rfl⟩ := List.mem_map.mp hx
      have b := ge.tl p.2 (firsts_sub hp).2
      have hl := ge.ti.rows r hr2
      rw [getD_lt (show p.2.toNat < r.length by omega)]
      exact ge.ti.bits r hr2 _ (List.getElem_mem _)
  · rw [lenT]
    rcases List.mem_append.mp hs with h | h
    · have := gd.sh s h
      omega
    · obtain ⟨y, hy, rfl⟩ := List.mem_map.mp h
      have := ge.sh y hy
      omega
  · rw [row0]
    obtain ⟨k, hk, rfl⟩ := List.mem_map.mp ht
    have := numK_lt (xs := pairsOf d e) (k := k) (by simpa using hk)
    omega
theorem numsOf_at {α : Type} [DecidableEq α] [Inhabited α] {xs : List α} {k : Nat} (h : k < (numsOf xs).length) : (numsOf xs)[k] = ((numK xs k : Nat) : Int) := by simp [numsOf]
theorem besideD_left (d e : Dr) {i : Nat} (h : i < d.ti.length) : (besideD d e).ti.getD i default = (firsts (pairsOf d e)).map fun p => (d.ti.getD i default).getD p.1.toNat default := by
  unfold besideD
  simp only []
  rw [List.getD_eq_getElem?_getD, List.getElem?_append_left (by rw [List.length_map]; exact h), ← List.getD_eq_getElem?_getD, getD_map _ _ _ h, getD_lt h]
theorem besideD_right (d e : Dr) {i : Nat} (h : i < e.ti.length) : (besideD d e).ti.getD (d.ti.length + i) default = (firsts (pairsOf d e)).map fun p => (e.ti.getD i default).getD p.2.toNat default := by
  unfold besideD
  simp only []
  rw [List.getD_eq_getElem?_getD, List.getElem?_append_right (by rw [List.length_map]; omega), ← List.getD_eq_getElem?_getD, List.length_map, show d.ti.length + i - d.ti.length = i by omega, getD_map _ _ _ h, getD_lt h]
theorem woven_beside {d e : Dr} (gd : GoodD d) (ge : GoodD e) (h0 : fits0 d e = true) : woven (besideD d e) = (List.range (woven d).length).map fun k => (woven d).getD k default ++ (woven e).getD k default := by
  obtain ⟨p1, p2, p3⟩ := pairs_len h0
  have lw : (woven d).length = d.tr.length := by unfold woven; rw [List.length_map]
  have lenR : (besideD d e).tr.length = d.tr.length := by show (numsOf _).length = _; unfold numsOf; rw [List.length_map, List.length_range, p1]
  refine getD_ext (by rw [List.length_map, List.length_range, lw]; unfold woven; rw [List.length_map, lenR]) fun k hk => ?_
  have hk' : k < d.tr.length := by simpa [lw] using hk
  rw [getD_map _ _ _ (by simpa using hk)]
  rw [List.getElem_range]
  unfold woven
  rw [getD_map _ _ _ (by rw [lenR]; exact hk'), getD_map _ _ _ hk', getD_map _ _ _ (by omega)]
  have et : (besideD d e).tr[k]'(by rw [lenR]; exact hk') = ((numK (pairsOf d e) k : Nat) : Int) := by
    exact numsOf_at (xs := pairsOf d e) (by have := lenR; show k < (numsOf (pairsOf d e)).length; rw [show (numsOf (pairsOf d e)).length = d.tr.length from lenR]; exact hk')
  rw [et]
  have hn := numK_lt (xs := pairsOf d e) (k := k) (by omega)
  have hp := (numK_at (xs := pairsOf d e) (k := k) (by omega)).trans (pairs_at h0 hk')
  rw [getD_lt hn] at hp
  show List.map _ (d.th ++ e.th.map fun s => s + (d.ti.length : Int)) = _
  rw [List.map_append, List.map_map]
  congr 1
  · apply List.map_congr_left
    intro s hs
    have b := gd.sh s hs
    rw [besideD_left d e (show s.toNat < d.ti.length by omega), Int.toNat_natCast, getD_map _ _ _ hn, hp, getD_lt hk']
  · apply List.map_congr_left
    intro s hs
    have b := ge.sh s hs
    show ((besideD d e).ti.getD (s + (d.ti.length : Int)).toNat default).getD _ default = _
    rw [show (s + (d.ti.length : Int)).toNat = d.ti.length + s.toNat by omega, besideD_right d e (show s.toNat < e.ti.length by omega), Int.toNat_natCast, getD_map _ _ _ hn, hp, getD_lt (show k < e.tr.length by omega)]
end DF
namespace DF
open Enc (enc)
open PySem PySem.Spec PyProof.Rows L2 Evl RT
/-! ### a list of pairs of numbers that grows, and the list of places -/
structure TupsAt (H : Hp) (ts : List Addr) (ps : List (Int × Int)) : Prop where
  len : ts.length = ps.length
  at_ : ∀ (i : Nat) (t : Addr) (q : Int × Int), ts[i]? = some t → ps[i]? = some q → H t = some (.tup [.int q.1, .int q.2])
theorem TupsAt.imp {H H' : Hp} {ts : List Addr} {ps : List (Int × Int)} (h : TupsAt H ts ps) (k : ∀ t l, H t = some (.tup l) → H' t = some (.tup l)) : TupsAt H' ts ps := ⟨h.len, fun i t q h1 h2 => k t _ (h.at_ i t q h1 h2)⟩
theorem TupsAt.snoc {H : Hp} {ts : List Addr} {ps : List (Int × Int)} (h : TupsAt H ts ps) {t : Addr} {q : Int × Int} (ht : H t = some (.tup [.int q.1, .int q.2])) : TupsAt H (ts ++ [t]) (ps ++ [q]) := by
  refine ⟨by rw [List.length_append, List.length_append, h.len]; rfl, fun i u r h1 h2 => ?_⟩
  by_cases hi : i < ts.length
  · rw [List.getElem?_append_left hi] at h1
    rw [List.getElem?_append_left (by rw [← h.len]; exact hi)] at h2
    exact h.at_ i u r h1 h2
  · rw [List.getElem?_append_right (by omega)] at h1
    rw [List.getElem?_append_right (by rw [← h.len]; omega), ← h.len] at h2
    generalize i - ts.length = j at h1 h2
    cases j with
    | zero => cases h1; cases h2; exact ht
    | succ j => cases h1
theorem TupsAt.tp {H : Hp} : ∀ {ts : List Addr} {ps : List (Int × Int)}, TupsAt H ts ps → TpAll H (ts.map V.ref) (ps.map enc)
  | [], [], _ => .nil
  | [], _ :: _, h => by have := h.len; cases this
  | _ :: _, [], h => by have := h.len; cases this
  | t :: ts, q :: ps, h => .cons (.tup (h.at_ 0 t q rfl rfl) (.cons (.int _) (.cons (.int _) .nil))) (TupsAt.tp (ts := ts) (ps := ps) ⟨by have := h.len; simpa using this, fun i u r h1 h2 => h.at_ (i + 1) u r h1 h2⟩)
def TL (H : Hp) (p : Addr) (ps : List (Int × Int)) : Prop := ∃ ts : List Addr, H p = some (.lst (ts.map V.ref)) ∧ TupsAt H ts ps
theorem TL.tp {H : Hp} {p : Addr} {ps : List (Int × Int)} (h : TL H p ps) : Tp H (.ref p) (enc ps) := by
  obtain ⟨ts, h1, h2⟩ := h
  exact .lst h1 h2.tp
theorem TL.mono {H H' : Hp} {p : Addr} {ps : List (Int × Int)} (e : Ex H H') (h : TL H p ps) : TL H' p ps := by
  obtain ⟨ts, h1, h2⟩ := h
  exact ⟨ts, e _ _ h1, h2.imp fun t l h => e _ _ h⟩
theorem TL.upd {H : Hp} {p z : Addr} {ps : List (Int × Int)} {l : List V} {o : HO} (h : TL H p ps) (hz : H z = some (.lst l)) (ne : p ≠ z) : TL (upd H z o) p ps := by
  obtain ⟨ts, h1, h2⟩ := h
  refine ⟨ts, by rw [upd_ne ne]; exact h1, h2.imp fun t l h => ?_⟩
  rw [upd_ne (fun e => by rw [e, hz] at h; cases h)]
  exact h
/-- all but two cells stand -/
def ExB (p q : Addr) (H H' : Hp) : Prop := ∀ x o, x ≠ p → x ≠ q → H x = some o → H' x = some o
theorem ExB.refl {p q : Addr} {H : Hp} : ExB p q H H := fun _ _ _ _ h => h
theorem ExB.ex {p q : Addr} {H H1 H' : Hp} (a : ExB p q H H1) (e : Ex H1 H') : ExB p q H H' := fun x o h1 h2 h => e _ _ (a x o h1 h2 h)
theorem ExB.updp {p q : Addr} {H H1 : Hp} {o : HO} (a : ExB p q H H1) : ExB p q H (upd H1 p o) := fun x o h1 h2 h => by rw [upd_ne h1]; exact a x o h1 h2 h
theorem ExB.updq {p q : Addr} {H H1 : Hp} {o : HO} (a : ExB p q H H1) : ExB p q H (upd H1 q o) := fun x o h1 h2 h => by rw [upd_ne h2]; exact a x o h1 h2 h
section
variable {K : PySem.W.Frag} {te : TE} {H H' : Hp} {σ : L2.St} {D : Ends} {p2 p3 : Addr}
theorem s_pairTurn {i j : Nat} {q : Int × Int} {acc : List (Int × Int)} {T : List Int} (ρ : List (Int × Int) → Rho) (hte : ∀ acc, VD K te (ρ acc) (enc q)) (hv : ∀ acc, VD K (tVar i) (ρ acc) (enc acc))
    (si : σ[i]? = some (some (.ref p2))) (sj : σ[j]? = some (some (.ref p3))) (hne : p2 ≠ p3) (env : ∀ H2 acc', ExB p2 p3 H' H2 → TL H2 p2 acc' → Env K H2 σ (ρ acc'))
    (tl : TL H' p2 acc) (t3 : H' p3 = some (.lst (T.map V.int))) (hz : acc.length ≤ 1000 ∧ T.length ≤ 1000)
    (k : ∀ H2, ExB p2 p3 H' H2 → TL H2 p2 (if q ∈ acc then acc else acc ++ [q]) → H2 p3 = some (.lst ((T ++ [((idxD (if q ∈ acc then acc else acc ++ [q]) q : Nat) : Int)]).map V.int)) → D.nx σ H2) :
    tSeq (tIfS (tTest (tOp (rNotInD K) te (tVar i))) (tDrop (tBM K "list" rAppend (tVar i) (tCons te tNil))) tNext) (tDrop (tBM K "list" rAppend (tVar j) (tCons (tBM K "list" (rIndexD K) (tVar i) (tCons te tNil)) tNil))) D σ H' := by
  have fin : ∀ (H2 : Hp) (ac : List (Int × Int)), ExB p2 p3 H' H2 → TL H2 p2 ac → q ∈ ac → ac.length ≤ 1001 → H2 p3 = some (.lst (T.map V.int)) → (∀ H3, ExB p2 p3 H' H3 → TL H3 p2 ac → H3 p3 = some (.lst ((T ++ [((idxD ac q : Nat) : Int)]).map V.int)) → D.nx σ H3) →
      tDrop (tBM K "list" rAppend (tVar j) (tCons (tBM K "list" (rIndexD K) (tVar i) (tCons te tNil)) tNil)) D σ H2 := fun H2 ac e2 tl2 hq hac h3 kk => by
    refine ⟨.ref p3, sj, .inl ⟨rfl, _, SqL.of h3⟩, ?_⟩
    refine v_index (K := K) (xs := ac) (x := q) (hv ac) (hte ac) hq (by decide) _ _ (env H2 ac e2 tl2) _ fun w H3 e3 r3 => ?_
    cases Tp.int_inv r3
    have h33 := e3 _ _ h3
    refine ⟨p3, _, .int _, rfl, rfl, h33, sz_lt (by rw [List.length_map]; omega), kk _ (e2.ex e3).updq ((tl2.mono e3).upd h33 hne) ?_⟩
    rw [List.map_append]
    exact upd_same
  refine t_test (v_ni (α := Int × Int) (x := q) (xs := acc) (hte acc) (hv acc)) _ _ (env H' acc ExB.refl tl) _ fun H2 e2 => ?_
  by_cases hq : q ∈ acc
  · rw [if_pos hq] at k
    split
    · rename_i h
      exact absurd hq (by simpa using h)
    exact fin H2 acc (ExB.refl.ex e2) (tl.mono e2) hq (by omega) (e2 _ _ t3) k
  · rw [if_neg hq] at k
    split
    rotate_left
    · rename_i h
      exact absurd (by simpa using h) hq
    obtain ⟨ts, h1, h2⟩ := tl.mono e2
    refine ⟨.ref p2, si, .inl ⟨rfl, _, SqL.of h1⟩, ?_⟩
    refine hte acc _ _ (env H2 acc (ExB.refl.ex e2) ⟨ts, h1, h2⟩) _ fun v H3 e3 r3 => ?_
    obtain ⟨t, xs, rfl, ht, tA⟩ := Tp.tup_inv (ds := [.int q.1, .int q.2]) r3
    cases tA with
    | cons r1 tA =>
      cases tA with
      | cons r2 tA =>
        cases tA
        cases Tp.int_inv r1
        cases Tp.int_inv r2
        have h13 := e3 _ _ h1
        refine ⟨p2, _, .ref t, rfl, rfl, h13, sz_lt (by rw [List.length_map, h2.len]; omega), ?_⟩
        refine fin _ (acc ++ [q]) ((ExB.refl.ex e2).ex e3).updp ⟨ts ++ [t], by rw [List.map_append]; exact upd_same, ?_⟩ (by simp) (by rw [List.length_append]; simp; omega) (by rw [upd_ne hne.symm]; exact e3 _ _ (e2 _ _ t3)) k
        refine (TupsAt.snoc (h2.imp fun t l h => e3 _ _ h) ht).imp fun u l h => ?_
        rw [upd_ne (fun e => by rw [e, h13] at h; cases h)]
        exact h
variable {ρ : Rho} {H0 : Hp} {ta tb : TE} {u : TS}
/-- x = y + e, y a list of one's own in a slot -/
theorem q_catOwn {i j : Nat} {x : V} {ds es : List PyData} (hi : σ[i]? = some (some x)) (o : New H0 H x (.list ds)) (e0 : Ex H0 H) (n : Env K H σ ρ) (hb : VN K tb ρ (.list es)) (hz : ds.length + es.length ≤ 100000)
    (k : ∀ v H', Ex H H' → New H0 H' v (.list (ds ++ es)) → u D (σ.set j (some v)) H') : tSeq (tAsg (tOp rCat (tVar i) tb) (gName j)) u D σ H :=
  ⟨x, hi, hb σ H n _ fun v H2 e2 ⟨G, o2, f2⟩ => by
    obtain ⟨F, o1, f1⟩ := o
    obtain ⟨a, xs, A, rfl, rfl, ea, t, na⟩ := Own.lst_inv (o1.mono e2)
    obtain ⟨b, ys, B, rfl, rfl, eb, t', nb⟩ := o2.lst_inv
    refine ⟨a, b, xs, ys, rfl, rfl, ea, eb, sz_of (by rw [t.len, t'.len]; exact hz), fun p hp => k _ _ (e2.trans (Ex.new hp)) ?_⟩
    have dis : ∀ c ∈ A, c ∉ B := fun c hc hb => by
      obtain ⟨zs, hz⟩ := o1.at_ c (List.mem_cons_of_mem _ hc)
      rw [f2 c (List.mem_cons_of_mem _ hb)] at hz
      cases hz
    have tt := OwnAll.append t' t dis
    refine ⟨_, .lst upd_same (tt.mono (Ex.new hp)) fun z => ?_, fun z hz => ?_⟩
    · obtain ⟨zs, hx⟩ := tt.at_ p z
      rw [hp] at hx; cases hx
    · rcases List.mem_cons.mp hz with rfl | hz
      · exact fresh_back (e0.trans e2) hp
      · rcases List.mem_append.mp hz with h | h
        · exact f1 z (List.mem_cons_of_mem _ h)
        · exact fresh_back e0 (f2 z (List.mem_cons_of_mem _ h))⟩
theorem s_ret_nvv {j l : Nat} {y w : V} {a b c : PyData} {F G : List Addr} (h2 : σ[j]? = some (some y)) (h3 : σ[l]? = some (some w)) (oy : Own H y b F) (ow : Own H w c G) (fy : ∀ x ∈ F, H0 x = none) (fw : ∀ x ∈ G, H0 x = none) (dj : ∀ x ∈ F, x ∉ G) (e : Ex H0 H) (n : Env K H σ ρ) (ha : VN K ta ρ a)
    (k : ∀ v H', Ex H H' → New H0 H' v (.tuple [a, b, c]) → D.rt v H') : tRet (tTup (tCons ta (tCons (tVar j) (tCons (tVar l) tNil)))) D σ H :=
  ha σ H n _ fun x H1 e1 ⟨A, oA, fA⟩ => ⟨y, h2, w, h3, (show 3 ≤ sizeLine by decide), fun q hq => by
    have al : OwnAll H1 [x, y, w] [a, b, c] (A ++ (F ++ (G ++ []))) := .cons oA (.cons (oy.mono e1) (.cons (ow.mono e1) .nil (fun _ _ z => nomatch z)) fun z hz hg => by
        rw [List.append_nil] at hg
        exact dj z hz hg) fun z hz hg => by
      rw [List.append_nil] at hg
      rcases List.mem_append.mp hg with h | h
      · obtain ⟨xs, hx⟩ := oy.at_ z h
        rw [fA z hz] at hx
        cases hx
      · obtain ⟨xs, hx⟩ := ow.at_ z h
        rw [fA z hz] at hx
        cases hx
    refine k _ _ (e1.trans (Ex.new hq)) ⟨_, .tup upd_same (al.mono (Ex.new hq)), fun z hz => ?_⟩
    rw [List.append_nil] at hz
    rcases List.mem_append.mp hz with h | h
    · exact fresh_back e (fA z h)
    · rcases List.mem_append.mp h with h | h
      · exact fy z h
      · exact fw z h⟩
end
end DF

namespace DF
open Enc (enc)
open PySem PySem.Spec PyProof.Rows L2 Evl RT
def topS (i : Nat) : Stmt := PySem.Challenge.pw_drafthall_k09_drafts_beside.main.body.getD i (.Pass ⟨0, 0, 0, 0⟩)
section
variable {P : Program} {w : World} {K : PySem.W.Frag} {mg : Str → Option Value} {base : Heap}
/-! is_number -/
abbrev s_is_number : Stmt := topS 8
abbrev N_is_number : List Str := ["thing", "least", "most"]
theorem sc_is_number : FnScope N_is_number ["thing", "least", "most"] (defScope s_is_number) := ⟨rfl, rfl, rfl, by decide +kernel, rfl, by decide +kernel, by decide +kernel⟩

def R_is_number : List Ent → PyData → Prop := fun zs r => ∃ (d : PyData) (lo hi : Int), zs = [.d d, .d (.int lo), .d (.int hi)] ∧ r = .bool (isNum d lo hi)
theorem c_is_number (B : Blt mg) (D_ : Dfn K mg "is_number" s_is_number ["thing", "least", "most"]) : Cal P w K mg base CX0 1 "is_number" ["thing", "least", "most"] (spR K R_is_number) := by
  refine cal_R D_ sc_is_number (fun zs r h => by obtain ⟨d, lo, hi, rfl, _⟩ := h; rfl) fun f cdv A outer s H E hr => ⟨_, (pss_one (ps_ret (pe_and (pe_callB (call_isiK' K) (by rfl) B.isinstance (by decide +kernel) (pa_cons (pv 0) (pa_cons (pe_bltn (v := .ty "int") (by rfl) B.int (by decide +kernel) rfl) pa_nil))) (pe_and (pe_not (pe_callB (call_isiK' K) (by rfl) B.isinstance (by decide +kernel) (pa_cons (pv 0) (pa_cons (pe_bltn (v := .ty "bool") (by rfl) B.bool (by decide +kernel) rfl) pa_nil)))) (pe_one (pe_chain op_le op_le (pv 1) (pv 0) (pv 2))))))), ?_⟩
  rintro zs r ⟨d, lo, hi, rfl, rfl⟩
  refine .inl (r_ret (VD.toN ?_ rfl))
  cases d with
  | int i => exact VE.eq (v_and (v_isi (v_var rfl) kit_int) fun _ => v_and (v_not (v_isi (v_var rfl) kit_bool)) fun _ => v_chain (v_var rfl) (v_var rfl) fun _ => v_var rfl) (by rw [isI_int_int, isI_bool_int]; rfl)
  | bool b => exact VE.eq (v_and (c := false) (v_isi (v_var rfl) kit_int) fun _ => VE.eq (v_and (c := false) (v_not (v_isi (v_var rfl) kit_bool)) fun h => by rw [isI_bool_bool] at h; cases h) (by rw [isI_bool_bool]; rfl)) (by rw [Bool.and_false]; rfl)
  | none => exact VE.eq (v_and (c := false) (v_isi (v_var rfl) kit_int) fun h => by rw [isI_int_none] at h; cases h) (by rw [Bool.and_false]; rfl)
  | str x => exact VE.eq (v_and (c := false) (v_isi (v_var rfl) kit_int) fun h => by rw [isI_int_str] at h; cases h) (by rw [Bool.and_false]; rfl)
  | list x => exact VE.eq (v_and (c := false) (v_isi (v_var rfl) kit_int) fun h => by rw [isI_int_list] at h; cases h) (by rw [Bool.and_false]; rfl)
  | tuple x => exact VE.eq (v_and (c := false) (v_isi (v_var rfl) kit_int) fun h => by rw [isI_int_tuple] at h; cases h) (by rw [Bool.and_false]; rfl)
  | dict x => exact VE.eq (v_and (c := false) (v_isi (v_var rfl) kit_int) fun h => by rw [isI_int_dict] at h; cases h) (by rw [Bool.and_false]; rfl)

/-! is_row -/
abbrev s_is_row : Stmt := topS 9
abbrev N_is_row : List Str := ["thing", "most", "one"]
theorem sc_is_row : FnScope N_is_row ["thing", "most"] (defScope s_is_row) := ⟨rfl, rfl, rfl, by decide +kernel, rfl, by decide +kernel, by decide +kernel⟩

def R_is_row : List Ent → PyData → Prop := fun zs r => ∃ (d : PyData) (hi : Int), zs = [.d d, .d (.int hi)] ∧ r = .bool (isRow d hi)
theorem c_is_row (B : Blt mg) (C_is_number : Cal P w K mg base CX0 1 "is_number" ["thing", "least", "most"] (spR K R_is_number)) (D_ : Dfn K mg "is_row" s_is_row ["thing", "most"]) : Cal P w K mg base CX0 2 "is_row" ["thing", "most"] (spR K R_is_row) := by
  refine cal_R D_ sc_is_row (fun zs r h => by obtain ⟨d, hi, rfl, _⟩ := h; rfl) fun f cdv A outer s H E hr => ⟨_, (pss_cons (ps_if (PW.pt (pw_or (pt_not (pt_val (pe_callB (call_isiK' K) (by rfl) B.isinstance (by decide +kernel) (pa_cons (pv 0) (pa_cons (pe_bltn (v := .ty "list") (by rfl) B.list (by decide +kernel) rfl) pa_nil))))) (pw_or1 (pt_not (pt_chain op_le op_le pe_int (pe_callB (call_lenK K) (by rfl) B.len (by decide +kernel) (pa_cons (pv 0) pa_nil)) (pe_most rfl B.most))))))
    (pss_one (ps_ret pe_bl))
    pss_nil)
    (pss_one (ps_ret (pe_callB (cr_allK K rfl) (by rfl) B.all (by decide +kernel) (pa_cons (pe_lc (own := [("one", 2)]) (g := gName 2) (tt := tYes) rfl sc_is_row.nd (pi_listK K (pv 0)) (blkOk_by (N := N_is_row) (sc := defScope s_is_row) (by decide +kernel)) (fun _ _ _ _ _ => pg_name (i := 2) sc_is_row.nd rfl (Or.inl rfl)) (fun _ _ _ _ _ => pts_nil) (fun _ _ _ _ _ => (pe_calK K P w mg base C_is_number (hr.mono (by decide)) (by rfl) (pa_cons (pv 2) (pa_cons pe_int (pa_cons (pv 1) pa_nil)))))) pa_nil))))), ?_⟩
  rintro zs r ⟨d, hi, rfl, rfl⟩
  refine .inl ?_
  cases hL : isI "list" d with
  | false =>
    rw [isRow_no hL]
    exact r_seqR (r_if (b := true) (VT.eq (t_or (c := false) (t_not (t_B (v_isi (v_var rfl) kit_list))) fun q => by rw [hL] at q; cases q) (by rw [hL]; rfl)) (fun _ => r_ret (VD.toN v_bl rfl)) fun q => nomatch q)
  | true =>
    obtain ⟨ds, rfl⟩ := isI_list_inv hL
    by_cases hl : 1 ≤ ds.length ∧ ds.length ≤ 60
    · refine r_seq (ρ' := startR N_is_row [.d (.list ds), .d (.int hi)]) (r_if (b := false) (VT.eq (t_or (t_not (t_B (v_isi (v_var rfl) kit_list))) fun _ => t_not (t_test (v_chain v_int (v_lenL (v_var rfl)) fun _ => v_int))) ?_) (fun q => nomatch q) fun _ => r_next) ?_
      · rw [isI_list_list, decide_eq_true (by omega), decide_eq_true (by omega)]; rfl
      · refine r_ret (VD.toN (VE.eq (v_all (bs := ds.map fun x => isNum x 0 hi) (VN.toD (VN.eq (n_lcD (fun _ => true) (fun x => .bool (isNum x 0 hi)) (v_var rfl) (by omega) (by decide) (fun _ _ => t_yes) fun x hx _ => n_call (a_cons (v_var rfl) (a_cons v_int (a_cons (v_var rfl) a_nil))) ⟨x, 0, hi, rfl, rfl⟩) ?_))) ?_) rfl)
        · rw [accs_yes]; show _ = PyData.list _; rw [List.map_map]; rfl
        · rw [isRow_eq, decide_eq_true hl]; simp [List.all_map, Function.comp_def]
    · rw [show isRow (.list ds) hi = false by rw [isRow_eq, decide_eq_false hl]; rfl]
      refine r_seqR (r_if (b := true) (VT.eq (t_or (t_not (t_B (v_isi (v_var rfl) kit_list))) fun _ => t_not (t_test (v_chain v_int (v_lenL (v_var rfl)) fun _ => v_int))) ?_) (fun _ => r_ret (VD.toN v_bl rfl)) fun q => nomatch q)
      rw [isI_list_list]
      by_cases h1 : 1 ≤ ds.length
      · rw [decide_eq_false (show ¬ ((ds.length : Int) ≤ 60) by omega), Bool.and_false]; rfl
      · rw [decide_eq_false (show ¬ ((1 : Int) ≤ (ds.length : Int)) by omega)]; rfl

/-! is_cloth -/
abbrev s_is_cloth : Stmt := topS 10
abbrev N_is_cloth : List Str := ["thing", "row"]
theorem sc_is_cloth : FnScope N_is_cloth ["thing"] (defScope s_is_cloth) := ⟨rfl, rfl, rfl, by decide +kernel, rfl, by decide +kernel, by decide +kernel⟩

def R_is_cloth : List Ent → PyData → Prop := fun zs r => ∃ (d : PyData), zs = [.d d] ∧ r = .bool (isCloth d)
theorem c_is_cloth (B : Blt mg) (C_is_row : Cal P w K mg base CX0 2 "is_row" ["thing", "most"] (spR K R_is_row)) (D_ : Dfn K mg "is_cloth" s_is_cloth ["thing"]) : Cal P w K mg base CX0 3 "is_cloth" ["thing"] (spR K R_is_cloth) := by
  refine cal_R D_ sc_is_cloth (fun zs r h => by obtain ⟨d, rfl, _⟩ := h; rfl) fun f cdv A outer s H E hr => ⟨_, (pss_cons (ps_if (PW.pt (pw_or (pt_not (pt_val (pe_callB (call_isiK' K) (by rfl) B.isinstance (by decide +kernel) (pa_cons (pv 0) (pa_cons (pe_bltn (v := .ty "list") (by rfl) B.list (by decide +kernel) rfl) pa_nil))))) (pw_or1 (pt_not (pt_chain op_le op_le pe_int (pe_callB (call_lenK K) (by rfl) B.len (by decide +kernel) (pa_cons (pv 0) pa_nil)) (pe_most rfl B.most))))))
    (pss_one (ps_ret pe_bl))
    pss_nil)
    (pss_one (ps_ret (pe_and (pe_callB (cr_allK K rfl) (by rfl) B.all (by decide +kernel) (pa_cons (pe_lc (own := [("row", 1)]) (g := gName 1) (tt := tYes) rfl sc_is_cloth.nd (pi_listK K (pv 0)) (blkOk_by (N := N_is_cloth) (sc := defScope s_is_cloth) (by decide +kernel)) (fun _ _ _ _ _ => pg_name (i := 1) sc_is_cloth.nd rfl (Or.inl rfl)) (fun _ _ _ _ _ => pts_nil) (fun _ _ _ _ _ => (pe_calK K P w mg base C_is_row (hr.mono (by decide)) (by rfl) (pa_cons (pv 1) (pa_cons pe_int pa_nil))))) pa_nil)) (pe_one (pe_callB (cr_allK K rfl) (by rfl) B.all (by decide +kernel) (pa_cons (pe_lc (own := [("row", 1)]) (g := gName 1) (tt := tYes) rfl sc_is_cloth.nd (pi_listK K (pv 0)) (blkOk_by (N := N_is_cloth) (sc := defScope s_is_cloth) (by decide +kernel)) (fun _ _ _ _ _ => pg_name (i := 1) sc_is_cloth.nd rfl (Or.inl rfl)) (fun _ _ _ _ _ => pts_nil) (fun _ _ _ _ _ => (pe_cmpR (op_eqDK K hr.units) (pe_callB (call_lenK K) (by rfl) B.len (by decide +kernel) (pa_cons (pv 1) pa_nil)) (pe_callB (call_lenK K) (by rfl) B.len (by decide +kernel) (pa_cons (pe_ix (ix_seqK K) (pv 0) pe_int (fun _ _ => rfl)) pa_nil)) (nomark _)))) pa_nil))))))), ?_⟩
  rintro zs r ⟨d, rfl, rfl⟩
  refine .inl ?_
  cases hL : isI "list" d with
  | false =>
    rw [isCloth_no hL]
    exact r_seqR (r_if (b := true) (VT.eq (t_or (c := false) (t_not (t_B (v_isi (v_var rfl) kit_list))) fun q => by rw [hL] at q; cases q) (by rw [hL]; rfl)) (fun _ => r_ret (VD.toN v_bl rfl)) fun q => nomatch q)
  | true =>
    obtain ⟨ds, rfl⟩ := isI_list_inv hL
    by_cases hl : 1 ≤ ds.length ∧ ds.length ≤ 60
    · refine r_seq (ρ' := startR N_is_cloth [.d (.list ds)]) (r_if (b := false) (VT.eq (t_or (t_not (t_B (v_isi (v_var rfl) kit_list))) fun _ => t_not (t_test (v_chain v_int (v_lenL (v_var rfl)) fun _ => v_int))) ?_) (fun q => nomatch q) fun _ => r_next) ?_
      · rw [isI_list_list, decide_eq_true (by omega), decide_eq_true (by omega)]; rfl
      · refine r_ret (VD.toN (VE.eq (v_and (b := ds.all fun x => isRow x 1) (c := ds.all fun x => decide (lenD x = lenD (ds.headD .none))) ?_ fun hrow => ?_) ?_) rfl)
        · refine VE.eq (v_all (bs := ds.map fun x => isRow x 1) (VN.toD (VN.eq (n_lcD (fun _ => true) (fun x => .bool (isRow x 1)) (v_var rfl) (by omega) (by decide) (fun _ _ => t_yes) fun x hx _ => n_call (a_cons (v_var rfl) (a_cons v_int a_nil)) ⟨x, 1, rfl, rfl⟩) ?_))) ?_
          · rw [accs_yes]; show _ = PyData.list _; rw [List.map_map]; rfl
          · simp [List.all_map, Function.comp_def]
        · have hrows : ∀ x ∈ ds, isRow x 1 = true := by simpa using hrow
          obtain ⟨d0, dr, rfl⟩ : ∃ d0 dr, ds = d0 :: dr := by
            cases ds with
            | nil => simp at hl
            | cons a b => exact ⟨a, b, rfl⟩
          obtain ⟨e0, rfl, _⟩ := isRow_list (hrows d0 List.mem_cons_self)
          refine VE.eq (v_all (bs := (PyData.list e0 :: dr).map fun x => decide (lenD x = e0.length)) (VN.toD (VN.eq (n_lcD (fun _ => true) (fun x => .bool (decide (lenD x = e0.length))) (v_var rfl) (by omega) (by decide) (fun _ _ => t_yes) fun x hx _ => ?_) ?_))) ?_
          · obtain ⟨e1, rfl, _⟩ := isRow_list (hrows x hx)
            refine VD.toN (VE.eq (v_eqI (v_lenL (v_var rfl)) (v_lenL (v_ixL (v_var rfl) v_int (atI_nat (j := 0) rfl)))) ?_) rfl
            show Ent.d (.bool (decide ((e1.length : Int) = (e0.length : Int)))) = Ent.d (.bool (decide (e1.length = e0.length)))
            rw [decide_eq_decide.mpr (Int.ofNat_inj)]
          · rw [accs_yes]; show _ = PyData.list _; rw [List.map_map]; rfl
          · rw [List.all_map]; rfl
        · rw [isCloth_eq, decide_eq_true hl]; rfl
    · rw [show isCloth (.list ds) = false by rw [isCloth_eq, decide_eq_false hl]; rfl]
      refine r_seqR (r_if (b := true) (VT.eq (t_or (t_not (t_B (v_isi (v_var rfl) kit_list))) fun _ => t_not (t_test (v_chain v_int (v_lenL (v_var rfl)) fun _ => v_int))) ?_) (fun _ => r_ret (VD.toN v_bl rfl)) fun q => nomatch q)
      rw [isI_list_list]
      by_cases h1 : 1 ≤ ds.length
      · rw [decide_eq_false (show ¬ ((ds.length : Int) ≤ 60) by omega), Bool.and_false]; rfl
      · rw [decide_eq_false (show ¬ ((1 : Int) ≤ (ds.length : Int)) by omega)]; rfl

/-! is_draft -/
abbrev s_is_draft : Stmt := topS 11
abbrev N_is_draft : List Str := ["thing"]
theorem sc_is_draft : FnScope N_is_draft ["thing"] (defScope s_is_draft) := ⟨rfl, rfl, rfl, by decide +kernel, rfl, by decide +kernel, by decide +kernel⟩

def R_is_draft : List Ent → PyData → Prop := fun zs r => ∃ (d : PyData), zs = [.d d] ∧ r = .bool (isDraft d)
theorem c_is_draft (B : Blt mg) (C_is_cloth : Cal P w K mg base CX0 3 "is_cloth" ["thing"] (spR K R_is_cloth)) (C_is_row : Cal P w K mg base CX0 2 "is_row" ["thing", "most"] (spR K R_is_row)) (D_ : Dfn K mg "is_draft" s_is_draft ["thing"]) : Cal P w K mg base CX0 4 "is_draft" ["thing"] (spR K R_is_draft) := by
  refine cal_R D_ sc_is_draft (fun zs r h => by obtain ⟨d, rfl, _⟩ := h; rfl) fun f cdv A outer s H E hr => ⟨_, (pss_cons (ps_if (PW.pt (pw_or (pt_not (pt_val (pe_callB (call_isiK' K) (by rfl) B.isinstance (by decide +kernel) (pa_cons (pv 0) (pa_cons (pe_bltn (v := .ty "tuple") (by rfl) B.tuple (by decide +kernel) rfl) pa_nil))))) (pw_or (pt_cmpR (op_neDK K hr.units) (pe_callB (call_lenK K) (by rfl) B.len (by decide +kernel) (pa_cons (pv 0) pa_nil)) pe_int (nomark _)) (pw_or1 (pt_not (pt_val (pe_calK K P w mg base C_is_cloth (hr.mono (by decide)) (by rfl) (pa_cons (pe_ix (ix_seqK K) (pv 0) pe_int (fun _ _ => rfl)) pa_nil))))))))
    (pss_one (ps_ret pe_bl))
    pss_nil)
    (pss_one (ps_ret (pe_and (pe_calK K P w mg base C_is_row (hr.mono (by decide)) (by rfl) (pa_cons (pe_ix (ix_seqK K) (pv 0) pe_int (fun _ _ => rfl)) (pa_cons (pe_op op_sub (pe_callB (call_lenK K) (by rfl) B.len (by decide +kernel) (pa_cons (pe_ix (ix_seqK K) (pv 0) pe_int (fun _ _ => rfl)) pa_nil)) pe_int) pa_nil))) (pe_one (pe_calK K P w mg base C_is_row (hr.mono (by decide)) (by rfl) (pa_cons (pe_ix (ix_seqK K) (pv 0) pe_int (fun _ _ => rfl)) (pa_cons (pe_op op_sub (pe_callB (call_lenK K) (by rfl) B.len (by decide +kernel) (pa_cons (pe_ix (ix_seqK K) (pe_ix (ix_seqK K) (pv 0) pe_int (fun _ _ => rfl)) pe_int (fun _ _ => rfl)) pa_nil)) pe_int) pa_nil)))))))), ?_⟩
  rintro zs r ⟨d, rfl, rfl⟩
  refine .inl ?_
  cases hL : isI "tuple" d with
  | false =>
    rw [isDraft_no hL]
    exact r_seqR (r_if (b := true) (VT.eq (t_or (c := false) (t_not (t_B (v_isi (v_var rfl) kit_tuple))) fun q => by rw [hL] at q; cases q) (by rw [hL]; rfl)) (fun _ => r_ret (VD.toN v_bl rfl)) fun q => nomatch q)
  | true =>
    obtain ⟨ds, rfl⟩ := isI_tuple_inv hL
    by_cases h3 : ds.length = 3
    · obtain ⟨a, b, c, rfl⟩ : ∃ a b c, ds = [a, b, c] := by
        match ds, h3 with
        | [a, b, c], _ => exact ⟨a, b, c, rfl⟩
      have test : ∀ {E : XK}, VT K (tOr (tNot (tB (tCB (rIsi K) (tCons (tVar 0) (tCons (tC (.ty "tuple")) tNil))))) (tOr (tTest (tOp (rNeD K) (tCB (rLen K) (tCons (tVar 0) tNil)) (tC (.int 3)))) (tNot (tB (tCall (spR K R_is_cloth) [] E (tCons (tOp (rIx K) (tVar 0) (tC (.int 1))) tNil)))))) (startR N_is_draft [.d (.tuple [a, b, c])]) (!isCloth b) := fun {E} =>
        VT.eq (t_or (t_not (t_B (v_isi (v_var rfl) kit_tuple))) fun _ => t_or (t_test (v_neI (v_lenT (v_var rfl)) v_int)) fun _ => t_not (t_B (VN.toD (n_call (a_cons (v_ixT (v_var rfl) v_int rfl) a_nil) ⟨b, rfl, rfl⟩)))) (by rw [isI_tuple_tuple]; rfl)
      cases hc : isCloth b with
      | false =>
        rw [show isDraft (.tuple [a, b, c]) = false by rw [isDraft_eq, hc]; rfl]
        exact r_seqR (r_if (b := true) (VT.eq test (by rw [hc]; rfl)) (fun _ => r_ret (VD.toN v_bl rfl)) fun q => nomatch q)
      | true =>
        refine r_seq (r_if (b := false) (VT.eq test (by rw [hc]; rfl)) (fun q => nomatch q) fun _ => r_next) ?_
        obtain ⟨e0, dr, rfl⟩ := isCloth_cons hc
        refine r_ret (VD.toN (VE.eq (v_and (VN.toD (n_call (d := .bool (isRow a (((PyData.list e0 :: dr).length : Int) - 1))) (a_cons (v_ixT (v_var rfl) v_int rfl) (a_cons (v_sub (v_lenL (v_ixT (v_var rfl) v_int rfl)) v_int) a_nil)) ⟨a, _, rfl, rfl⟩)) fun _ => VN.toD (n_call (d := .bool (isRow c ((e0.length : Int) - 1))) (a_cons (v_ixT (v_var rfl) v_int rfl) (a_cons (v_sub (v_lenL (v_ixL (v_ixT (v_var rfl) v_int rfl) v_int (atI_nat (j := 0) rfl))) v_int) a_nil)) ⟨c, _, rfl, rfl⟩)) ?_) rfl)
        rw [isDraft_eq, hc]
        rfl
    · rw [isDraft_len h3]
      refine r_seqR (r_if (b := true) (VT.eq (t_or (t_not (t_B (v_isi (v_var rfl) kit_tuple))) fun _ => t_or (c := false) (t_test (v_neI (v_lenT (v_var rfl)) v_int)) fun q => ?_) ?_) (fun _ => r_ret (VD.toN v_bl rfl)) fun q => nomatch q)
      · rw [decide_eq_false (by omega)] at q; cases q
      · rw [decide_eq_false (by omega)]; simp

/-! need_draft -/
abbrev s_need_draft : Stmt := topS 12
abbrev N_need_draft : List Str := ["thing"]
theorem sc_need_draft : FnScope N_need_draft ["thing"] (defScope s_need_draft) := ⟨rfl, rfl, rfl, by decide +kernel, rfl, by decide +kernel, by decide +kernel⟩

def R_need_draft : List Ent → PyData → Prop := fun zs r => ∃ (d : PyData), zs = [.d d] ∧ isDraft d = true ∧ r = .none
theorem c_need_draft (B : Blt mg) (C_is_draft : Cal P w K mg base CX0 4 "is_draft" ["thing"] (spR K R_is_draft)) (D_ : Dfn K mg "need_draft" s_need_draft ["thing"]) : Cal P w K mg base CX0 5 "need_draft" ["thing"] (spR K R_need_draft) := by
  refine cal_R D_ sc_need_draft (fun zs r h => by obtain ⟨d, rfl, _⟩ := h; rfl) fun f cdv A outer s H E hr => ⟨_, (pss_one (ps_if (pt_not (pt_val (pe_calK K P w mg base C_is_draft (hr.mono (by decide)) (by rfl) (pa_cons (pv 0) pa_nil))))
    (pss_one ps_never)
    pss_nil)), ?_⟩
  rintro zs r ⟨d, rfl, hd, rfl⟩
  exact .inr ⟨rfl, _, r_if (b := false) (VT.eq (t_not (t_B (VN.toD (n_call (a_cons (v_var rfl) a_nil) ⟨d, rfl, rfl⟩)))) (by rw [hd]; rfl)) (fun q => nomatch q) fun _ => r_next⟩

/-! need_fit -/
abbrev s_need_fit : Stmt := topS 14
abbrev N_need_fit : List Str := ["good"]
theorem sc_need_fit : FnScope N_need_fit ["good"] (defScope s_need_fit) := ⟨rfl, rfl, rfl, by decide +kernel, rfl, by decide +kernel, by decide +kernel⟩

def R_need_fit : List Ent → PyData → Prop := fun zs r => zs = [.d (.bool true)] ∧ r = .none
def S_need_fit (C : Addr) : List Ent → Addr → Prop := fun zs D => zs = [.d (.bool false)] ∧ D = C
theorem c_need_fit (B : Blt mg) {aL aX y1 y2 y3 : Addr} (X_ : FitX K mg "NoFit" "NoCloth" "NoDraft" "NoNote" aL aX y1 y2 y3) (D_ : Dfn K mg "need_fit" s_need_fit ["good"]) : Cal P w K mg base (L2N.CX P w) 1 "need_fit" ["good"] (spX K R_need_fit (S_need_fit aX)) := by
  refine cal_spX D_ sc_need_fit (fun vs H Q E h => ?_) (fun f cdv A outer s H vs Q E hr h => ⟨_, (pss_one (ps_if (pt_not (pt_val (pv 0)))
    (pss_one (L2N.ps_raise rfl (L2N.takes_of rfl rfl rfl rfl) (L2N.pmk_own PySem.F.excBase_ValueError X_.ex X_.g X_.kp (raises_own X_.sb X_.ty) rfl)))
    pss_nil)), ?_⟩)
  · obtain ⟨zs, r1, h⟩ := h
    rcases h with ⟨r, ⟨rfl, _⟩, _⟩ | ⟨D, ⟨rfl, _⟩, _⟩ <;> exact r1.len
  · obtain ⟨zs, r1, h⟩ := h
    rcases h with ⟨r, ⟨rfl, rfl⟩, k⟩ | ⟨D, ⟨rfl, rfl⟩, k⟩
    · exact s_ifF (t_not (t_B (b := true) (v_var rfl))) rfl (Env.start r1) fun H' e => k .non H' e ⟨[], .non, fun _ z => nomatch z⟩
    · exact (t_not (t_B (b := false) (v_var rfl))) _ _ (Env.start r1) _ fun H' e => k H' e

/-! draft_beside -/
abbrev s_draft_beside : Stmt := topS 15
abbrev N_draft_beside : List Str := ["one", "other", "pairs", "treadling", "at", "pair", "ties", "row", "shaft"]
theorem sc_draft_beside : FnScope N_draft_beside ["one", "other"] (defScope s_draft_beside) := ⟨rfl, rfl, rfl, by decide +kernel, rfl, by decide +kernel, by decide +kernel⟩

def R_draft_beside : List Ent → PyData → Prop := fun zs r => ∃ d e : Dr, zs = [.d (enc d), .d (enc e)] ∧ GoodD d ∧ GoodD e ∧ (fits0 d e && fits1 d e) = true ∧ r = enc (besideD d e)
def S_draft_beside (C : Addr) : List Ent → Addr → Prop := fun zs D => ∃ d e : Dr, zs = [.d (enc d), .d (enc e)] ∧ GoodD d ∧ GoodD e ∧ (fits0 d e && fits1 d e) = false ∧ D = C
theorem c_draft_beside (B : Blt mg) {aL aX y1 y2 y3 : Addr} (X_ : FitX K mg "NoFit" "NoCloth" "NoDraft" "NoNote" aL aX y1 y2 y3) (C_need_draft : Cal P w K mg base CX0 5 "need_draft" ["thing"] (spR K R_need_draft)) (C_need_fit : Cal P w K mg base (L2N.CX P w) 1 "need_fit" ["good"] (spX K R_need_fit (S_need_fit aX))) (D_ : Dfn K mg "draft_beside" s_draft_beside ["one", "other"]) : Cal P w K mg base (L2N.CX P w) 6 "draft_beside" ["one", "other"] (spX K R_draft_beside (S_draft_beside aX)) := by
  refine cal_spX D_ sc_draft_beside (fun vs H Q E h => ?_) (fun f cdv A outer s H vs Q E hr h => ⟨_, (pss_cons (ps_expr (pe_calK K P w mg base C_need_draft (hr.mono (by decide)) (by rfl) (pa_cons (pv 0) pa_nil)))
    (pss_cons (ps_expr (pe_calK K P w mg base C_need_draft (hr.mono (by decide)) (by rfl) (pa_cons (pv 1) pa_nil)))
    (pss_cons (ps_expr (pe_calX P w mg base C_need_fit (hr.mono (by decide)) (L2N.takes_of rfl rfl rfl rfl) (by rfl) (pa_cons (pe_and (pe_cmpR (op_eqDK K hr.units) (pe_callB (call_lenK K) (by rfl) B.len (by decide +kernel) (pa_cons (pe_ix (ix_seqK K) (pv 0) pe_int (fun _ _ => rfl)) pa_nil)) (pe_callB (call_lenK K) (by rfl) B.len (by decide +kernel) (pa_cons (pe_ix (ix_seqK K) (pv 1) pe_int (fun _ _ => rfl)) pa_nil)) (nomark _)) (pe_one (pe_cmpR op_le (pe_op op_add (pe_callB (call_lenK K) (by rfl) B.len (by decide +kernel) (pa_cons (pe_ix (ix_seqK K) (pv 0) pe_int (fun _ _ => rfl)) pa_nil)) (pe_callB (call_lenK K) (by rfl) B.len (by decide +kernel) (pa_cons (pe_ix (ix_seqK K) (pv 1) pe_int (fun _ _ => rfl)) pa_nil))) (pe_most rfl B.most) (nomark _)))) pa_nil)))
    (pss_cons (ps_set (i := 2) sc_draft_beside.nd rfl (.inr rfl) (pe_lst pa_nil))
    (pss_cons (ps_set (i := 3) sc_draft_beside.nd rfl (.inl rfl) (pe_lst pa_nil))
    (pss_cons (ps_for (passes_of rfl) rfl (pi_range1 (by rfl) B.range (pa_cons (pe_callB (call_lenK K) (by rfl) B.len (by decide +kernel) (pa_cons (pe_ix (ix_seqK K) (pv 0) pe_int (fun _ _ => rfl)) pa_nil)) pa_nil)) (pg_name (i := 4) sc_draft_beside.nd rfl (.inl rfl))
    (pss_cons (ps_set (i := 5) sc_draft_beside.nd rfl (.inl rfl) (pe_tup (pa_cons (pe_ix (ix_seqK K) (pe_ix (ix_seqK K) (pv 0) pe_int (fun _ _ => rfl)) (pv 4) (fun _ _ => rfl)) (pa_cons (pe_ix (ix_seqK K) (pe_ix (ix_seqK K) (pv 1) pe_int (fun _ _ => rfl)) (pv 4) (fun _ _ => rfl)) pa_nil))))
    (pss_cons (ps_if (pt_cmpR (op_niDK K (hu65 hr)) (pv 5) (pv 2) (by rfl))
    (pss_one (ps_expr (pe_bmK K PySem.F.plainAttrs_list PySem.F.slot_list_append PySem.F.type_list_append mt_append (pv 2) (pa_cons (pv 5) pa_nil))))
    pss_nil)
    (pss_one (ps_expr (pe_bmK K PySem.F.plainAttrs_list PySem.F.slot_list_append PySem.F.type_list_append mt_append (pv 3) (pa_cons (pe_bmK K PySem.F.plainAttrs_list PySem.F.slot_list_index PySem.F.type_list_index (mt_indexDK K (hu65 hr)) (pv 2) (pa_cons (pv 5) pa_nil)) pa_nil)))))))
    (pss_cons (ps_expr (pe_calX P w mg base C_need_fit (hr.mono (by decide)) (L2N.takes_of rfl rfl rfl rfl) (by rfl) (pa_cons (pe_and (pe_cmpR op_le (pe_callB (call_lenK K) (by rfl) B.len (by decide +kernel) (pa_cons (pv 2) pa_nil)) (pe_most rfl B.most) (nomark _)) (pe_one (pe_cmpR op_le (pe_op op_add (pe_callB (call_lenK K) (by rfl) B.len (by decide +kernel) (pa_cons (pe_ix (ix_seqK K) (pv 0) pe_int (fun _ _ => rfl)) pa_nil)) (pe_callB (call_lenK K) (by rfl) B.len (by decide +kernel) (pa_cons (pe_ix (ix_seqK K) (pv 1) pe_int (fun _ _ => rfl)) pa_nil))) (pe_most rfl B.most) (nomark _)))) pa_nil)))
    (pss_cons (ps_setLc (i := 6) (own := [("row", 7)]) (g := gName 7) (tt := tYes) rfl sc_draft_beside.nd rfl rfl (sw_true rfl rfl rfl (by decide +kernel)) (pi_listK K (pe_ix (ix_seqK K) (pv 0) pe_int (fun _ _ => rfl))) (blkOk_by (N := N_draft_beside) (sc := defScope s_draft_beside) (by decide +kernel)) (fun _ _ _ _ _ => pg_name (i := 7) sc_draft_beside.nd rfl (Or.inr rfl)) (fun _ _ _ _ _ => pts_nil) (fun _ _ _ _ _ => (pe_lc (own := [("pair", 5)]) (g := gName 5) (tt := tYes) rfl sc_draft_beside.nd (pi_listK K (pv 2)) (blkOk_by (N := N_draft_beside) (sc := relS ({ kind := PySem.ScopeKind.function, names := [ (PySem.Str.ofString ".0", PySem.NameKind.local), (PySem.Str.ofString "row", PySem.NameKind.cell), (PySem.Str.ofString "pairs", PySem.NameKind.free)], isGenerator := false, isCoroutine := false, more := [] : PySem.Scope }) (defScope s_draft_beside)) (by decide +kernel)) (fun _ _ _ _ _ => pg_name (i := 5) sc_draft_beside.nd rfl (Or.inl rfl)) (fun _ _ _ _ _ => pts_nil) (fun _ _ _ _ _ => (pe_ix (ix_seqK K) (pv 7) (pe_ix (ix_seqK K) (pv 5) pe_int (fun _ _ => rfl)) (fun _ _ => rfl))))))
    (pss_cons (ps_set (i := 6) sc_draft_beside.nd rfl (.inl rfl) (pe_op op_cat (pv 6) (pe_lc (own := [("row", 7)]) (g := gName 7) (tt := tYes) rfl sc_draft_beside.nd (pi_listK K (pe_ix (ix_seqK K) (pv 1) pe_int (fun _ _ => rfl))) (blkOk_by (N := N_draft_beside) (sc := defScope s_draft_beside) (by decide +kernel)) (fun _ _ _ _ _ => pg_name (i := 7) sc_draft_beside.nd rfl (Or.inr rfl)) (fun _ _ _ _ _ => pts_nil) (fun _ _ _ _ _ => (pe_lc (own := [("pair", 5)]) (g := gName 5) (tt := tYes) rfl sc_draft_beside.nd (pi_listK K (pv 2)) (blkOk_by (N := N_draft_beside) (sc := relS ({ kind := PySem.ScopeKind.function, names := [ (PySem.Str.ofString ".0", PySem.NameKind.local), (PySem.Str.ofString "row", PySem.NameKind.cell), (PySem.Str.ofString "pairs", PySem.NameKind.free)], isGenerator := false, isCoroutine := false, more := [] : PySem.Scope }) (defScope s_draft_beside)) (by decide +kernel)) (fun _ _ _ _ _ => pg_name (i := 5) sc_draft_beside.nd rfl (Or.inl rfl)) (fun _ _ _ _ _ => pts_nil) (fun _ _ _ _ _ => (pe_ix (ix_seqK K) (pv 7) (pe_ix (ix_seqK K) (pv 5) pe_int (fun _ _ => rfl)) (fun _ _ => rfl))))))))
    (pss_one (ps_ret (pe_tup (pa_cons (pe_op op_cat (pe_ix (ix_seqK K) (pv 0) pe_int (fun _ _ => rfl)) (pe_lc (own := [("shaft", 8)]) (g := gName 8) (tt := tYes) rfl sc_draft_beside.nd (pi_listK K (pe_ix (ix_seqK K) (pv 1) pe_int (fun _ _ => rfl))) (blkOk_by (N := N_draft_beside) (sc := defScope s_draft_beside) (by decide +kernel)) (fun _ _ _ _ _ => pg_name (i := 8) sc_draft_beside.nd rfl (Or.inl rfl)) (fun _ _ _ _ _ => pts_nil) (fun _ _ _ _ _ => (pe_op op_add (pv 8) (pe_callB (call_lenK K) (by rfl) B.len (by decide +kernel) (pa_cons (pe_ix (ix_seqK K) (pv 0) pe_int (fun _ _ => rfl)) pa_nil)))))) (pa_cons (pv 6) (pa_cons (pv 3) pa_nil))))))))))))))), ?_⟩)
  · obtain ⟨zs, r1, h⟩ := h
    rcases h with ⟨r, ⟨a, b, rfl, _⟩, _⟩ | ⟨D, ⟨a, b, rfl, _⟩, _⟩ <;> exact r1.len
  · obtain ⟨zs, r1, h⟩ := h
    have ⟨d, e, ez, gd, ge, hh⟩ : ∃ d e : Dr, zs = [.d (enc d), .d (enc e)] ∧ GoodD d ∧ GoodD e ∧ (((fits0 d e && fits1 d e) = true ∧ ∀ v H', Ex H H' → New H H' v (enc (besideD d e)) → Q v H') ∨ ((fits0 d e && fits1 d e) = false ∧ ∀ H', Ex H H' → E (.ref aX) none H')) := by
      rcases h with ⟨r, ⟨d, e, q1, g1, g2, g3, rfl⟩, q⟩ | ⟨D, ⟨d, e, q1, g1, g2, g3, rfl⟩, q⟩
      · exact ⟨d, e, q1, g1, g2, .inl ⟨g3, q⟩⟩
      · exact ⟨d, e, q1, g1, g2, .inr ⟨g3, q⟩⟩
    clear h
    have raises : ∀ H', Ex H H' → (fits0 d e && fits1 d e) = false → E (.ref aX) none H' := fun H' ex hf => by
      rcases hh with ⟨g, _⟩ | ⟨_, q⟩
      · rw [hf] at g; cases g
      · exact q H' ex
    have answers : ∀ v H', Ex H H' → New H H' v (enc (besideD d e)) → (fits0 d e && fits1 d e) = true → Q v H' := fun v H' ex w hf => by
      rcases hh with ⟨_, q⟩ | ⟨g, _⟩
      · exact q v H' ex w
      · rw [hf] at g; cases g
    clear hh
    subst ez
    have n0 := Env.start (N := N_draft_beside) r1
    have d1 := gd.ti.len
    have d2 := gd.tr
    have d3 := gd.th
    have d4 := gd.ti.wide
    have e1' := ge.ti.len
    have e2' := ge.tr
    have e3' := ge.th
    have e4' := ge.ti.wide
    refine q_callN (n_call (a_cons (v_var rfl) a_nil) ⟨enc d, rfl, gd.is, rfl⟩) n0 fun H1 e1 => ?_
    refine q_callN (n_call (a_cons (v_var rfl) a_nil) ⟨enc e, rfl, ge.is, rfl⟩) (n0.mono e1) fun H2 e2 => ?_
    have n2 := (n0.mono e1).mono e2
    refine q_callX (zs := [.d (.bool (fits0 d e))]) (a_cons (v_and (v_eqI (v_len (xs := d.tr) (v_tr (d := d) (v_var rfl))) (v_len (xs := e.tr) (v_tr (d := e) (v_var rfl)))) fun _ => v_le (v_add (v_len (xs := d.th) (v_th (d := d) (v_var rfl))) (v_len (xs := e.th) (v_th (d := e) (v_var rfl)))) v_int) a_nil) n2 ?_
    cases h0 : fits0 d e with
    | false => exact .inr ⟨_, ⟨rfl, rfl⟩, fun H3 e3 => raises H3 (e1.trans (e2.trans e3)) (by rw [h0]; rfl)⟩
    | true =>
      refine .inl ⟨.none, ⟨rfl, rfl⟩, fun H3 e3 => ?_⟩
      obtain ⟨p1, p2, p3⟩ := pairs_len h0
      have E3 : Ex H H3 := e1.trans (e2.trans e3)
      have n3 := n2.mono e3
      have l0 : (start N_draft_beside vs).length = 9 := n0.1
      refine q_empty fun pp hpp gpp => ?_
      refine q_empty fun pt hpt gpt => ?_
      have e5 := (Ex.new (o := .lst []) hpp).trans (Ex.new (o := .lst []) hpt)
      have ne : pp ≠ pt := ne_of_none upd_same hpt
      have ptH : H3 pt = none := fresh_back (Ex.new (o := .lst []) hpp) hpt
      have s2 : (((start N_draft_beside vs).set 2 (some (V.ref pp))).set 3 (some (V.ref pt)))[2]? = some (some (.ref pp)) := by rw [List.getElem?_set_ne (by decide)]; exact List.getElem?_set_self (by omega)
      have s3 : (((start N_draft_beside vs).set 2 (some (V.ref pp))).set 3 (some (V.ref pt)))[3]? = some (some (.ref pt)) := List.getElem?_set_self (by rw [List.length_set]; omega)
      have n5 : Env K H3 (((start N_draft_beside vs).set 2 (some (V.ref pp))).set 3 (some (V.ref pt))) [some (.d (enc d)), some (.d (enc e)), none, none, none, none, none, none, none] := ((n3.drop 2).drop 3).only rfl fun x z h => by
        rcases x with _ | _ | _ | _ | _ | _ | _ | _ | _ | x <;> first | exact h | cases h
      generalize (((start N_draft_beside vs).set 2 (some (V.ref pp))).set 3 (some (V.ref pt))) = σ5 at s2 s3 n5 ⊢
      have l5 : σ5.length = 9 := n5.1
      refine (v_len (xs := d.tr) (v_tr (d := d) (v_var rfl))) _ _ (n5.mono e5) _ fun v6 H6 e6 r6 => ?_
      cases Tp.int_inv r6
      refine ⟨(d.tr.length : Int), rfl, by omega, by omega, ?_⟩
      refine for_range (lo := 0) (n := (d.tr.length : Int).toNat) (fun k σ' H' => Buts [4, 5] σ5 σ' ∧ Ex H3 H' ∧ TL H' pp (firsts ((pairsOf d e).take k)) ∧ H' pt = some (.lst (((List.range k).map fun i => ((numK (pairsOf d e) i : Nat) : Int)).map V.int))) ⟨Buts.refl _ σ5, e5.trans e6, ⟨[], e6 _ _ (by rw [upd_ne ne]; exact upd_same), ⟨rfl, fun i t q h1 h2 => by cases h1⟩⟩, e6 _ _ upd_same⟩ (fun k σ' H' hk pv => ?_) (fun σ8 H8 pv => ?_)
      · obtain ⟨bt, ex, tl, t3⟩ := pv
        have hk2 : k < d.tr.length := by rw [Int.toNat_natCast] at hk; exact hk
        have l6 : σ'.length = 9 := by rw [bt.len]; exact l5
        rw [show (0 : Int) + (k : Int) = (k : Int) from Int.zero_add _]
        have n6 : Env K H' (σ'.set 4 (some (.int (k : Int)))) [some (.d (enc d)), some (.d (enc e)), none, none, some (.d (.int (k : Int))), none, none, none, none] := ((bt.env (n5.mono ex)).set 4 (z := .d (.int (k : Int))) (.int _)).only rfl fun x z h => by
          rcases x with _ | _ | _ | _ | _ | _ | _ | _ | _ | x <;> first | exact h | cases h
        have hq := pairs_at h0 hk2
        refine q_setV (z := .d (.tuple [.int (d.tr.getD k default), .int (e.tr.getD k default)])) (v_tup (ds := [.int (d.tr.getD k default), .int (e.tr.getD k default)]) (a_cons (VE.eq (v_ix (xs := d.tr) (v_tr (d := d) (v_var rfl)) (v_var rfl) (by omega) (by omega)) (by rw [Int.toNat_natCast]; rfl)) (a_cons (VE.eq (v_ix (xs := e.tr) (v_tr (d := e) (v_var rfl)) (v_var rfl) (by omega) (by omega)) (by rw [Int.toNat_natCast]; rfl)) a_nil)) (by simp)) n6 fun v5 H7 e7 r7 n7 => ?_
        obtain ⟨t, xs, rfl, ht, tA⟩ := Tp.tup_inv r7
        have b7 : Buts [4, 5] σ5 ((σ'.set 4 (some (V.int (k : Int)))).set 5 (some (V.ref t))) := (bt.set _ (by decide)).set _ (by decide)
        have s4 : ((σ'.set 4 (some (V.int (k : Int)))).set 5 (some (V.ref t)))[4]? = some (some (.int (k : Int))) := by rw [List.getElem?_set_ne (by decide)]; exact List.getElem?_set_self (by omega)
        have s5 : ((σ'.set 4 (some (V.int (k : Int)))).set 5 (some (V.ref t)))[5]? = some (some (.ref t)) := List.getElem?_set_self (by rw [List.length_set]; omega)
        generalize ((σ'.set 4 (some (V.int (k : Int)))).set 5 (some (V.ref t))) = σ7 at b7 s4 s5
        have exB : ∀ H2, ExB pp pt H7 H2 → Ex H3 H2 := fun H2 xb x o hx => xb x o (fun q => by rw [q, hpp] at hx; cases hx) (fun q => by rw [q, ptH] at hx; cases hx) (e7 _ _ (ex _ _ hx))
        have hl := firsts_lenK (pairsOf d e) k (by omega)
        obtain ⟨tsP, hP, _⟩ := id (tl.mono e7)
        have hT := e7 _ _ t3
        refine s_pairTurn (i := 2) (j := 3) (q := (d.tr.getD k default, e.tr.getD k default)) (fun acc => [some (.d (enc d)), some (.d (enc e)), some (.d (enc acc)), none, some (.d (.int (k : Int))), some (.d (enc ((d.tr.getD k default, e.tr.getD k default) : Int × Int))), none, none, none]) (fun acc => v_var rfl) (fun acc => v_var rfl) (by rw [b7.at_ 2 (by decide)]; exact s2) (by rw [b7.at_ 3 (by decide)]; exact s3) ne (fun H2 acc' xb tl2 => ?_) (tl.mono e7) hT ⟨by omega, by rw [List.length_map, List.length_range]; omega⟩ fun H2 xb tl2 t32 => ⟨b7, exB H2 xb, ?_, ?_⟩
        · have ht2 : H2 t = some (.tup xs) := xb t _ (fun q => by rw [q, hP] at ht; cases ht) (fun q => by rw [q, hT] at ht; cases ht) ht
          cases tA with
          | cons r1 tA =>
            cases tA with
            | cons r2 tA =>
              cases tA
              cases Tp.int_inv r1
              cases Tp.int_inv r2
              exact ((((b7.env (n5.mono (exB H2 xb))).add 2 (z := .d (enc acc')) (by rw [b7.at_ 2 (by decide)]; exact s2) tl2.tp).add 4 (z := .d (.int (k : Int))) s4 (.int _)).add 5 (z := .d (enc ((d.tr.getD k default, e.tr.getD k default) : Int × Int))) s5 (.tup ht2 (.cons (.int _) (.cons (.int _) .nil)))).only rfl fun x z h => by
                rcases x with _ | _ | _ | _ | _ | _ | _ | _ | _ | x <;> first | exact h | cases h
        · have hn := firsts_next (xs := pairsOf d e) (k := k) (by omega)
          rw [← hq] at tl2
          by_cases hm : (pairsOf d e).getD k default ∈ firsts ((pairsOf d e).take k)
          · rw [if_pos hm] at tl2 hn
            rw [hn]; exact tl2
          · rw [if_neg hm] at tl2 hn
            rw [hn]; exact tl2
        · have hn := firsts_next (xs := pairsOf d e) (k := k) (by omega)
          rw [← hq] at t32
          rw [List.range_succ, List.map_append]
          have hk3 : numK (pairsOf d e) k = idxD (firsts ((pairsOf d e).take (k + 1))) ((pairsOf d e).getD k default) := rfl
          by_cases hm : (pairsOf d e).getD k default ∈ firsts ((pairsOf d e).take k)
          · rw [if_pos hm] at t32 hn
            rw [hn] at hk3
            rw [List.map_singleton, hk3]; exact t32
          · rw [if_neg hm] at t32 hn
            rw [hn] at hk3
            rw [List.map_singleton, hk3]; exact t32
      · obtain ⟨bt, ex, tl, t3⟩ := pv
        rw [Int.toNat_natCast, ← p1] at tl t3
        rw [List.take_length] at tl
        have l8 : σ8.length = 9 := by rw [bt.len]; exact l5
        have n8 : Env K H8 σ8 [some (.d (enc d)), some (.d (enc e)), some (.d (enc (firsts (pairsOf d e)))), none, none, none, none, none, none] := ((bt.env (n5.mono ex)).add 2 (z := .d (enc (firsts (pairsOf d e)))) (by rw [bt.at_ 2 (by decide)]; exact s2) tl.tp).only rfl fun x z h => by
          rcases x with _ | _ | _ | _ | _ | _ | _ | _ | _ | x <;> first | exact h | cases h
        have fl := firsts_le h0
        refine q_callX (zs := [.d (.bool (decide (((firsts (pairsOf d e)).length : Int) ≤ 60) && fits1 d e))]) (a_cons (v_and (v_le (v_len (xs := firsts (pairsOf d e)) (v_var rfl)) v_int) fun _ => v_le (v_add (v_len (xs := d.ti) (v_ti (d := d) (v_var rfl))) (v_len (xs := e.ti) (v_ti (d := e) (v_var rfl)))) v_int) a_nil) n8 ?_
        cases h1 : fits1 d e with
        | false => exact .inr ⟨_, ⟨by rw [Bool.and_false], rfl⟩, fun H9 e9 => raises H9 (E3.trans (ex.trans e9)) (by rw [h0, h1]; rfl)⟩
        | true =>
          refine .inl ⟨.none, ⟨by rw [decide_eq_true (show ((firsts (pairsOf d e)).length : Int) ≤ 60 by omega)]; rfl, rfl⟩, fun H9 e9 => ?_⟩
          have q1 : d.ti.length + e.ti.length ≤ 60 := by
            unfold fits1 at h1
            simp only [decide_eq_true_eq] at h1
            omega
          have n9 := n8.mono e9
          have t9 := e9 _ _ t3
          refine q_setN (d := enc (d.ti.map fun row => (firsts (pairsOf d e)).map fun p => row.getD p.1.toNat default)) (n_lc (xs := d.ti) (fun row : List Int => (firsts (pairsOf d e)).map fun p => row.getD p.1.toNat default) (v_ti (d := d) (v_var rfl)) (by omega) (by decide) fun row hrow => n_lc (xs := firsts (pairsOf d e)) (fun p : Int × Int => row.getD p.1.toNat default) (v_var rfl) (by omega) (by decide) fun p hp => VD.toN (v_ix (xs := row) (i := p.1) (v_var rfl) (v_ixT (ds := [.int p.1, .int p.2]) (v_var rfl) v_int rfl) (by have := gd.tl p.1 (firsts_sub hp).1; omega) (by have := gd.tl p.1 (firsts_sub hp).1; have := gd.ti.rows row hrow; omega)) rfl) n9 fun v10 H10 e10 w10 n10 => ?_
          refine q_catOwn (H0 := H9) (ds := (d.ti.map fun row => (firsts (pairsOf d e)).map fun p => row.getD p.1.toNat default).map enc) (es := (e.ti.map fun row => (firsts (pairsOf d e)).map fun p => row.getD p.2.toNat default).map enc) (List.getElem?_set_self (by omega)) w10 e10 n10 (n_lc (xs := e.ti) (fun row : List Int => (firsts (pairsOf d e)).map fun p => row.getD p.2.toNat default) (v_ti (d := e) (v_var rfl)) (by omega) (by decide) fun row hrow => n_lc (xs := firsts (pairsOf d e)) (fun p : Int × Int => row.getD p.2.toNat default) (v_var rfl) (by omega) (by decide) fun p hp => VD.toN (v_ix (xs := row) (i := p.2) (v_var rfl) (v_ixT (ds := [.int p.1, .int p.2]) (v_var rfl) v_int rfl) (by have := ge.tl p.2 (firsts_sub hp).2; omega) (by have := ge.tl p.2 (firsts_sub hp).2; have := ge.ti.rows row hrow; omega)) rfl) (by simp only [List.length_map]; omega) fun v11 H11 e11 w11 => ?_
          obtain ⟨F11, o11, f11⟩ := w11
          have E9 : Ex H H9 := E3.trans (ex.trans e9)
          have n11 := (n9.mono (e10.trans e11)).drop 6 (x := some v11)
          refine s_ret_nvv (H0 := H) (j := 6) (l := 3) (F := F11) (G := [pt]) (b := enc (besideD d e).ti) (c := enc (besideD d e).tr) (a := enc (besideD d e).th) (List.getElem?_set_self (by simp [l8])) (by rw [List.getElem?_set_ne (by decide), List.getElem?_set_ne (by decide), bt.at_ 3 (by decide)]; exact s3) (by rw [← List.map_append] at o11; exact o11) (own_intsAt (row := (besideD d e).tr) ((e10.trans e11) _ _ t9)) (fun x hx => fresh_back E9 (f11 x hx)) (fun x hx => by rw [List.mem_singleton.mp hx]; exact fresh_back E3 ptH) (fun x hx hm => ?_) (E9.trans (e10.trans e11)) (ρ := [some (.d (enc d)), some (.d (enc e)), none, none, none, none, none, none, none]) ?_ (n_catI (ns := d.th) (ms := e.th.map fun s => s + (d.ti.length : Int)) (v_th (d := d) (v_var rfl)) (VN.toD (n_lc (xs := e.th) (fun s : Int => s + (d.ti.length : Int)) (v_th (d := e) (v_var rfl)) (by omega) (by decide) fun s hs => VD.toN (v_add (v_var rfl) (v_len (xs := d.ti) (v_ti (d := d) (v_var rfl)))) rfl)) (by rw [List.length_map]; omega)) fun v H12 e12 w => answers v H12 ((E9.trans (e10.trans e11)).trans e12) w (by rw [h0, h1]; rfl)
          · have := f11 x hx
            rw [List.mem_singleton.mp hm, t9] at this
            cases this
          · have z1 : (σ8.set 6 (some v10)).set 6 (some v11) = σ8.set 6 (some v11) := by rw [List.set_set]
            rw [z1]
            exact n11.only rfl fun x z h => by rcases x with _ | _ | _ | _ | _ | _ | _ | _ | _ | x <;> first | exact h | cases h

/-! _law_cell_at -/
abbrev s__law_cell_at : Stmt := topS 17
abbrev N__law_cell_at : List Str := ["_law_script", "_law_k"]
theorem sc__law_cell_at : FnScope N__law_cell_at ["_law_script", "_law_k"] (defScope s__law_cell_at) := ⟨rfl, rfl, rfl, by decide +kernel, rfl, by decide +kernel, by decide +kernel⟩

def R__law_cell_at : List Ent → PyData → Prop := fun zs r => ∃ (ns : List Int) (k : Nat), zs = [.scr ns, .d (.int (k : Int))] ∧ r = .int (cellAt ns k)
theorem c__law_cell_at (B : Blt mg) (D_ : Dfn K mg "_law_cell_at" s__law_cell_at ["_law_script", "_law_k"]) : Cal P w K mg base CX0 1 "_law_cell_at" ["_law_script", "_law_k"] (spR K R__law_cell_at) := by
  refine cal_R D_ sc__law_cell_at (fun zs r h => by obtain ⟨ns, k, rfl, _⟩ := h; rfl) fun f cdv A outer s H E hr => ⟨_, (pss_cons (ps_if (pt_cmpR op_lt (pv 1) (pe_callB (call_lenK K) (by rfl) B.len (by decide +kernel) (pa_cons (pv 0) pa_nil)) (nomark _))
    (pss_one (ps_ret (pe_ix (ix_seqK K) (pv 0) (pv 1) (fun _ _ => rfl))))
    pss_nil)
    (pss_one (ps_ret pe_int))), ?_⟩
  rintro zs r ⟨ns, k, rfl, rfl⟩
  refine .inl ?_
  by_cases h : k < ns.length
  · exact r_seqR (r_if (b := true) (VT.eq (t_test (v_lt (v_var rfl) (v_lenScr (v_var rfl)))) (decide_eq_true (by omega))) (fun _ => r_ret (VD.toN (VE.eq (v_ixScr (v_var rfl) (v_var rfl) (by omega) (by omega)) (by rw [Int.toNat_natCast]; rfl)) rfl)) fun q => nomatch q)
  · refine r_seq (r_if (b := false) (VT.eq (t_test (v_lt (v_var rfl) (v_lenScr (v_var rfl)))) (decide_eq_false (by omega))) (fun q => nomatch q) fun _ => r_next) (r_ret (VD.toN (VE.eq v_int ?_) rfl))
    unfold cellAt
    rw [List.getD_eq_getElem?_getD, List.getElem?_eq_none (by omega)]
    rfl
theorem v_cell {ρ : Rho} {ta tb : TE} {E : XK} {ns : List Int} {i : Int} (j : Nat) (ha : VE K ta ρ (.scr ns)) (hb : VD K tb ρ (.int i)) (e : i = (j : Int)) : VD K (tCall (spR K R__law_cell_at) [] E (tCons ta (tCons tb tNil))) ρ (.int (cellAt ns j)) :=
  VN.toD (n_call (a_cons ha (a_cons hb a_nil)) ⟨ns, j, by rw [e], rfl⟩)

/-! _law_mixed -/
abbrev s__law_mixed : Stmt := topS 18
abbrev N__law_mixed : List Str := ["_law_cell", "_law_k", "_law_number"]
theorem sc__law_mixed : FnScope N__law_mixed ["_law_cell", "_law_k"] (defScope s__law_mixed) := ⟨rfl, rfl, rfl, by decide +kernel, rfl, by decide +kernel, by decide +kernel⟩

def R__law_mixed : List Ent → PyData → Prop := fun zs r => ∃ (c : Int) (k : Nat), zs = [.d (.int c), .d (.int (k : Int))] ∧ k ≤ 10000 ∧ r = .int (mixed c k)
theorem c__law_mixed (B : Blt mg) (D_ : Dfn K mg "_law_mixed" s__law_mixed ["_law_cell", "_law_k"]) : Cal P w K mg base CX0 1 "_law_mixed" ["_law_cell", "_law_k"] (spR K R__law_mixed) := by
  refine cal_R D_ sc__law_mixed (fun zs r h => by obtain ⟨ns, k, rfl, _⟩ := h; rfl) fun f cdv A outer s H E hr => ⟨_, (pss_cons (ps_set (i := 2) sc__law_mixed.nd rfl (.inl rfl) (pe_op op_mod (pe_op op_mul (pe_op op_add (pe_op op_mod (pv 0) pe_int) pe_int) pe_int) pe_int))
    (pss_cons (ps_set (i := 2) sc__law_mixed.nd rfl (.inl rfl) (pe_op op_mod (pe_op op_mul (pe_op op_add (pv 2) (pv 1)) (pe_op op_add (pe_op op_mul (pv 1) (pv 1)) pe_int)) pe_int))
    (pss_one (ps_ret (pe_op op_fdiv (pe_op op_mod (pe_op op_mul (pv 2) pe_int) pe_int) pe_int))))), ?_⟩
  rintro zs r ⟨c, k, rfl, hk, rfl⟩
  have hkk : (k : Int) * (k : Int) ≤ 10000 * 10000 := Int.mul_le_mul (by omega) (by omega) (by omega) (by omega)
  have hkk0 : 0 ≤ (k : Int) * (k : Int) := Int.mul_nonneg (by omega) (by omega)
  refine .inl (r_seq (r_set (v_mod (v_mul (v_add (v_mod (v_var rfl) v_int (by decide)) v_int) v_int (.inr ⟨by decide, by decide⟩)) v_int (by decide))) (r_seq (r_set (v_mod (v_mul (v_add (v_var rfl) (v_var rfl)) (v_add (v_mul (v_var rfl) (v_var rfl) ?_) v_int) ?_) v_int (by decide))) (r_ret (VD.toN (v_fdiv (v_mod (v_mul (v_var rfl) v_int (.inr ⟨by decide, by decide⟩)) v_int (by decide)) v_int ⟨by decide, by decide⟩) rfl))))
  · exact .inl ⟨by omega, by omega⟩
  · exact .inr ⟨by omega, by omega⟩
theorem v_mixed {ρ : Rho} {ta tb : TE} {E : XK} {c i : Int} (j : Nat) (ha : VD K ta ρ (.int c)) (hb : VD K tb ρ (.int i)) (e : i = (j : Int)) (hj : j ≤ 10000) : VD K (tCall (spR K R__law_mixed) [] E (tCons ta (tCons tb tNil))) ρ (.int (mixed c j)) :=
  VN.toD (n_call (a_cons ha (a_cons hb a_nil)) ⟨c, j, by rw [e], hj, rfl⟩)

/-! _law_draft_by -/
abbrev s__law_draft_by : Stmt := topS 19
abbrev N__law_draft_by : List Str := ["_law_script", "_law_at", "_law_shafts", "_law_treadles", "_law_warps", "_law_wefts", "_law_threading", "_law_treadling", "_law_ties", "_law_shaft", "_law_k"]
theorem sc__law_draft_by : FnScope N__law_draft_by ["_law_script", "_law_at"] (defScope s__law_draft_by) := ⟨rfl, rfl, rfl, by decide +kernel, rfl, by decide +kernel, by decide +kernel⟩

def R__law_draft_by : List Ent → PyData → Prop := fun zs r => ∃ (ns : List Int) (k : Nat), zs = [.scr ns, .d (.int (k : Int))] ∧ r = enc (draftBy ns k)
theorem c__law_draft_by (B : Blt mg) (C__law_cell_at : Cal P w K mg base CX0 1 "_law_cell_at" ["_law_script", "_law_k"] (spR K R__law_cell_at)) (C__law_mixed : Cal P w K mg base CX0 1 "_law_mixed" ["_law_cell", "_law_k"] (spR K R__law_mixed)) (D_ : Dfn K mg "_law_draft_by" s__law_draft_by ["_law_script", "_law_at"]) : Cal P w K mg base CX0 2 "_law_draft_by" ["_law_script", "_law_at"] (spR K R__law_draft_by) := by
  refine cal_R D_ sc__law_draft_by (fun zs r h => by obtain ⟨ns, k, rfl, _⟩ := h; rfl) fun f cdv A outer s H E hr => ⟨_, (pss_cons (ps_set (i := 2) sc__law_draft_by.nd rfl (.inr rfl) (pe_op op_add pe_int (pe_op op_mod (pe_calK K P w mg base C__law_cell_at (hr.mono (by decide)) (by rfl) (pa_cons (pv 0) (pa_cons (pv 1) pa_nil))) pe_int)))
    (pss_cons (ps_set (i := 3) sc__law_draft_by.nd rfl (.inr rfl) (pe_op op_add pe_int (pe_op op_mod (pe_calK K P w mg base C__law_cell_at (hr.mono (by decide)) (by rfl) (pa_cons (pv 0) (pa_cons (pe_op op_add (pv 1) pe_int) pa_nil))) pe_int)))
    (pss_cons (ps_set (i := 4) sc__law_draft_by.nd rfl (.inl rfl) (pe_op op_add pe_int (pe_op op_mod (pe_calK K P w mg base C__law_cell_at (hr.mono (by decide)) (by rfl) (pa_cons (pv 0) (pa_cons (pe_op op_add (pv 1) pe_int) pa_nil))) pe_int)))
    (pss_cons (ps_set (i := 5) sc__law_draft_by.nd rfl (.inl rfl) (pe_op op_add pe_int (pe_op op_mod (pe_calK K P w mg base C__law_cell_at (hr.mono (by decide)) (by rfl) (pa_cons (pv 0) (pa_cons (pe_op op_add (pv 1) pe_int) pa_nil))) pe_int)))
    (pss_cons (ps_if (pt_cmpR (op_eqDK K hr.units) (pe_op op_mod (pe_calK K P w mg base C__law_cell_at (hr.mono (by decide)) (by rfl) (pa_cons (pv 0) (pa_cons (pe_op op_add (pv 1) pe_int) pa_nil))) pe_int) pe_int (nomark _))
    (pss_cons (ps_set (i := 2) sc__law_draft_by.nd rfl (.inr rfl) (pe_op op_add pe_int (pe_op op_mod (pe_calK K P w mg base C__law_cell_at (hr.mono (by decide)) (by rfl) (pa_cons (pv 0) (pa_cons (pv 1) pa_nil))) pe_int)))
    (pss_one (ps_set (i := 4) sc__law_draft_by.nd rfl (.inl rfl) (pe_op op_sub pe_int (pe_op op_mod (pe_calK K P w mg base C__law_cell_at (hr.mono (by decide)) (by rfl) (pa_cons (pv 0) (pa_cons (pe_op op_add (pv 1) pe_int) pa_nil))) pe_int)))))
    pss_nil)
    (pss_cons (ps_if (pt_cmpR (op_eqDK K hr.units) (pe_op op_mod (pe_calK K P w mg base C__law_cell_at (hr.mono (by decide)) (by rfl) (pa_cons (pv 0) (pa_cons (pe_op op_add (pv 1) pe_int) pa_nil))) pe_int) pe_int (nomark _))
    (pss_cons (ps_set (i := 3) sc__law_draft_by.nd rfl (.inr rfl) (pe_op op_add pe_int (pe_op op_mod (pe_calK K P w mg base C__law_cell_at (hr.mono (by decide)) (by rfl) (pa_cons (pv 0) (pa_cons (pe_op op_add (pv 1) pe_int) pa_nil))) pe_int)))
    (pss_one (ps_set (i := 5) sc__law_draft_by.nd rfl (.inl rfl) (pe_op op_sub pe_int (pe_op op_mod (pe_calK K P w mg base C__law_cell_at (hr.mono (by decide)) (by rfl) (pa_cons (pv 0) (pa_cons (pe_op op_add (pv 1) pe_int) pa_nil))) pe_int)))))
    pss_nil)
    (pss_cons (ps_if (pt_cmpR (op_eqDK K hr.units) (pe_op op_mod (pe_calK K P w mg base C__law_cell_at (hr.mono (by decide)) (by rfl) (pa_cons (pv 0) (pa_cons (pe_op op_add (pv 1) pe_int) pa_nil))) pe_int) pe_int (nomark _))
    (pss_cons (ps_set (i := 4) sc__law_draft_by.nd rfl (.inl rfl) (pe_op op_add pe_int (pe_op op_mod (pe_calK K P w mg base C__law_cell_at (hr.mono (by decide)) (by rfl) (pa_cons (pv 0) (pa_cons (pe_op op_add (pv 1) pe_int) pa_nil))) pe_int)))
    (pss_one (ps_set (i := 5) sc__law_draft_by.nd rfl (.inl rfl) (pe_op op_add pe_int (pe_op op_mod (pe_calK K P w mg base C__law_cell_at (hr.mono (by decide)) (by rfl) (pa_cons (pv 0) (pa_cons (pe_op op_add (pv 1) pe_int) pa_nil))) pe_int)))))
    pss_nil)
    (pss_cons (ps_setLc (i := 6) (own := [("_law_k", 10)]) (g := gName 10) (tt := tYes) rfl sc__law_draft_by.nd rfl rfl (sw_true rfl rfl rfl (by decide +kernel)) (pi_range1 (by rfl) B.range (pa_cons (pv 4) pa_nil)) (blkOk_by (N := N__law_draft_by) (sc := defScope s__law_draft_by) (by decide +kernel)) (fun _ _ _ _ _ => pg_name (i := 10) sc__law_draft_by.nd rfl (Or.inl rfl)) (fun _ _ _ _ _ => pts_nil) (fun _ _ _ _ _ => (pe_op op_mod (pe_calK K P w mg base C__law_mixed (hr.mono (by decide)) (by rfl) (pa_cons (pe_calK K P w mg base C__law_cell_at (hr.mono (by decide)) (by rfl) (pa_cons (pv 0) (pa_cons (pe_op op_add (pv 1) pe_int) pa_nil))) (pa_cons (pv 10) pa_nil))) (pv 2))))
    (pss_cons (ps_setLc (i := 7) (own := [("_law_k", 10)]) (g := gName 10) (tt := tYes) rfl sc__law_draft_by.nd rfl rfl (sw_true rfl rfl rfl (by decide +kernel)) (pi_range1 (by rfl) B.range (pa_cons (pv 5) pa_nil)) (blkOk_by (N := N__law_draft_by) (sc := defScope s__law_draft_by) (by decide +kernel)) (fun _ _ _ _ _ => pg_name (i := 10) sc__law_draft_by.nd rfl (Or.inl rfl)) (fun _ _ _ _ _ => pts_nil) (fun _ _ _ _ _ => (pe_op op_mod (pe_calK K P w mg base C__law_mixed (hr.mono (by decide)) (by rfl) (pa_cons (pe_calK K P w mg base C__law_cell_at (hr.mono (by decide)) (by rfl) (pa_cons (pv 0) (pa_cons (pe_op op_add (pv 1) pe_int) pa_nil))) (pa_cons (pv 10) pa_nil))) (pv 3))))
    (pss_cons (ps_set (i := 8) sc__law_draft_by.nd rfl (.inl rfl) (pe_lst pa_nil))
    (pss_cons (ps_for PassesOwn.never rfl (pi_range1 (by rfl) B.range (pa_cons (pv 2) pa_nil)) (pg_name (i := 9) sc__law_draft_by.nd rfl (.inr rfl))
    (pss_one (ps_expr (pe_bmK K PySem.F.plainAttrs_list PySem.F.slot_list_append PySem.F.type_list_append mt_append (pv 8) (pa_cons (pe_lc (own := [("_law_k", 10)]) (g := gName 10) (tt := tYes) rfl sc__law_draft_by.nd (pi_range1 (by rfl) B.range (pa_cons (pv 3) pa_nil)) (blkOk_by (N := N__law_draft_by) (sc := defScope s__law_draft_by) (by decide +kernel)) (fun _ _ _ _ _ => pg_name (i := 10) sc__law_draft_by.nd rfl (Or.inl rfl)) (fun _ _ _ _ _ => pts_nil) (fun _ _ _ _ _ => (pe_op op_mod (pe_calK K P w mg base C__law_mixed (hr.mono (by decide)) (by rfl) (pa_cons (pe_calK K P w mg base C__law_cell_at (hr.mono (by decide)) (by rfl) (pa_cons (pv 0) (pa_cons (pe_op op_add (pv 1) pe_int) pa_nil))) (pa_cons (pe_op op_add (pe_op op_mul pe_int (pv 9)) (pv 10)) pa_nil))) pe_int))) pa_nil)))))
    (pss_one (ps_ret (pe_tup (pa_cons (pv 6) (pa_cons (pv 8) (pa_cons (pv 7) pa_nil))))))))))))))))), ?_⟩
  rintro zs r ⟨ns, k, rfl, rfl⟩
  have b1 := shafts_b ns k
  have b2 := treadles_b ns k
  have b3 := warps_b ns k
  have b4 := wefts_b ns k
  have c4 : ∀ {ρ : Rho} {E : XK}, ρ[0]? = some (some (.scr ns)) → ρ[1]? = some (some (.d (.int (k : Int)))) → VD K (tOp (rI (fun _ j => 0 < j) fun i j => .int (i % j)) (tCall (spR K R__law_cell_at) [] E (tCons (tVar 0) (tCons (tOp (rI0 fun i j => .int (i + j)) (tVar 1) (tC (.int 4))) tNil))) (tC (.int 8))) ρ (.int (cellAt ns (k + 4) % 8)) :=
    fun h0 h1 => v_mod (v_cell (k + 4) (v_var h0) (v_add (v_var h1) v_int) rfl) v_int (by decide)
  refine .inl ?_
  refine r_seq (r_set (v_add v_int (v_mod (v_cell k (v_var rfl) (v_var rfl) rfl) v_int (by decide)))) ?_
  refine r_seq (r_set (v_add v_int (v_mod (v_cell (k + 1) (v_var rfl) (v_add (v_var rfl) v_int) rfl) v_int (by decide)))) ?_
  refine r_seq (r_set (v_add v_int (v_mod (v_cell (k + 2) (v_var rfl) (v_add (v_var rfl) v_int) rfl) v_int (by decide)))) ?_
  refine r_seq (r_set (v_add v_int (v_mod (v_cell (k + 3) (v_var rfl) (v_add (v_var rfl) v_int) rfl) v_int (by decide)))) ?_
  refine r_seq (ρ' := [some (.scr ns), some (.d (.int (k : Int))), some (.d (.int (shaftsOf ns k))), some (.d (.int (1 + cellAt ns (k + 1) % 5))), some (.d (.int (if cellAt ns (k + 4) % 8 = 1 then 60 - cellAt ns (k + 2) % 31 else 1 + cellAt ns (k + 2) % 9))), some (.d (.int (1 + cellAt ns (k + 3) % 9))), none, none, none, none, none])
    (r_if (t_test (v_eqI (c4 rfl rfl) v_int)) (fun h => RD.eq (r_seq (r_set (v_add v_int (v_mod (v_cell k (v_var rfl) (v_var rfl) rfl) v_int (by decide)))) (r_set (v_sub v_int (v_mod (v_cell (k + 2) (v_var rfl) (v_add (v_var rfl) v_int) rfl) v_int (by decide))))) ?_) (fun h => RD.eq r_next ?_)) ?_
  · unfold shaftsOf; rw [if_pos (of_decide_eq_true h), if_pos (of_decide_eq_true h)] <;> rfl
  · unfold shaftsOf; rw [if_neg (of_decide_eq_false h), if_neg (of_decide_eq_false h)] <;> rfl
  refine r_seq (ρ' := [some (.scr ns), some (.d (.int (k : Int))), some (.d (.int (shaftsOf ns k))), some (.d (.int (treadlesOf ns k))), some (.d (.int (if cellAt ns (k + 4) % 8 = 1 then 60 - cellAt ns (k + 2) % 31 else 1 + cellAt ns (k + 2) % 9))), some (.d (.int (if cellAt ns (k + 4) % 8 = 2 then 60 - cellAt ns (k + 3) % 31 else 1 + cellAt ns (k + 3) % 9))), none, none, none, none, none])
    (r_if (t_test (v_eqI (c4 rfl rfl) v_int)) (fun h => RD.eq (r_seq (r_set (v_add v_int (v_mod (v_cell (k + 1) (v_var rfl) (v_add (v_var rfl) v_int) rfl) v_int (by decide)))) (r_set (v_sub v_int (v_mod (v_cell (k + 3) (v_var rfl) (v_add (v_var rfl) v_int) rfl) v_int (by decide))))) ?_) (fun h => RD.eq r_next ?_)) ?_
  · unfold treadlesOf; rw [if_pos (of_decide_eq_true h), if_pos (of_decide_eq_true h)] <;> rfl
  · unfold treadlesOf; rw [if_neg (of_decide_eq_false h), if_neg (of_decide_eq_false h)] <;> rfl
  refine r_seq (ρ' := [some (.scr ns), some (.d (.int (k : Int))), some (.d (.int (shaftsOf ns k))), some (.d (.int (treadlesOf ns k))), some (.d (.int (warpsOf ns k))), some (.d (.int (weftsOf ns k))), none, none, none, none, none])
    (r_if (t_test (v_eqI (c4 rfl rfl) v_int)) (fun h => RD.eq (r_seq (r_set (v_add v_int (v_mod (v_cell (k + 2) (v_var rfl) (v_add (v_var rfl) v_int) rfl) v_int (by decide)))) (r_set (v_add v_int (v_mod (v_cell (k + 3) (v_var rfl) (v_add (v_var rfl) v_int) rfl) v_int (by decide))))) ?_) (fun h => RD.eq r_next ?_)) ?_
  · unfold warpsOf weftsOf; rw [if_pos (of_decide_eq_true h), if_pos (of_decide_eq_true h)] <;> rfl
  · unfold warpsOf weftsOf; rw [if_neg (of_decide_eq_false h), if_neg (of_decide_eq_false h)] <;> rfl
  intro D σ H n q
  refine q_setN (n_rg (m := warpsOf ns k) (fun i => mixed (cellAt ns (k + 5)) i % shaftsOf ns k) (v_var rfl) (by omega) (by omega) (by decide) fun i hi => VD.toN (v_mod (v_mixed i (v_cell (k + 5) (v_var rfl) (v_add (v_var rfl) v_int) rfl) (v_var rfl) rfl (by omega)) (v_var rfl) (by omega)) rfl) n fun v6 H1 e1 w6 n1 => ?_
  refine q_setN (n_rg (m := weftsOf ns k) (fun i => mixed (cellAt ns (k + 6)) i % treadlesOf ns k) (v_var rfl) (by omega) (by omega) (by decide) fun i hi => VD.toN (v_mod (v_mixed i (v_cell (k + 6) (v_var rfl) (v_add (v_var rfl) v_int) rfl) (v_var rfl) rfl (by omega)) (v_var rfl) (by omega)) rfl) n1 fun v7 H2 e2 w7 n2 => ?_
  refine q_empty fun p hp g => ?_
  have l2 : σ.length = 11 := n.1
  refine q_growR (i := 8) (j := 9) (fun s => enc ((List.range (treadlesOf ns k).toNat).map fun i => mixed (cellAt ns (k + 7)) (61 * s + i) % 2)) (by decide) (v_var rfl) (by omega) (by simp) (by rw [List.getElem?_set_self (by simp [l2])]) g (n2.drop 8) (fun s hs => ?_) fun σ' H' bt g' => ?_
  · refine n_rg (m := treadlesOf ns k) (fun i => mixed (cellAt ns (k + 7)) (61 * s + i) % 2) (v_var rfl) (by omega) (by omega) (by decide) fun i hi => VD.toN (v_mod (v_mixed (61 * s + i) (v_cell (k + 7) (v_var rfl) (v_add (v_var rfl) v_int) rfl) (v_add (v_mul v_int (v_var rfl) (.inl ⟨by decide, by decide⟩)) (v_var rfl)) (by omega) (by omega)) v_int (by decide)) rfl
  · obtain ⟨F, G, L, o1, o2, o3, f1, f2, f3, d1, d2, d3⟩ := own3 e1 e2 g'.ex w6 w7 g'.new
    refine s_retTup3 (H0 := H) (i := 6) (j := 8) (l := 7) (x := v6) (y := .ref p) (w := v7) ?_ ?_ ?_ ⟨F ++ (L ++ (G ++ [])), .cons o1 (.cons o3 (.cons o2 .nil (fun _ _ z => nomatch z)) fun x hx hg => ?_) fun x hx hg => ?_, fun x hx => ?_⟩ fun v H2 e w => ?_
    · rw [bt.at_ 6 (by decide), List.getElem?_set_ne (by decide), List.getElem?_set_ne (by decide), List.getElem?_set_self (by simp [l2])]
    · rw [bt.at_ 8 (by decide), List.getElem?_set_self (by simp [l2])]
    · rw [bt.at_ 7 (by decide), List.getElem?_set_ne (by decide), List.getElem?_set_self (by simp [l2])]
    · rw [List.append_nil] at hg; exact d3 x hg hx
    · rw [List.append_nil] at hg
      rcases List.mem_append.mp hg with h | h
      · exact d2 x hx h
      · exact d1 x hx h
    · rw [List.append_nil] at hx
      rcases List.mem_append.mp hx with h | h
      · exact f1 x h
      · rcases List.mem_append.mp h with h | h
        · exact f3 x h
        · exact f2 x h
    · refine q v H2 (e1.trans (e2.trans (g'.ex.trans e))) ?_
      have e3 : PyData.list ([] ++ (List.range (shaftsOf ns k).toNat).map fun s => enc ((List.range (treadlesOf ns k).toNat).map fun i => mixed (cellAt ns (k + 7)) (61 * s + i) % 2)) = enc (draftBy ns k).ti := by
        rw [List.nil_append]
        show _ = PyData.list _
        unfold draftBy
        simp only [List.map_map]
        rfl
      rw [e3] at w
      exact w

/-! _law_woven -/
abbrev s__law_woven : Stmt := topS 20
abbrev N__law_woven : List Str := ["_law_draft", "_law_rows", "_law_treadle", "_law_row", "_law_shaft"]
theorem sc__law_woven : FnScope N__law_woven ["_law_draft"] (defScope s__law_woven) := ⟨rfl, rfl, rfl, by decide +kernel, rfl, by decide +kernel, by decide +kernel⟩

def R__law_woven : List Ent → PyData → Prop := fun zs r => ∃ (d : Dr), zs = [.d (enc d)] ∧ GoodD d ∧ r = enc (woven d)
theorem c__law_woven (B : Blt mg) (D_ : Dfn K mg "_law_woven" s__law_woven ["_law_draft"]) : Cal P w K mg base CX0 1 "_law_woven" ["_law_draft"] (spR K R__law_woven) := by
  refine cal_R D_ sc__law_woven (fun zs r h => by obtain ⟨d, rfl, _⟩ := h; rfl) fun f cdv A outer s H E hr => ⟨_, (pss_cons (ps_set (i := 1) sc__law_woven.nd rfl (.inl rfl) (pe_lst pa_nil))
    (pss_cons (ps_for PassesOwn.never rfl (pi_listK K (pe_ix (ix_seqK K) (pv 0) pe_int (fun _ _ => rfl))) (pg_name (i := 2) sc__law_woven.nd rfl (.inl rfl))
    (pss_cons (ps_set (i := 3) sc__law_woven.nd rfl (.inl rfl) (pe_lst pa_nil))
    (pss_cons (ps_for PassesOwn.never rfl (pi_listK K (pe_ix (ix_seqK K) (pv 0) pe_int (fun _ _ => rfl))) (pg_name (i := 4) sc__law_woven.nd rfl (.inl rfl))
    (pss_one (ps_expr (pe_bmK K PySem.F.plainAttrs_list PySem.F.slot_list_append PySem.F.type_list_append mt_append (pv 3) (pa_cons (pe_ix (ix_seqK K) (pe_ix (ix_seqK K) (pe_ix (ix_seqK K) (pv 0) pe_int (fun _ _ => rfl)) (pv 4) (fun _ _ => rfl)) (pv 2) (fun _ _ => rfl)) pa_nil)))))
    (pss_one (ps_expr (pe_bmK K PySem.F.plainAttrs_list PySem.F.slot_list_append PySem.F.type_list_append mt_append (pv 1) (pa_cons (pv 3) pa_nil)))))))
    (pss_one (ps_ret (pv 1))))), ?_⟩
  rintro zs r ⟨d, rfl, gd, rfl⟩
  have g1 := gd.th
  have g2 := gd.tr
  have g3 := gd.ti.len
  refine .inl fun D σ H n q => ?_
  have l2 : σ.length = 5 := n.1
  refine q_empty fun p hp g => ?_
  have hp1 : (σ.set 1 (some (V.ref p)))[1]? = some (some (V.ref p)) := List.getElem?_set_self (by omega)
  refine q_loopL (js := [2, 3, 4]) (fun t => .list (d.th.map fun s => .int ((d.ti.getD s.toNat default).getD ((match t with | .int i => i | _ => 0) : Int).toNat default))) (by decide) (s_ixT (ds := [enc d.th, enc d.ti, enc d.tr]) (s_var rfl) v_int rfl) g (n.drop 1) (fun x hx v pre σ' H' D' hpre bt g' tv n' rt hk => ?_) fun σ' H' bt g' => ?_
  · obtain ⟨t, ht, rfl⟩ := List.mem_map.mp hx
    have gt := gd.tl t ht
    rw [List.length_nil, List.length_map] at hpre
    have l3 : σ'.length = 5 := by rw [bt.len, List.length_set]; exact l2
    refine q_empty fun p3 hp3 g3' => ?_
    have n3 := n'.mono g'.ex
    refine q_growL (i := 3) (j := 4) (fun s => .int ((d.ti.getD ((match s with | .int i => i | _ => 0) : Int).toNat default).getD t.toNat default)) (by decide) (s_ixT (ds := [enc d.th, enc d.ti, enc d.tr]) (s_var rfl) v_int rfl) (by rw [List.length_map]; simp; omega) (by rw [List.getElem?_set_self (by simp [l3])]) g3' (n3.drop 3) (fun y hy => ?_) fun σ4 H4 b4 g4 => ?_
    · obtain ⟨s, hs, rfl⟩ := List.mem_map.mp hy
      have gs := gd.sh s hs
      have hrow := gd.ti.rows _ (gd.ti.at_ (k := s.toNat) (by omega))
      exact VD.toN (v_ix (xs := d.ti.getD s.toNat default) (v_ix (xs := d.ti) (v_ixT (ds := [enc d.th, enc d.ti, enc d.tr]) (v_var rfl) v_int rfl) (v_var rfl) (by omega) (by omega)) (v_var rfl) (by omega) (by omega)) rfl
    · refine s_pushV (i := 1) (l := 3) (v := .ref p3) ?_ ?_ g' g4.ex g4.new (by omega) fun H5 g5 => hk _ H5 ?_ ?_
      · rw [b4.at_ 1 (by decide), List.getElem?_set_ne (by decide), List.getElem?_set_ne (by decide), bt.at_ 1 (by decide)]; exact hp1
      · rw [b4.at_ 3 (by decide), List.getElem?_set_self (by simp [l3])]
      · exact ((bt.set _ (by decide)).set _ (by decide)).but b4 (by decide)
      · rw [List.nil_append, List.map_map] at g5
        exact g5
  · refine s_retVar (i := 1) (x := .ref p) (by rw [bt.at_ 1 (by decide)]; exact hp1) (q _ H' g'.ex ?_)
    have w := g'.new
    rw [List.nil_append, List.map_map] at w
    have e : enc (woven d) = PyData.list (List.map ((fun t => PyData.list (d.th.map fun s => .int ((d.ti.getD s.toNat default).getD ((match t with | .int i => i | _ => 0) : Int).toNat default))) ∘ enc) d.tr) := by
      show PyData.list _ = _
      unfold woven
      rw [List.map_map]
      congr 1
      apply List.map_congr_left
      intro t _
      show PyData.list _ = PyData.list _
      rw [List.map_map]
      rfl
    rw [e]
    exact w

/-! _law_copied -/
abbrev s__law_copied : Stmt := topS 21
abbrev N__law_copied : List Str := ["_law_cloth", "_law_row"]
theorem sc__law_copied : FnScope N__law_copied ["_law_cloth"] (defScope s__law_copied) := ⟨rfl, rfl, rfl, by decide +kernel, rfl, by decide +kernel, by decide +kernel⟩

def R__law_copied : List Ent → PyData → Prop := fun zs r => ∃ (c : Cl), zs = [.d (enc c)] ∧ c.length ≤ 1000 ∧ r = enc c
theorem c__law_copied (B : Blt mg) (D_ : Dfn K mg "_law_copied" s__law_copied ["_law_cloth"]) : Cal P w K mg base CX0 1 "_law_copied" ["_law_cloth"] (spR K R__law_copied) := by
  refine cal_R D_ sc__law_copied (fun zs r h => by obtain ⟨c, rfl, _⟩ := h; rfl) fun f cdv A outer s H E hr => ⟨_, (pss_one (ps_ret (pe_lc (own := [("_law_row", 1)]) (g := gName 1) (tt := tYes) rfl sc__law_copied.nd (pi_listK K (pv 0)) (blkOk_by (N := N__law_copied) (sc := defScope s__law_copied) (by decide +kernel)) (fun _ _ _ _ _ => pg_name (i := 1) sc__law_copied.nd rfl (Or.inl rfl)) (fun _ _ _ _ _ => pts_nil) (fun _ _ _ _ _ => (pe_callTy (call_listK K) (by rfl) B.list (by decide +kernel) (pa_cons (pv 1) pa_nil)))))), ?_⟩
  rintro zs r ⟨c, rfl, h, rfl⟩
  exact .inl (r_ret (VN.eq (n_lc (fun row : List Int => row) (v_var rfl) (by omega) (by decide) fun row _ => n_list (v_var rfl)) (by rw [List.map_id'])))

/-! _law_rows_are -/
abbrev s__law_rows_are : Stmt := topS 22
abbrev N__law_rows_are : List Str := ["_law_found", "_law_due_here", "_law_k", "_law_one"]
theorem sc__law_rows_are : FnScope N__law_rows_are ["_law_found", "_law_due_here"] (defScope s__law_rows_are) := ⟨rfl, rfl, rfl, by decide +kernel, rfl, by decide +kernel, by decide +kernel⟩

def R__law_rows_are : List Ent → PyData → Prop := fun zs r => ∃ (a b : Cl), zs = [.d (enc a), .d (enc b)] ∧ b.length ≤ 1000 ∧ (∀ row ∈ a, row.length ≤ 1000) ∧ r = .bool (decide (a = b))
theorem c__law_rows_are (B : Blt mg) (D_ : Dfn K mg "_law_rows_are" s__law_rows_are ["_law_found", "_law_due_here"]) : Cal P w K mg base CX0 1 "_law_rows_are" ["_law_found", "_law_due_here"] (spR K R__law_rows_are) := by
  refine cal_R D_ sc__law_rows_are (fun zs r h => by obtain ⟨a, b, rfl, _⟩ := h; rfl) fun f cdv A outer s H E hr => ⟨_, (pss_cons (ps_if (PW.pt (pw_or (pt_not (pt_val (pe_callB (call_isiK' K) (by rfl) B.isinstance (by decide +kernel) (pa_cons (pv 0) (pa_cons (pe_bltn (v := .ty "list") (by rfl) B.list (by decide +kernel) rfl) pa_nil))))) (pw_or1 (pt_cmpR (op_neDK K hr.units) (pe_callB (call_lenK K) (by rfl) B.len (by decide +kernel) (pa_cons (pv 0) pa_nil)) (pe_callB (call_lenK K) (by rfl) B.len (by decide +kernel) (pa_cons (pv 1) pa_nil)) (nomark _)))))
    (pss_one (ps_ret pe_bl))
    pss_nil)
    (pss_cons (ps_for PassesOwn.never rfl (pi_range1 (by rfl) B.range (pa_cons (pe_callB (call_lenK K) (by rfl) B.len (by decide +kernel) (pa_cons (pv 1) pa_nil)) pa_nil)) (pg_name (i := 2) sc__law_rows_are.nd rfl (.inl rfl))
    (pss_cons (ps_if (PW.pt (pw_or (pt_not (pt_val (pe_callB (call_isiK' K) (by rfl) B.isinstance (by decide +kernel) (pa_cons (pe_ix (ix_seqK K) (pv 0) (pv 2) (fun _ _ => rfl)) (pa_cons (pe_bltn (v := .ty "list") (by rfl) B.list (by decide +kernel) rfl) pa_nil))))) (pw_or1 (pt_cmpR (op_neDK K hr.units) (pe_ix (ix_seqK K) (pv 0) (pv 2) (fun _ _ => rfl)) (pe_ix (ix_seqK K) (pv 1) (pv 2) (fun _ _ => rfl)) (nomark _)))))
    (pss_one (ps_ret pe_bl))
    pss_nil)
    (pss_one (ps_if (pt_not (pt_val (pe_callB (cr_allK K rfl) (by rfl) B.all (by decide +kernel) (pa_cons (pe_lc (own := [("_law_one", 3)]) (g := gName 3) (tt := tYes) rfl sc__law_rows_are.nd (pi_listK K (pe_ix (ix_seqK K) (pv 0) (pv 2) (fun _ _ => rfl))) (blkOk_by (N := N__law_rows_are) (sc := defScope s__law_rows_are) (by decide +kernel)) (fun _ _ _ _ _ => pg_name (i := 3) sc__law_rows_are.nd rfl (Or.inl rfl)) (fun _ _ _ _ _ => pts_nil) (fun _ _ _ _ _ => (pe_and (pe_callB (call_isiK' K) (by rfl) B.isinstance (by decide +kernel) (pa_cons (pv 3) (pa_cons (pe_bltn (v := .ty "int") (by rfl) B.int (by decide +kernel) rfl) pa_nil))) (pe_one (pe_not (pe_callB (call_isiK' K) (by rfl) B.isinstance (by decide +kernel) (pa_cons (pv 3) (pa_cons (pe_bltn (v := .ty "bool") (by rfl) B.bool (by decide +kernel) rfl) pa_nil)))))))) pa_nil))))
    (pss_one (ps_ret pe_bl))
    pss_nil))))
    (pss_one (ps_ret pe_bl)))), ?_⟩
  rintro zs r ⟨a, b, rfl, hb, ha, rfl⟩
  refine .inl ?_
  by_cases hl : a.length = b.length
  · refine r_seq (r_if (b := false) (VT.eq (t_or (t_not (t_B (v_isi (v_var rfl) kit_list))) fun _ => t_test (v_neI (v_len (xs := a) (v_var rfl)) (v_len (xs := b) (v_var rfl)))) ?_) (fun q => nomatch q) fun _ => r_next) ?_
    · rw [isI_list_enc, decide_eq_true (by omega)]; rfl
    · refine r_seqFind (r_forR1 (m := (b.length : Int)) (fun k => if a.getD k default = b.getD k default then none else some (.bool false)) (v_len (xs := b) (v_var rfl)) (by omega) (by omega) ⟨rfl, fun i z h => h⟩ fun k hk => ?_) (fun hn => RD.eq (r_ret (VD.toN v_bl rfl)) ?_) fun i hi d hd => ?_
      · have hrow : (a.getD k default) ∈ a := by
          rw [List.getD_eq_getElem?_getD, List.getElem?_eq_getElem (show k < a.length by omega)]
          exact List.getElem_mem _
        by_cases he : a.getD k default = b.getD k default
        · rw [if_pos he]
          refine r_seq (r_if (b := false) (VT.eq (t_or (t_not (t_B (v_isi (v_ix (xs := a) (v_var rfl) (v_var rfl) (by omega) (by omega)) kit_list))) fun _ => t_test (v_ne (α := List Int) (v_ix (xs := a) (v_var rfl) (v_var rfl) (by omega) (by omega)) (v_ix (xs := b) (v_var rfl) (v_var rfl) (by omega) (by omega)))) ?_) (fun q => nomatch q) fun _ => r_next) ?_
          · rw [isI_list_enc, Int.toNat_natCast, decide_eq_true he]; rfl
          · exact RD.weak (ρ2 := [some (.d (enc a)), some (.d (enc b)), none, none]) (ρ' := [some (.d (enc a)), some (.d (enc b)), some (.d (.int (k : Int))), none]) ⟨rfl, fun i z h => by rcases i with _ | _ | _ | _ | i <;> first | exact h | cases h⟩ (r_if (b := false) (VT.eq (t_not (t_B (v_allInts (xs := a.getD ((k : Int)).toNat default) (v_ix (xs := a) (v_var rfl) (v_var rfl) (by omega) (by omega)) (by rw [Int.toNat_natCast]; have := ha _ hrow; omega) (by decide) fun _ => rfl))) rfl) (fun q => nomatch q) fun _ => r_next)
        · rw [if_neg he]
          refine r_seqR (r_if (b := true) (VT.eq (t_or (t_not (t_B (v_isi (v_ix (xs := a) (v_var rfl) (v_var rfl) (by omega) (by omega)) kit_list))) fun _ => t_test (v_ne (α := List Int) (v_ix (xs := a) (v_var rfl) (v_var rfl) (by omega) (by omega)) (v_ix (xs := b) (v_var rfl) (v_var rfl) (by omega) (by omega)))) ?_) (fun _ => r_ret (VD.toN v_bl rfl)) fun q => nomatch q)
          rw [isI_list_enc, Int.toNat_natCast, decide_eq_false he]; rfl
      · have : a = b := getD_ext hl fun i hi => by
          have := hn i (List.mem_range.mpr (by omega))
          by_cases h : a.getD i default = b.getD i default
          · exact h
          · rw [if_neg h] at this; cases this
        rw [decide_eq_true this]
      · by_cases h : a.getD i default = b.getD i default
        · rw [if_pos h] at hd; cases hd
        · rw [if_neg h] at hd
          cases hd
          rw [decide_eq_false (fun q : a = b => h (by rw [q]))]
  · refine r_seqR (r_if (b := true) (VT.eq (t_or (t_not (t_B (v_isi (v_var rfl) kit_list))) fun _ => t_test (v_neI (v_len (xs := a) (v_var rfl)) (v_len (xs := b) (v_var rfl)))) ?_) (fun _ => RD.eq (r_ret (VD.toN v_bl rfl)) ?_) fun q => nomatch q)
    · rw [isI_list_enc, decide_eq_false (by omega)]; rfl
    · rw [decide_eq_false (fun h => hl (by rw [h]))]

/-! _law_row_is -/
abbrev s__law_row_is : Stmt := topS 23
abbrev N__law_row_is : List Str := ["_law_found", "_law_due_here", "_law_one"]
theorem sc__law_row_is : FnScope N__law_row_is ["_law_found", "_law_due_here"] (defScope s__law_row_is) := ⟨rfl, rfl, rfl, by decide +kernel, rfl, by decide +kernel, by decide +kernel⟩

def R__law_row_is : List Ent → PyData → Prop := fun zs r => ∃ (a b : List Int), zs = [.d (enc a), .d (enc b)] ∧ a.length ≤ 1000 ∧ r = .bool (decide (a = b))
theorem c__law_row_is (B : Blt mg) (D_ : Dfn K mg "_law_row_is" s__law_row_is ["_law_found", "_law_due_here"]) : Cal P w K mg base CX0 1 "_law_row_is" ["_law_found", "_law_due_here"] (spR K R__law_row_is) := by
  refine cal_R D_ sc__law_row_is (fun zs r h => by obtain ⟨a, b, rfl, _⟩ := h; rfl) fun f cdv A outer s H E hr => ⟨_, (pss_cons (ps_if (PW.pt (pw_or (pt_not (pt_val (pe_callB (call_isiK' K) (by rfl) B.isinstance (by decide +kernel) (pa_cons (pv 0) (pa_cons (pe_bltn (v := .ty "list") (by rfl) B.list (by decide +kernel) rfl) pa_nil))))) (pw_or1 (pt_cmpR (op_neDK K hr.units) (pv 0) (pv 1) (nomark _)))))
    (pss_one (ps_ret pe_bl))
    pss_nil)
    (pss_one (ps_ret (pe_callB (cr_allK K rfl) (by rfl) B.all (by decide +kernel) (pa_cons (pe_lc (own := [("_law_one", 2)]) (g := gName 2) (tt := tYes) rfl sc__law_row_is.nd (pi_listK K (pv 0)) (blkOk_by (N := N__law_row_is) (sc := defScope s__law_row_is) (by decide +kernel)) (fun _ _ _ _ _ => pg_name (i := 2) sc__law_row_is.nd rfl (Or.inl rfl)) (fun _ _ _ _ _ => pts_nil) (fun _ _ _ _ _ => (pe_and (pe_callB (call_isiK' K) (by rfl) B.isinstance (by decide +kernel) (pa_cons (pv 2) (pa_cons (pe_bltn (v := .ty "int") (by rfl) B.int (by decide +kernel) rfl) pa_nil))) (pe_one (pe_not (pe_callB (call_isiK' K) (by rfl) B.isinstance (by decide +kernel) (pa_cons (pv 2) (pa_cons (pe_bltn (v := .ty "bool") (by rfl) B.bool (by decide +kernel) rfl) pa_nil)))))))) pa_nil))))), ?_⟩
  rintro zs r ⟨a, b, rfl, hz, rfl⟩
  refine .inl ?_
  by_cases h : a = b
  · refine r_seq (r_if (b := false) (VT.eq (t_or (t_not (t_B (v_isi (v_var rfl) kit_list))) fun _ => t_test (v_ne (α := List Int) (v_var rfl) (v_var rfl))) ?_) (fun q => nomatch q) fun _ => r_next) (RD.eq (r_ret (VD.toN (v_allInts (xs := a) (v_var rfl) (by omega) (by decide) fun _ => rfl) rfl)) ?_)
    · rw [isI_list_enc, decide_eq_true h]; rfl
    · rw [decide_eq_true h]
  · refine r_seqR (r_if (b := true) (VT.eq (t_or (t_not (t_B (v_isi (v_var rfl) kit_list))) fun _ => t_test (v_ne (α := List Int) (v_var rfl) (v_var rfl))) ?_) (fun _ => RD.eq (r_ret (VD.toN v_bl rfl)) ?_) fun q => nomatch q)
    · rw [isI_list_enc, decide_eq_false h]; rfl
    · rw [decide_eq_false h]

/-! _law_draft_is -/
abbrev s__law_draft_is : Stmt := topS 24
abbrev N__law_draft_is : List Str := ["_law_found", "_law_due_here"]
theorem sc__law_draft_is : FnScope N__law_draft_is ["_law_found", "_law_due_here"] (defScope s__law_draft_is) := ⟨rfl, rfl, rfl, by decide +kernel, rfl, by decide +kernel, by decide +kernel⟩

def R__law_draft_is : List Ent → PyData → Prop := fun zs r => ∃ (a b : Dr), zs = [.d (enc a), .d (enc b)] ∧ a.th.length ≤ 1000 ∧ a.tr.length ≤ 1000 ∧ b.ti.length ≤ 1000 ∧ (∀ row ∈ a.ti, row.length ≤ 1000) ∧ r = .bool (decide (a = b))
theorem c__law_draft_is (B : Blt mg) (C__law_row_is : Cal P w K mg base CX0 1 "_law_row_is" ["_law_found", "_law_due_here"] (spR K R__law_row_is)) (C__law_rows_are : Cal P w K mg base CX0 1 "_law_rows_are" ["_law_found", "_law_due_here"] (spR K R__law_rows_are)) (D_ : Dfn K mg "_law_draft_is" s__law_draft_is ["_law_found", "_law_due_here"]) : Cal P w K mg base CX0 2 "_law_draft_is" ["_law_found", "_law_due_here"] (spR K R__law_draft_is) := by
  refine cal_R D_ sc__law_draft_is (fun zs r h => by obtain ⟨a, b, rfl, _⟩ := h; rfl) fun f cdv A outer s H E hr => ⟨_, (pss_cons (ps_if (PW.pt (pw_or (pt_not (pt_val (pe_callB (call_isiK' K) (by rfl) B.isinstance (by decide +kernel) (pa_cons (pv 0) (pa_cons (pe_bltn (v := .ty "tuple") (by rfl) B.tuple (by decide +kernel) rfl) pa_nil))))) (pw_or1 (pt_cmpR (op_neDK K hr.units) (pe_callB (call_lenK K) (by rfl) B.len (by decide +kernel) (pa_cons (pv 0) pa_nil)) pe_int (nomark _)))))
    (pss_one (ps_ret pe_bl))
    pss_nil)
    (pss_one (ps_ret (pe_and (pe_calK K P w mg base C__law_row_is (hr.mono (by decide)) (by rfl) (pa_cons (pe_ix (ix_seqK K) (pv 0) pe_int (fun _ _ => rfl)) (pa_cons (pe_ix (ix_seqK K) (pv 1) pe_int (fun _ _ => rfl)) pa_nil))) (pe_and (pe_calK K P w mg base C__law_rows_are (hr.mono (by decide)) (by rfl) (pa_cons (pe_ix (ix_seqK K) (pv 0) pe_int (fun _ _ => rfl)) (pa_cons (pe_ix (ix_seqK K) (pv 1) pe_int (fun _ _ => rfl)) pa_nil))) (pe_one (pe_calK K P w mg base C__law_row_is (hr.mono (by decide)) (by rfl) (pa_cons (pe_ix (ix_seqK K) (pv 0) pe_int (fun _ _ => rfl)) (pa_cons (pe_ix (ix_seqK K) (pv 1) pe_int (fun _ _ => rfl)) pa_nil))))))))), ?_⟩
  rintro zs r ⟨a, b, rfl, h1, h2, h3, h4, rfl⟩
  refine .inl (r_seq (r_if (b := false) (VT.eq (t_or (t_not (t_B (v_isi (d := enc a) (v_var rfl) kit_tuple))) fun _ => t_test (v_neI (v_lenT (ds := [enc a.th, enc a.ti, enc a.tr]) (v_var rfl)) v_int)) ?_) (fun q => nomatch q) fun _ => r_next) (r_ret (VD.toN (VE.eq (v_and (VN.toD (n_call (a_cons (v_th (d := a) (v_var rfl)) (a_cons (v_th (d := b) (v_var rfl)) a_nil)) ⟨a.th, b.th, rfl, h1, rfl⟩)) fun _ => v_and (VN.toD (n_call (a_cons (v_ti (d := a) (v_var rfl)) (a_cons (v_ti (d := b) (v_var rfl)) a_nil)) ⟨a.ti, b.ti, rfl, h3, h4, rfl⟩)) fun _ => VN.toD (n_call (a_cons (v_tr (d := a) (v_var rfl)) (a_cons (v_tr (d := b) (v_var rfl)) a_nil)) ⟨a.tr, b.tr, rfl, h2, rfl⟩)) ?_) rfl)))
  · rw [show isI "tuple" (enc a) = true from isI_tuple_tuple]; rfl
  · congr 2
    rw [Bool.eq_iff_iff]
    simp only [Bool.and_eq_true, decide_eq_true_eq]
    obtain ⟨x, y, z⟩ := a
    obtain ⟨x', y', z'⟩ := b
    simp

/-! _law_told -/
abbrev s__law_told : Stmt := topS 25
abbrev N__law_told : List Str := ["_law_one", "_law_other", "error", "_law_others"]
theorem sc__law_told : FnScope N__law_told ["_law_one", "_law_other"] (defScope s__law_told) := ⟨rfl, rfl, rfl, by decide +kernel, rfl, by decide +kernel, by decide +kernel⟩

def told9 (d e : Dr) : PyData := if (fits0 d e && fits1 d e) = true then enc (besideD d e) else .list [.bool true]
def R__law_told : List Ent → PyData → Prop := fun zs r => ∃ (d e : Dr), zs = [.d (enc d), .d (enc e)] ∧ GoodD d ∧ GoodD e ∧ r = told9 d e
theorem c__law_told (B : Blt mg) {aL aX y1 y2 y3 : Addr} (X_ : FitX K mg "NoFit" "NoCloth" "NoDraft" "NoNote" aL aX y1 y2 y3) (C_draft_beside : Cal P w K mg base (L2N.CX P w) 6 "draft_beside" ["one", "other"] (spX K R_draft_beside (S_draft_beside aX))) (D_ : Dfn K mg "_law_told" s__law_told ["_law_one", "_law_other"]) : Cal P w K mg base CX0 7 "_law_told" ["_law_one", "_law_other"] (spR K R__law_told) := by
  refine cal_sp D_ sc__law_told (fun vs H Q E h => by obtain ⟨zs, r, h1, ⟨d, e, rfl, _⟩, _⟩ := h; exact h1.len) fun f cdv A outer s H vs Q E hr h => ⟨_, (pss_one (L2N.ps_try_as (i := 2) (Wout := fun _ _ _ _ => False) rfl rfl sc__law_told.nd rfl rfl ⟨rfl, by decide, .inl X_.gL⟩ takes0N
    (fun W pn xe tk _ => (pss_one (ps_ret (pe_calX P w mg base C_draft_beside (hr.mono (by decide)) tk (by rfl) (pa_cons (pv 0) (pa_cons (pv 1) pa_nil))))))
    (fun a oe cls d pn hz hf => (pss_cons (ps_set (i := 3) sc__law_told.nd rfl (.inl rfl) (pe_lst (pa_cons (pe_callB (call_isX (K := K) hz hf) (by rfl) B.isinstance (by decide +kernel) (pa_cons (pv 2) (pa_cons (pe_glob (v := .ref y1) (by rfl) X_.g1 rfl) pa_nil))) (pa_cons (pe_callB (call_isX (K := K) hz hf) (by rfl) B.isinstance (by decide +kernel) (pa_cons (pv 2) (pa_cons (pe_glob (v := .ref y2) (by rfl) X_.g2 rfl) pa_nil))) (pa_cons (pe_callB (call_isX (K := K) hz hf) (by rfl) B.isinstance (by decide +kernel) (pa_cons (pv 2) (pa_cons (pe_glob (v := .ref y3) (by rfl) X_.g3 rfl) pa_nil))) pa_nil)))))
    (pss_one (ps_ret (pe_lst (pa_cons (pe_and (pe_callB (call_isX (K := K) hz hf) (by rfl) B.isinstance (by decide +kernel) (pa_cons (pv 2) (pa_cons (pe_glob (v := .ref aX) (by rfl) X_.g rfl) pa_nil))) (pe_and (pe_callB (call_isX (K := K) hz hf) (by rfl) B.isinstance (by decide +kernel) (pa_cons (pv 2) (pa_cons (pe_bltn (v := .ty "ValueError") (by rfl) X_.gV (by decide +kernel) rfl) pa_nil))) (pe_one (pe_not (pe_callB (HotL.cr_anyH (K := K) (hot_of hz hf)) (by rfl) B.any (by decide +kernel) (pa_cons (pv 3) pa_nil)))))) pa_nil)))))))), ?_⟩
  obtain ⟨zs, r, r1, ⟨d, e, rfl, gd, ge, rfl⟩, q⟩ := h
  have n0 := Env.start (N := N__law_told) r1
  refine s_retX (zs := [.d (enc d), .d (enc e)]) (a_cons (v_var rfl) (a_cons (v_var rfl) a_nil)) n0 ?_
  by_cases hf : (fits0 d e && fits1 d e) = true
  · exact .inl ⟨_, ⟨d, e, rfl, gd, ge, hf, rfl⟩, fun v H2 e2 w2 => q v H2 e2 (by unfold told9; rw [if_pos hf]; exact w2)⟩
  · refine .inr ⟨_, ⟨d, e, rfl, gd, ge, by simpa using hf, rfl⟩, fun H2 e2 => ?_⟩
    refine ⟨true, X_.caught, fun _ a' ha => ?_, fun z => nomatch z⟩
    have n5 := (n0.mono e2).set 2 (z := .is (.ref a')) (v := .ref a') rfl
    refine q_setV (z := .d (.list [.bool false, .bool false, .bool false])) (v_lst (ds := [.bool false, .bool false, .bool false]) (a_cons (v_isX (v_var rfl) X_.ec X_.i1) (a_cons (v_isX (v_var rfl) X_.ec X_.i2) (a_cons (v_isX (v_var rfl) X_.ec X_.i3) a_nil))) (by decide)) n5 fun v6 H8 e8 r8 n6 => ?_
    exact s_retN (d := .list [.bool true]) (n_lst (ds := [.bool true]) (an_cons (VN.eq (VD.toN (v_and (v_isX (v_var rfl) X_.ec X_.i0) fun _ => v_and (v_isXT (v_var rfl) X_.ec X_.iV) fun _ => v_not (v_any (bs := [false, false, false]) (v_var rfl))) rfl) rfl) an_nil) (by decide)) n6 fun v H9 e9 w9 => q v H9 (e2.trans (e8.trans e9)) (by unfold told9; rw [if_neg hf]; exact w9.back (e2.trans e8))

/-! _law_due -/
abbrev s__law_due : Stmt := topS 26
abbrev N__law_due : List Str := ["_law_one", "_law_other", "_law_pairs", "_law_treadling", "_law_k", "_law_ties", "_law_row", "_law_pair", "_law_shaft"]
theorem sc__law_due : FnScope N__law_due ["_law_one", "_law_other"] (defScope s__law_due) := ⟨rfl, rfl, rfl, by decide +kernel, rfl, by decide +kernel, by decide +kernel⟩

def due9 (d e : Dr) : PyData := if (fits0 d e && fits1 d e) = true then enc (besideD d e) else .none
def R__law_due : List Ent → PyData → Prop := fun zs r => ∃ (d e : Dr), zs = [.d (enc d), .d (enc e)] ∧ GoodD d ∧ GoodD e ∧ r = due9 d e
theorem c__law_due (B : Blt mg) (D_ : Dfn K mg "_law_due" s__law_due ["_law_one", "_law_other"]) : Cal P w K mg base CX0 1 "_law_due" ["_law_one", "_law_other"] (spE K R__law_due) := by
  refine cal_sp D_ sc__law_due (fun vs H Q E h => by obtain ⟨zs, r, h1, ⟨d, e, rfl, _⟩, _⟩ := h; exact h1.len) fun f cdv A outer s H vs Q E hr h => ⟨_, (pss_cons (ps_if (pt_cmpR (op_neDK K hr.units) (pe_callB (call_lenK K) (by rfl) B.len (by decide +kernel) (pa_cons (pe_ix (ix_seqK K) (pv 0) pe_int (fun _ _ => rfl)) pa_nil)) (pe_callB (call_lenK K) (by rfl) B.len (by decide +kernel) (pa_cons (pe_ix (ix_seqK K) (pv 1) pe_int (fun _ _ => rfl)) pa_nil)) (nomark _))
    (pss_one (ps_ret pe_non))
    pss_nil)
    (pss_cons (ps_if (PW.pt (pw_or (pt_cmpR op_gt (pe_op op_add (pe_callB (call_lenK K) (by rfl) B.len (by decide +kernel) (pa_cons (pe_ix (ix_seqK K) (pv 0) pe_int (fun _ _ => rfl)) pa_nil)) (pe_callB (call_lenK K) (by rfl) B.len (by decide +kernel) (pa_cons (pe_ix (ix_seqK K) (pv 1) pe_int (fun _ _ => rfl)) pa_nil))) pe_int (nomark _)) (pw_or1 (pt_cmpR op_gt (pe_op op_add (pe_callB (call_lenK K) (by rfl) B.len (by decide +kernel) (pa_cons (pe_ix (ix_seqK K) (pv 0) pe_int (fun _ _ => rfl)) pa_nil)) (pe_callB (call_lenK K) (by rfl) B.len (by decide +kernel) (pa_cons (pe_ix (ix_seqK K) (pv 1) pe_int (fun _ _ => rfl)) pa_nil))) pe_int (nomark _)))))
    (pss_one (ps_ret pe_non))
    pss_nil)
    (pss_cons (ps_set (i := 2) sc__law_due.nd rfl (.inl rfl) (pe_lst pa_nil))
    (pss_cons (ps_set (i := 3) sc__law_due.nd rfl (.inl rfl) (pe_lst pa_nil))
    (pss_cons (ps_for PassesOwn.never rfl (pi_range1 (by rfl) B.range (pa_cons (pe_callB (call_lenK K) (by rfl) B.len (by decide +kernel) (pa_cons (pe_ix (ix_seqK K) (pv 0) pe_int (fun _ _ => rfl)) pa_nil)) pa_nil)) (pg_name (i := 4) sc__law_due.nd rfl (.inl rfl))
    (pss_cons (ps_if (pt_cmpR (op_niDK K (hu65 hr)) (pe_tup (pa_cons (pe_ix (ix_seqK K) (pe_ix (ix_seqK K) (pv 0) pe_int (fun _ _ => rfl)) (pv 4) (fun _ _ => rfl)) (pa_cons (pe_ix (ix_seqK K) (pe_ix (ix_seqK K) (pv 1) pe_int (fun _ _ => rfl)) (pv 4) (fun _ _ => rfl)) pa_nil))) (pv 2) (by rfl))
    (pss_one (ps_expr (pe_bmK K PySem.F.plainAttrs_list PySem.F.slot_list_append PySem.F.type_list_append mt_append (pv 2) (pa_cons (pe_tup (pa_cons (pe_ix (ix_seqK K) (pe_ix (ix_seqK K) (pv 0) pe_int (fun _ _ => rfl)) (pv 4) (fun _ _ => rfl)) (pa_cons (pe_ix (ix_seqK K) (pe_ix (ix_seqK K) (pv 1) pe_int (fun _ _ => rfl)) (pv 4) (fun _ _ => rfl)) pa_nil))) pa_nil))))
    pss_nil)
    (pss_one (ps_expr (pe_bmK K PySem.F.plainAttrs_list PySem.F.slot_list_append PySem.F.type_list_append mt_append (pv 3) (pa_cons (pe_bmK K PySem.F.plainAttrs_list PySem.F.slot_list_index PySem.F.type_list_index (mt_indexDK K (hu65 hr)) (pv 2) (pa_cons (pe_tup (pa_cons (pe_ix (ix_seqK K) (pe_ix (ix_seqK K) (pv 0) pe_int (fun _ _ => rfl)) (pv 4) (fun _ _ => rfl)) (pa_cons (pe_ix (ix_seqK K) (pe_ix (ix_seqK K) (pv 1) pe_int (fun _ _ => rfl)) (pv 4) (fun _ _ => rfl)) pa_nil))) pa_nil)) pa_nil))))))
    (pss_cons (ps_set (i := 5) sc__law_due.nd rfl (.inl rfl) (pe_lst pa_nil))
    (pss_cons (ps_for PassesOwn.never rfl (pi_listK K (pe_ix (ix_seqK K) (pv 0) pe_int (fun _ _ => rfl))) (pg_name (i := 6) sc__law_due.nd rfl (.inr rfl))
    (pss_one (ps_expr (pe_bmK K PySem.F.plainAttrs_list PySem.F.slot_list_append PySem.F.type_list_append mt_append (pv 5) (pa_cons (pe_lc (own := [("_law_pair", 7)]) (g := gName 7) (tt := tYes) rfl sc__law_due.nd (pi_listK K (pv 2)) (blkOk_by (N := N__law_due) (sc := defScope s__law_due) (by decide +kernel)) (fun _ _ _ _ _ => pg_name (i := 7) sc__law_due.nd rfl (Or.inl rfl)) (fun _ _ _ _ _ => pts_nil) (fun _ _ _ _ _ => (pe_ix (ix_seqK K) (pv 6) (pe_ix (ix_seqK K) (pv 7) pe_int (fun _ _ => rfl)) (fun _ _ => rfl)))) pa_nil)))))
    (pss_cons (ps_for PassesOwn.never rfl (pi_listK K (pe_ix (ix_seqK K) (pv 1) pe_int (fun _ _ => rfl))) (pg_name (i := 6) sc__law_due.nd rfl (.inr rfl))
    (pss_one (ps_expr (pe_bmK K PySem.F.plainAttrs_list PySem.F.slot_list_append PySem.F.type_list_append mt_append (pv 5) (pa_cons (pe_lc (own := [("_law_pair", 7)]) (g := gName 7) (tt := tYes) rfl sc__law_due.nd (pi_listK K (pv 2)) (blkOk_by (N := N__law_due) (sc := defScope s__law_due) (by decide +kernel)) (fun _ _ _ _ _ => pg_name (i := 7) sc__law_due.nd rfl (Or.inl rfl)) (fun _ _ _ _ _ => pts_nil) (fun _ _ _ _ _ => (pe_ix (ix_seqK K) (pv 6) (pe_ix (ix_seqK K) (pv 7) pe_int (fun _ _ => rfl)) (fun _ _ => rfl)))) pa_nil)))))
    (pss_one (ps_ret (pe_tup (pa_cons (pe_op op_cat (pe_ix (ix_seqK K) (pv 0) pe_int (fun _ _ => rfl)) (pe_lc (own := [("_law_shaft", 8)]) (g := gName 8) (tt := tYes) rfl sc__law_due.nd (pi_listK K (pe_ix (ix_seqK K) (pv 1) pe_int (fun _ _ => rfl))) (blkOk_by (N := N__law_due) (sc := defScope s__law_due) (by decide +kernel)) (fun _ _ _ _ _ => pg_name (i := 8) sc__law_due.nd rfl (Or.inl rfl)) (fun _ _ _ _ _ => pts_nil) (fun _ _ _ _ _ => (pe_op op_add (pe_callB (call_lenK K) (by rfl) B.len (by decide +kernel) (pa_cons (pe_ix (ix_seqK K) (pv 0) pe_int (fun _ _ => rfl)) pa_nil)) (pv 8))))) (pa_cons (pv 5) (pa_cons (pv 3) pa_nil)))))))))))))), ?_⟩
  obtain ⟨zs, r, r1, ⟨d, e, rfl, gd, ge, rfl⟩, q⟩ := h
  have n0 := Env.start (N := N__law_due) r1
  have d1 := gd.ti.len
  have d2 := gd.tr
  have d3 := gd.th
  have d4 := gd.ti.wide
  have e1' := ge.ti.len
  have e2' := ge.tr
  have e3' := ge.th
  have e4' := ge.ti.wide
  have lens : ∀ (ρ : Rho), ρ[0]? = some (some (.d (enc d))) → ρ[1]? = some (some (.d (enc e))) → True := fun _ _ _ => trivial
  have none_ : ∀ (H' : Hp) (D : Ends), Ex H H' → D.rt = Q → (fits0 d e && fits1 d e) = false → tRet (tC .non) D (start N__law_due vs) H' := fun H' D ex hD hf => by
    refine s_retV v_non (n0.mono ex) fun v H2 e2 r2 => ?_
    rw [hD]
    exact q v H2 (ex.trans e2) (by unfold due9; rw [hf]; exact r2)
  refine t_test (v_neI (v_len (xs := d.tr) (v_tr (d := d) (v_var rfl))) (v_len (xs := e.tr) (v_tr (d := e) (v_var rfl)))) _ _ n0 _ fun H1 e1 => ?_
  by_cases hl : (d.tr.length : Int) = (e.tr.length : Int)
  rotate_left
  · rw [decide_eq_false hl]
    exact none_ H1 _ e1 rfl (by unfold fits0; rw [decide_eq_false hl]; rfl)
  rw [decide_eq_true hl]
  have n1 := n0.mono e1
  refine t_or (b := decide ((60 : Int) < (d.th.length : Int) + (e.th.length : Int))) (t_test (v_gt (v_add (v_len (xs := d.th) (v_th (d := d) (v_var rfl))) (v_len (xs := e.th) (v_th (d := e) (v_var rfl)))) v_int)) (fun _ => t_test (v_gt (v_add (v_len (xs := d.ti) (v_ti (d := d) (v_var rfl))) (v_len (xs := e.ti) (v_ti (d := e) (v_var rfl)))) v_int)) _ _ n1 _ fun H2 e2 => ?_
  have ef : (decide ((60 : Int) < (d.th.length : Int) + (e.th.length : Int)) || decide ((60 : Int) < (d.ti.length : Int) + (e.ti.length : Int))) = !(fits0 d e && fits1 d e) := by
    unfold fits0 fits1
    rw [decide_eq_true hl, Bool.true_and, Bool.not_and, ← decide_not, ← decide_not]
    congr 1
    · exact decide_eq_decide.mpr (by omega)
    · exact decide_eq_decide.mpr (by omega)
  rw [ef]
  cases hf : (fits0 d e && fits1 d e) with
  | false => exact none_ H2 _ (e1.trans e2) rfl hf
  | true =>
    have h0 : fits0 d e = true := by rw [Bool.and_eq_true] at hf; exact hf.1
    obtain ⟨p1, p2, p3⟩ := pairs_len h0
    have E3 : Ex H H2 := e1.trans e2
    have n3 := n1.mono e2
    have l0 : (start N__law_due vs).length = 9 := n0.1
    refine q_empty fun pp hpp gpp => ?_
    refine q_empty fun pt hpt gpt => ?_
    have e5 := (Ex.new (o := .lst []) hpp).trans (Ex.new (o := .lst []) hpt)
    have ne : pp ≠ pt := ne_of_none upd_same hpt
    have ptH : H2 pt = none := fresh_back (Ex.new (o := .lst []) hpp) hpt
    have s2 : (((start N__law_due vs).set 2 (some (V.ref pp))).set 3 (some (V.ref pt)))[2]? = some (some (.ref pp)) := by rw [List.getElem?_set_ne (by decide)]; exact List.getElem?_set_self (by omega)
    have s3 : (((start N__law_due vs).set 2 (some (V.ref pp))).set 3 (some (V.ref pt)))[3]? = some (some (.ref pt)) := List.getElem?_set_self (by rw [List.length_set]; omega)
    have n5 : Env K H2 (((start N__law_due vs).set 2 (some (V.ref pp))).set 3 (some (V.ref pt))) [some (.d (enc d)), some (.d (enc e)), none, none, none, none, none, none, none] := ((n3.drop 2).drop 3).only rfl fun x z h => by
      rcases x with _ | _ | _ | _ | _ | _ | _ | _ | _ | x <;> first | exact h | cases h
    generalize (((start N__law_due vs).set 2 (some (V.ref pp))).set 3 (some (V.ref pt))) = σ5 at s2 s3 n5 ⊢
    have l5 : σ5.length = 9 := n5.1
    refine (v_len (xs := d.tr) (v_tr (d := d) (v_var rfl))) _ _ (n5.mono e5) _ fun v6 H6 e6 r6 => ?_
    cases Tp.int_inv r6
    refine ⟨(d.tr.length : Int), rfl, by omega, by omega, ?_⟩
    refine for_range (lo := 0) (n := (d.tr.length : Int).toNat) (fun k σ' H' => Buts [4] σ5 σ' ∧ Ex H2 H' ∧ TL H' pp (firsts ((pairsOf d e).take k)) ∧ H' pt = some (.lst (((List.range k).map fun i => ((numK (pairsOf d e) i : Nat) : Int)).map V.int))) ⟨Buts.refl _ σ5, e5.trans e6, ⟨[], e6 _ _ (by rw [upd_ne ne]; exact upd_same), ⟨rfl, fun i t q h1 h2 => by cases h1⟩⟩, e6 _ _ upd_same⟩ (fun k σ' H' hk pv => ?_) (fun σ8 H8 pv => ?_)
    · obtain ⟨bt, ex, tl, t3⟩ := pv
      have hk2 : k < d.tr.length := by rw [Int.toNat_natCast] at hk; exact hk
      have l6 : σ'.length = 9 := by rw [bt.len]; exact l5
      rw [show (0 : Int) + (k : Int) = (k : Int) from Int.zero_add _]
      have hq := pairs_at h0 hk2
      have b7 : Buts [4] σ5 (σ'.set 4 (some (V.int (k : Int)))) := bt.set _ (by decide)
      have s4 : (σ'.set 4 (some (V.int (k : Int))))[4]? = some (some (.int (k : Int))) := List.getElem?_set_self (by omega)
      have exB : ∀ H3, ExB pp pt H' H3 → Ex H2 H3 := fun H3 xb x o hx => xb x o (fun q => by rw [q, hpp] at hx; cases hx) (fun q => by rw [q, ptH] at hx; cases hx) (ex _ _ hx)
      have hl := firsts_lenK (pairsOf d e) k (by omega)
      have hte : ∀ acc : List (Int × Int), VD K (tTup (tCons (tOp (rIx K) (tOp (rIx K) (tVar 0) (tC (.int 2))) (tVar 4)) (tCons (tOp (rIx K) (tOp (rIx K) (tVar 1) (tC (.int 2))) (tVar 4)) tNil))) [some (.d (enc d)), some (.d (enc e)), some (.d (enc acc)), none, some (.d (.int (k : Int))), none, none, none, none] (enc ((d.tr.getD k default, e.tr.getD k default) : Int × Int)) := fun acc =>
        v_tup (ds := [.int (d.tr.getD k default), .int (e.tr.getD k default)]) (a_cons (VE.eq (v_ix (xs := d.tr) (v_tr (d := d) (v_var rfl)) (v_var rfl) (by omega) (by omega)) (by rw [Int.toNat_natCast]; rfl)) (a_cons (VE.eq (v_ix (xs := e.tr) (v_tr (d := e) (v_var rfl)) (v_var rfl) (by omega) (by omega)) (by rw [Int.toNat_natCast]; rfl)) a_nil)) (by simp)
      refine s_pairTurn (i := 2) (j := 3) (q := (d.tr.getD k default, e.tr.getD k default)) (fun acc => [some (.d (enc d)), some (.d (enc e)), some (.d (enc acc)), none, some (.d (.int (k : Int))), none, none, none, none]) hte (fun acc => v_var rfl) (by rw [b7.at_ 2 (by decide)]; exact s2) (by rw [b7.at_ 3 (by decide)]; exact s3) ne (fun H3 acc' xb tl2 => ?_) tl t3 ⟨by omega, by rw [List.length_map, List.length_range]; omega⟩ fun H3 xb tl2 t32 => ⟨b7, exB H3 xb, ?_, ?_⟩
      · exact (((b7.env (n5.mono (exB H3 xb))).add 2 (z := .d (enc acc')) (by rw [b7.at_ 2 (by decide)]; exact s2) tl2.tp).add 4 (z := .d (.int (k : Int))) s4 (.int _)).only rfl fun x z h => by
          rcases x with _ | _ | _ | _ | _ | _ | _ | _ | _ | x <;> first | exact h | cases h
      · have hn := firsts_next (xs := pairsOf d e) (k := k) (by omega)
        rw [← hq] at tl2
        by_cases hm : (pairsOf d e).getD k default ∈ firsts ((pairsOf d e).take k)
        · rw [if_pos hm] at tl2 hn
          rw [hn]; exact tl2
        · rw [if_neg hm] at tl2 hn
          rw [hn]; exact tl2
      · have hn := firsts_next (xs := pairsOf d e) (k := k) (by omega)
        rw [← hq] at t32
        rw [List.range_succ, List.map_append]
        have hk3 : numK (pairsOf d e) k = idxD (firsts ((pairsOf d e).take (k + 1))) ((pairsOf d e).getD k default) := rfl
        by_cases hm : (pairsOf d e).getD k default ∈ firsts ((pairsOf d e).take k)
        · rw [if_pos hm] at t32 hn
          rw [hn] at hk3
          rw [List.map_singleton, hk3]; exact t32
        · rw [if_neg hm] at t32 hn
          rw [hn] at hk3
          rw [List.map_singleton, hk3]; exact t32
    · obtain ⟨bt, ex, tl, t3⟩ := pv
      rw [Int.toNat_natCast, ← p1] at tl t3
      rw [List.take_length] at tl
      have l8 : σ8.length = 9 := by rw [bt.len]; exact l5
      have fl := firsts_le h0
      have n8 : Env K H8 σ8 [some (.d (enc d)), some (.d (enc e)), some (.d (enc (firsts (pairsOf d e)))), some (.d (enc (besideD d e).tr)), none, none, none, none, none] := (((bt.env (n5.mono ex)).add 2 (z := .d (enc (firsts (pairsOf d e)))) (by rw [bt.at_ 2 (by decide)]; exact s2) tl.tp).add 3 (z := .d (enc (besideD d e).tr)) (by rw [bt.at_ 3 (by decide)]; exact s3) (Tp.ints t3)).only rfl fun x z h => by
        rcases x with _ | _ | _ | _ | _ | _ | _ | _ | _ | x <;> first | exact h | cases h
      refine q_empty fun p5 hp5 g5 => ?_
      have t5 : (σ8.set 5 (some (V.ref p5)))[5]? = some (some (.ref p5)) := List.getElem?_set_self (by omega)
      have n9 : Env K H8 (σ8.set 5 (some (.ref p5))) [some (.d (enc d)), some (.d (enc e)), some (.d (enc (firsts (pairsOf d e)))), some (.d (enc (besideD d e).tr)), none, none, none, none, none] := n8.drop 5
      have l9 : (σ8.set 5 (some (V.ref p5))).length = 9 := n9.1
      generalize (σ8.set 5 (some (V.ref p5))) = σ9 at t5 n9 l9
      refine q_growLE (i := 5) (j := 6) (acc := ([] : Cl)) (ys := d.ti) (fun row : List Int => (firsts (pairsOf d e)).map fun p => row.getD p.1.toNat default) (by decide) (s_ixT (ds := [enc d.th, enc d.ti, enc d.tr]) (s_var rfl) v_int rfl) (by simp; omega) t5 g5 n9 (fun row hrow => n_lc (xs := firsts (pairsOf d e)) (fun p : Int × Int => row.getD p.1.toNat default) (v_var rfl) (by omega) (by decide) fun p hp => VD.toN (v_ix (xs := row) (i := p.1) (v_var rfl) (v_ixT (ds := [.int p.1, .int p.2]) (v_var rfl) v_int rfl) (by have := gd.tl p.1 (firsts_sub hp).1; omega) (by have := gd.tl p.1 (firsts_sub hp).1; have := gd.ti.rows row hrow; omega)) rfl) fun σ10 H10 b10 g10 => ?_
      have n10 : Env K H8 σ10 [some (.d (enc d)), some (.d (enc e)), some (.d (enc (firsts (pairsOf d e)))), some (.d (enc (besideD d e).tr)), none, none, none, none, none] := b10.env n9
      refine q_growLE (i := 5) (j := 6) (ys := e.ti) (fun row : List Int => (firsts (pairsOf d e)).map fun p => row.getD p.2.toNat default) (by decide) (s_ixT (ds := [enc e.th, enc e.ti, enc e.tr]) (s_var rfl) v_int rfl) (by simp; omega) (by rw [b10.at_ 5 (by decide)]; exact t5) g10 n10 (fun row hrow => n_lc (xs := firsts (pairsOf d e)) (fun p : Int × Int => row.getD p.2.toNat default) (v_var rfl) (by omega) (by decide) fun p hp => VD.toN (v_ix (xs := row) (i := p.2) (v_var rfl) (v_ixT (ds := [.int p.1, .int p.2]) (v_var rfl) v_int rfl) (by have := ge.tl p.2 (firsts_sub hp).2; omega) (by have := ge.tl p.2 (firsts_sub hp).2; have := ge.ti.rows row hrow; omega)) rfl) fun σ11 H11 b11 g11 => ?_
      have n11 : Env K H11 σ11 [some (.d (enc d)), some (.d (enc e)), none, some (.d (enc (besideD d e).tr)), none, some (.d (enc (besideD d e).ti)), none, none, none] := ((b11.env (n10.mono g11.ex)).add 5 (z := .d (enc (besideD d e).ti)) (by rw [b11.at_ 5 (by decide), b10.at_ 5 (by decide)]; exact t5) g11.tp).only rfl fun x z h => by
        rcases x with _ | _ | _ | _ | _ | _ | _ | _ | _ | x <;> first | exact h | cases h
      refine s_retV (z := .d (enc (besideD d e))) (v_tup (ds := [enc (besideD d e).th, enc (besideD d e).ti, enc (besideD d e).tr]) (a_cons (VN.toD (n_catI (ns := d.th) (ms := e.th.map fun s => s + (d.ti.length : Int)) (v_th (d := d) (v_var rfl)) (VN.toD (VN.eq (n_lc (xs := e.th) (fun s : Int => (d.ti.length : Int) + s) (v_th (d := e) (v_var rfl)) (by omega) (by decide) fun s hs => VD.toN (v_add (v_len (xs := d.ti) (v_ti (d := d) (v_var rfl))) (v_var rfl)) rfl) (by congr 1; exact List.map_congr_left fun s _ => Int.add_comm _ _))) (by rw [List.length_map]; omega))) (a_cons (v_var rfl) (a_cons (v_var rfl) a_nil))) (by simp)) n11 fun v H12 e12 r12 => q v H12 (E3.trans ((ex.trans g11.ex).trans e12)) (by unfold due9; rw [if_pos hf]; exact r12)

/-! law -/
abbrev s_law : Stmt := topS 27
abbrev N_law : List Str := ["_law_script", "_law_one", "_law_other", "_law_treadling", "_law_due_here", "_law_handed", "_law_draft", "_law_turn", "_law_found", "_law_ones", "_law_others", "_law_both", "_law_row", "_law_k"]
theorem sc_law : FnScope N_law ["_law_script"] (defScope s_law) := ⟨rfl, rfl, rfl, by decide +kernel, rfl, by decide +kernel, by decide +kernel⟩

abbrev L9 (d e : Dr) (u : PyData) (x8 x9 x10 x11 : Option Ent) : Rho := [none, some (.d (enc d)), some (.d (enc e)), none, some (.d u), some (.d (enc ([d, e] : List Dr))), none, none, x8, x9, x10, x11, none, none]
theorem ok_law (B : Blt mg) {aL aX y1 y2 y3 : Addr} (X_ : FitX K mg "NoFit" "NoCloth" "NoDraft" "NoNote" aL aX y1 y2 y3) (C__law_draft_by : Cal P w K mg base CX0 2 "_law_draft_by" ["_law_script", "_law_at"] (spR K R__law_draft_by)) (C__law_cell_at : Cal P w K mg base CX0 1 "_law_cell_at" ["_law_script", "_law_k"] (spR K R__law_cell_at)) (C__law_due : Cal P w K mg base CX0 1 "_law_due" ["_law_one", "_law_other"] (spE K R__law_due)) (C__law_copied : Cal P w K mg base CX0 1 "_law_copied" ["_law_cloth"] (spR K R__law_copied)) (C__law_told : Cal P w K mg base CX0 7 "_law_told" ["_law_one", "_law_other"] (spR K R__law_told)) (C__law_woven : Cal P w K mg base CX0 1 "_law_woven" ["_law_draft"] (spR K R__law_woven)) (C__law_draft_is : Cal P w K mg base CX0 2 "_law_draft_is" ["_law_found", "_law_due_here"] (spR K R__law_draft_is)) {f : Addr} {fd : FuncData} (F : Fun K "law" "law" s_law f fd) : FnOk P w K mg base CX0 8 f fd ["_law_script"] (spLaw K) := by
  refine F.ok sc_law (fun vs H Q E h => ?_) (fun cdv A outer s H vs Q E hr h => ?_)
  · obtain ⟨a, ns, rfl, _⟩ := h
    rfl
  · obtain ⟨a0, ns, rfl, hS, q⟩ := h
    refine ⟨_, (pss_cons (ps_set (i := 1) sc_law.nd rfl (.inl rfl) (pe_calK K P w mg base C__law_draft_by (hr.mono (by decide)) (by rfl) (pa_cons (pv 0) (pa_cons pe_int pa_nil))))
    (pss_cons (ps_set (i := 2) sc_law.nd rfl (.inr rfl) (pe_calK K P w mg base C__law_draft_by (hr.mono (by decide)) (by rfl) (pa_cons (pv 0) (pa_cons pe_int pa_nil))))
    (pss_cut (ps_if (pt_cmpR op_gt (pe_op op_mod (pe_calK K P w mg base C__law_cell_at (hr.mono (by decide)) (by rfl) (pa_cons (pv 0) (pa_cons pe_int pa_nil))) pe_int) pe_int (nomark _))
    (pss_cons (ps_setLc (i := 3) (own := [("_law_k", 13)]) (g := gName 13) (tt := tYes) rfl sc_law.nd rfl rfl (sw_true rfl rfl rfl (by decide +kernel)) (pi_range1 (by rfl) B.range (pa_cons (pe_callB (call_lenK K) (by rfl) B.len (by decide +kernel) (pa_cons (pe_ix (ix_seqK K) (pv 1) pe_int (fun _ _ => rfl)) pa_nil)) pa_nil)) (blkOk_by (N := N_law) (sc := defScope s_law) (by decide +kernel)) (fun _ _ _ _ _ => pg_name (i := 13) sc_law.nd rfl (Or.inl rfl)) (fun _ _ _ _ _ => pts_nil) (fun _ _ _ _ _ => (pe_ix (ix_seqK K) (pe_ix (ix_seqK K) (pv 2) pe_int (fun _ _ => rfl)) (pe_op op_mod (pv 13) (pe_callB (call_lenK K) (by rfl) B.len (by decide +kernel) (pa_cons (pe_ix (ix_seqK K) (pv 2) pe_int (fun _ _ => rfl)) pa_nil))) (fun _ _ => rfl))))
    (pss_one (ps_set (i := 2) sc_law.nd rfl (.inr rfl) (pe_tup (pa_cons (pe_ix (ix_seqK K) (pv 2) pe_int (fun _ _ => rfl)) (pa_cons (pe_ix (ix_seqK K) (pv 2) pe_int (fun _ _ => rfl)) (pa_cons (pv 3) pa_nil)))))))
    pss_nil)
    (pss_cons (ps_set (i := 4) sc_law.nd rfl (.inl rfl) (pe_calK K P w mg base C__law_due (hr.mono (by decide)) (by rfl) (pa_cons (pv 1) (pa_cons (pv 2) pa_nil))))
    (pss_cons (ps_set (i := 5) sc_law.nd rfl (.inl rfl) (pe_lst pa_nil))
    (pss_cons (ps_for PassesOwn.never rfl (pi_tupK K (pe_tup (pa_cons (pv 1) (pa_cons (pv 2) pa_nil)))) (pg_name (i := 6) sc_law.nd rfl (.inl rfl))
    (pss_one (ps_expr (pe_bmK K PySem.F.plainAttrs_list PySem.F.slot_list_append PySem.F.type_list_append mt_append (pv 5) (pa_cons (pe_tup (pa_cons (pe_callTy (call_listK K) (by rfl) B.list (by decide +kernel) (pa_cons (pe_ix (ix_seqK K) (pv 6) pe_int (fun _ _ => rfl)) pa_nil)) (pa_cons (pe_calK K P w mg base C__law_copied (hr.mono (by decide)) (by rfl) (pa_cons (pe_ix (ix_seqK K) (pv 6) pe_int (fun _ _ => rfl)) pa_nil)) (pa_cons (pe_callTy (call_listK K) (by rfl) B.list (by decide +kernel) (pa_cons (pe_ix (ix_seqK K) (pv 6) pe_int (fun _ _ => rfl)) pa_nil)) pa_nil)))) pa_nil)))))
    (pss_cons (ps_for PassesOwn.never rfl (pi_range1 (by rfl) B.range (pa_cons pe_int pa_nil)) (pg_name (i := 7) sc_law.nd rfl (.inl rfl))
    (pss_cons (ps_set (i := 8) sc_law.nd rfl (.inl rfl) (pe_calK K P w mg base C__law_told (hr.mono (by decide)) (by rfl) (pa_cons (pe_ix (ix_seqK K) (pv 5) pe_int (fun _ _ => rfl)) (pa_cons (pe_ix (ix_seqK K) (pv 5) pe_int (fun _ _ => rfl)) pa_nil))))
    (pss_cons (ps_if (pt_cmpR (op_neDK K hr.units) (pv 5) (pe_lst (pa_cons (pv 1) (pa_cons (pv 2) pa_nil))) (nomark _))
    (pss_one (ps_ret pe_bl))
    pss_nil)
    (pss_one (ps_if (pt_cmpR op_isN (pv 4) pe_non (nomark _))
    (pss_one (ps_if (pt_cmpR (op_neDK K hr.units) (pv 8) (pe_lst (pa_cons pe_bl pa_nil)) (nomark _))
    (pss_one (ps_ret pe_bl))
    pss_nil))
    (pss_cons (ps_set (i := 9) sc_law.nd rfl (.inr rfl) (pe_calK K P w mg base C__law_woven (hr.mono (by decide)) (by rfl) (pa_cons (pv 1) pa_nil)))
    (pss_cons (ps_set (i := 10) sc_law.nd rfl (.inr rfl) (pe_calK K P w mg base C__law_woven (hr.mono (by decide)) (by rfl) (pa_cons (pv 2) pa_nil)))
    (pss_cons (ps_setLc (i := 11) (own := [("_law_k", 13)]) (g := gName 13) (tt := tYes) rfl sc_law.nd rfl rfl (sw_true rfl rfl rfl (by decide +kernel)) (pi_range1 (by rfl) B.range (pa_cons (pe_callB (call_lenK K) (by rfl) B.len (by decide +kernel) (pa_cons (pv 9) pa_nil)) pa_nil)) (blkOk_by (N := N_law) (sc := defScope s_law) (by decide +kernel)) (fun _ _ _ _ _ => pg_name (i := 13) sc_law.nd rfl (Or.inl rfl)) (fun _ _ _ _ _ => pts_nil) (fun _ _ _ _ _ => (pe_op op_cat (pe_ix (ix_seqK K) (pv 9) (pv 13) (fun _ _ => rfl)) (pe_ix (ix_seqK K) (pv 10) (pv 13) (fun _ _ => rfl)))))
    (pss_cons (ps_if (PW.pt (pw_or (pt_not (pt_val (pe_calK K P w mg base C__law_draft_is (hr.mono (by decide)) (by rfl) (pa_cons (pv 8) (pa_cons (pv 4) pa_nil))))) (pw_or1 (pt_cmpR (op_neDK K hr.units) (pe_calK K P w mg base C__law_woven (hr.mono (by decide)) (by rfl) (pa_cons (pv 8) pa_nil)) (pv 11) (nomark _)))))
    (pss_one (ps_ret pe_bl))
    pss_nil)
    (pss_cons (ps_expr (pe_bmK K PySem.F.plainAttrs_list PySem.F.slot_list_append PySem.F.type_list_append mt_append (pe_ix (ix_seqK K) (pv 8) pe_int (fun _ _ => rfl)) (pa_cons pe_int pa_nil)))
    (pss_cons (ps_if (pt_cmpR (op_neDK K hr.units) (pe_ix (ix_seqK K) (pv 8) pe_int (fun _ _ => rfl)) (pe_ix (ix_seqK K) (pv 4) pe_int (fun _ _ => rfl)) (nomark _))
    (pss_one (ps_ret pe_bl))
    pss_nil)
    (pss_cons (ps_for PassesOwn.never rfl (pi_listK K (pe_ix (ix_seqK K) (pv 8) pe_int (fun _ _ => rfl))) (pg_name (i := 12) sc_law.nd rfl (.inl rfl))
    (pss_one (ps_expr (pe_bmK K PySem.F.plainAttrs_list PySem.F.slot_list_append PySem.F.type_list_append mt_append (pv 12) (pa_cons pe_int pa_nil)))))
    (pss_cons (ps_if (pt_cmpR (op_neDK K hr.units) (pe_ix (ix_seqK K) (pv 8) pe_int (fun _ _ => rfl)) (pe_lc (own := [("_law_row", 12)]) (g := gName 12) (tt := tYes) rfl sc_law.nd (pi_listK K (pe_ix (ix_seqK K) (pv 4) pe_int (fun _ _ => rfl))) (blkOk_by (N := N_law) (sc := defScope s_law) (by decide +kernel)) (fun _ _ _ _ _ => pg_name (i := 12) sc_law.nd rfl (Or.inl rfl)) (fun _ _ _ _ _ => pts_nil) (fun _ _ _ _ _ => (pe_op op_cat (pv 12) (pe_lst (pa_cons pe_int pa_nil))))) (nomark _))
    (pss_one (ps_ret pe_bl))
    pss_nil)
    (pss_cons (ps_expr (pe_bm0K K PySem.F.plainAttrs_list PySem.F.slot_list_clear PySem.F.type_list_clear mt_clear (pe_ix (ix_seqK K) (pv 8) pe_int (fun _ _ => rfl))))
    (pss_one (ps_expr (pe_bmK K PySem.F.plainAttrs_list PySem.F.slot_list_append PySem.F.type_list_append mt_append (pe_ix (ix_seqK K) (pv 8) pe_int (fun _ _ => rfl)) (pa_cons pe_int pa_nil))))))))))))))))))
    (pss_one (ps_ret (pe_cmpR (op_eqDK K hr.units) (pv 5) (pe_lst (pa_cons (pv 1) (pa_cons (pv 2) pa_nil))) (nomark _))))))))))), ?_⟩
    have n0 : Env K H (L2.start N_law [.ref a0]) (startR N_law [.scr ns]) := Env.start (.cons ⟨a0, rfl, hS⟩ .nil)
    have gd := draftBy_good ns 1
    have ge0 := draftBy_good ns 9
    generalize hd0 : draftBy ns 1 = d at gd
    generalize he0 : draftBy ns 9 = e0 at ge0
    have d1 := gd.ti.len
    have d2 := gd.tr
    have d3 := gd.th
    have u1 := ge0.tr
    refine q_setN (d := enc d) (n_call (a_cons (v_var rfl) (a_cons v_int a_nil)) ⟨ns, 1, rfl, by rw [hd0]⟩) n0 fun v1 H1 e1 w1 n1 => ?_
    refine q_setN (d := enc e0) (n_call (a_cons (v_var rfl) (a_cons v_int a_nil)) ⟨ns, 9, rfl, by rw [he0]⟩) n1 fun v2 H2 e2 w2 n2 => ?_
    refine ⟨fun σ' H' => ∃ e, GoodD e ∧ Env K H' σ' [none, some (.d (enc d)), some (.d (enc e)), none, none, none, none, none, none, none, none, none, none, none], ?_, ?_⟩
    · refine t_test (v_gt (v_mod (v_cell 0 (v_var rfl) v_int rfl) v_int (by decide)) v_int) _ _ n2 _ fun H3 e3 => ?_
      have n3 := n2.mono e3
      by_cases hk : 0 < cellAt ns 0 % 4
      · rw [decide_eq_true hk]
        refine q_setN (d := enc ((List.range d.tr.length).map fun k => e0.tr.getD (k % e0.tr.length) default)) (VN.eq (n_rg (m := (d.tr.length : Int)) (fun k => e0.tr.getD (k % e0.tr.length) default) (v_len (xs := d.tr) (v_tr (d := d) (v_var rfl))) (by omega) (by omega) (by decide) fun k hk => VD.toN (VE.eq (v_ix (xs := e0.tr) (i := (k : Int) % (e0.tr.length : Int)) (v_tr (d := e0) (v_var rfl)) (v_mod (v_var rfl) (v_len (xs := e0.tr) (v_tr (d := e0) (v_var rfl))) (by omega)) (Int.emod_nonneg _ (by omega)) (Int.emod_lt_of_pos _ (by omega))) (by rw [← Int.natCast_emod, Int.toNat_natCast])) rfl) (by rw [Int.toNat_natCast])) n3 fun v3 H4 e4 w4 n4 => ?_
        generalize hT : ((List.range d.tr.length).map fun k => e0.tr.getD (k % e0.tr.length) default) = T at w4 n4
        have lT : T.length = d.tr.length := by rw [← hT]; simp
        have mT : ∀ t ∈ T, t ∈ e0.tr := fun t ht => by
          rw [← hT] at ht
          obtain ⟨k, _, rfl⟩ := List.mem_map.mp ht
          have hm : k % e0.tr.length < e0.tr.length := Nat.mod_lt _ (by omega)
          rw [getD_lt hm]
          exact List.getElem_mem _
        have gT : GoodD ⟨e0.th, e0.ti, T⟩ := ⟨ge0.ti, ge0.th, by show 1 ≤ T.length ∧ T.length ≤ 60; omega, ge0.sh, fun t ht => ge0.tl t (mT t ht)⟩
        refine s_setV (i := 2) (z := .d (enc (⟨e0.th, e0.ti, T⟩ : Dr))) (v_tup (ds := [enc e0.th, enc e0.ti, enc T]) (a_cons (v_th (d := e0) (v_var rfl)) (a_cons (v_ti (d := e0) (v_var rfl)) (a_cons (v_var rfl) a_nil))) (by simp)) n4 fun v5 H5 e5 w5 n5 => ⟨_, gT, n5.only rfl fun x z h => ?_⟩
        rcases x with _ | _ | _ | _ | _ | _ | _ | _ | _ | _ | _ | _ | _ | _ | x <;> first | exact h | cases h
      · rw [decide_eq_false hk]
        refine ⟨e0, ge0, n3.only rfl fun x z h => ?_⟩
        rcases x with _ | _ | _ | _ | _ | _ | _ | _ | _ | _ | _ | _ | _ | _ | x <;> first | exact h | cases h
    · rintro σ H ⟨e, ge, n⟩
      have c1 := ge.ti.len
      have c2 := ge.tr
      have c3 := ge.th
      have l0 : σ.length = 14 := n.1
      refine q_setV (z := .d (due9 d e)) (v_callE (a_cons (v_var rfl) (a_cons (v_var rfl) a_nil)) ⟨d, e, rfl, gd, ge, rfl⟩) n fun v4 H4 e4 w4 n4 => ?_
      refine q_empty fun p hp gp => ?_
      obtain ⟨v1', s1, r1⟩ := n4.2 1 _ rfl
      obtain ⟨v2', s2, r2⟩ := n4.2 2 _ rfl
      have n5 : Env K H4 ((σ.set 4 (some v4)).set 5 (some (.ref p))) [none, some (.d (enc d)), some (.d (enc e)), none, some (.d (due9 d e)), none, none, none, none, none, none, none, none, none] := (n4.drop 5).only rfl fun x z h => by
        rcases x with _ | _ | _ | _ | _ | _ | _ | _ | _ | _ | _ | _ | _ | _ | x <;> first | exact h | cases h
      have s5 : ((σ.set 4 (some v4)).set 5 (some (V.ref p)))[5]? = some (some (.ref p)) := List.getElem?_set_self (by simp [l0])
      refine ⟨v1', by rw [List.getElem?_set_ne (by decide)]; exact s1, v2', by rw [List.getElem?_set_ne (by decide)]; exact s2, (show 2 ≤ sizeLine by decide), fun a ha => ⟨a, rfl, ⟨_, SqT.of upd_same⟩, ?_⟩⟩
      generalize ((σ.set 4 (some v4)).set 5 (some (V.ref p))) = σ5 at n5 s5 ⊢
      have l5 : σ5.length = 14 := n5.1
      have ap : a ≠ p := fun q => by rw [q, upd_same] at ha; cases ha
      have hpa : upd H4 p (.lst []) a = H4 a := upd_ne ap
      have ha4 : H4 a = none := by rw [← hpa]; exact ha
      have eB : Ex H4 (upd H4 a (.tup [v1', v2'])) := Ex.new ha4
      have gB : Grown (upd H4 a (.tup [v1', v2'])) (upd (upd H4 p (.lst [])) a (.tup [v1', v2'])) p [] := grown_start (by rw [upd_ne ap.symm]; exact hp) (fun x o hx => by
        by_cases q : x = a
        · subst q
          rw [upd_same] at hx ⊢
          exact hx
        · rw [upd_ne q] at hx ⊢
          exact Ex.new hp _ _ hx) (by rw [upd_ne ap.symm]; exact upd_same)
      have nB := n5.mono eB
      have tB1 : Tp (upd H4 a (.tup [v1', v2'])) v1' (enc d) := Tp.mono eB r1
      have tB2 : Tp (upd H4 a (.tup [v1', v2'])) v2' (enc e) := Tp.mono eB r2
      have hBa : upd H4 a (.tup [v1', v2']) a = some (.tup [v1', v2']) := upd_same
      generalize upd H4 a (.tup [v1', v2']) = B9 at eB gB nB tB1 tB2 hBa
      generalize upd (upd H4 p (.lst [])) a (.tup [v1', v2']) = H6 at gB ⊢
      refine for_tup (xs := [v1', v2']) (fun k σ' H' => But 6 σ5 σ' ∧ Grown B9 H' p ((([d, e] : List Dr).take k).map enc)) ⟨But.refl 6 σ5, gB⟩ (fun k σ' H' _ pv => SqT.of (pv.2.ex _ _ hBa)) (fun k x σ' H' hx pv => ?_) (fun σ6 H7 pv => ?_)
      · obtain ⟨bt, g⟩ := pv
        have hdd : ∃ dd : Dr, GoodD dd ∧ Tp B9 x (enc dd) ∧ ((([d, e] : List Dr).take (k + 1)).map enc) = ((([d, e] : List Dr).take k).map enc) ++ [enc dd] ∧ k ≤ 1 := by
          rcases k with _ | _ | k
          · cases hx; exact ⟨d, gd, tB1, rfl, by decide⟩
          · cases hx; exact ⟨e, ge, tB2, rfl, by decide⟩
          · cases hx
        obtain ⟨dd, gdd, tdd, eqd, hk1⟩ := hdd
        have z1 := gdd.ti.len
        have n' : Env K H' (σ'.set 6 (some x)) [none, none, none, none, none, none, some (.d (enc dd)), none, none, none, none, none, none, none] := (((bt.env nB).mono g.ex).set 6 (z := .d (enc dd)) (Tp.mono g.ex tdd)).only rfl fun x z h => by
          rcases x with _ | _ | _ | _ | _ | _ | _ | _ | _ | _ | _ | _ | _ | _ | x <;> first | exact h | cases h
        refine s_push (i := 5) (d := enc dd) (by rw [List.getElem?_set_ne (by decide), bt.at_ 5 (by decide)]; exact s5) g (by rw [List.length_map, List.length_take]; omega) n' (n_tup (ds := [enc dd.th, enc dd.ti, enc dd.tr]) (an_cons (n_list (v_th (d := dd) (v_var rfl))) (an_cons (n_call (a_cons (v_ti (d := dd) (v_var rfl)) a_nil) ⟨dd.ti, rfl, by omega, rfl⟩) (an_cons (n_list (v_tr (d := dd) (v_var rfl))) an_nil))) (by simp)) fun H3 _ g3 => ⟨bt.set _, ?_⟩
        rw [eqd]
        exact g3
      · obtain ⟨bt6, g6⟩ := pv
        have n7 : Env K H7 σ6 (L9 d e (due9 d e) none none none none) := ((bt6.env (nB.mono g6.ex)).add 5 (z := .d (enc ([d, e] : List Dr))) (by rw [bt6.at_ 5 (by decide)]; exact s5) g6.tp).only rfl fun x z h => by
          rcases x with _ | _ | _ | _ | _ | _ | _ | _ | _ | _ | _ | _ | _ | _ | x <;> first | exact h | cases h
        have l6 : σ6.length = 14 := n7.1
        refine q_loopR1 (js := [7, 8, 9, 10, 11, 12]) (by decide) v_int ⟨by decide, by decide⟩ n7 (fun k hk σ' H' D' bt ex n' rt hnx => ?_) fun σ' H' bt ex => s_retV (VE.eq (v_eq (α := List Dr) (x := ([d, e] : List Dr)) (y := ([d, e] : List Dr)) (v_var rfl) (v_lst (ds := [enc d, enc e]) (a_cons (v_var rfl) (a_cons (v_var rfl) a_nil)) (by simp))) (by rw [decide_eq_true rfl])) (bt.env (n7.mono ex)) fun v H3 e3 r3 => by
          cases Tp.bl_inv r3
          exact q H3
        have l7 : σ'.length = 14 := by rw [bt.len]; exact l6
        replace n' : Env K H' (σ'.set 7 (some (.int (k : Int)))) (L9 d e (due9 d e) none none none none) := n'.only rfl fun x z h => by
          rcases x with _ | _ | _ | _ | _ | _ | _ | _ | _ | _ | _ | _ | _ | _ | x <;> first | exact h | cases h
        refine q_setN (d := told9 d e) (n_call (a_cons (v_ix (xs := ([d, e] : List Dr)) (i := 0) (v_var rfl) v_int (by decide) (by simp)) (a_cons (v_ix (xs := ([d, e] : List Dr)) (i := 1) (v_var rfl) v_int (by decide) (by simp)) a_nil)) ⟨d, e, rfl, gd, ge, rfl⟩) n' fun v8 H8 e8 w8 n8 => ?_
        refine q_ifF (t_test (v_ne (α := List Dr) (x := ([d, e] : List Dr)) (y := ([d, e] : List Dr)) (v_var rfl) (v_lst (ds := [enc d, enc e]) (a_cons (v_var rfl) (a_cons (v_var rfl) a_nil)) (by simp)))) (by simp) n8 fun H9 e9 => ?_
        have n9 := n8.mono e9
        have b9 : Buts [7, 8, 9, 10, 11, 12] σ6 ((σ'.set 7 (some (V.int (k : Int)))).set 8 (some v8)) := (bt.set _ (by decide)).set _ (by decide)
        refine t_test (v_isN (d := due9 d e) (v_var rfl) v_non) _ _ n9 _ fun H10 e10 => ?_
        have n10 := n9.mono e10
        have E10 : Ex H7 H10 := ex.trans (e8.trans (e9.trans e10))
        by_cases hf : (fits0 d e && fits1 d e) = true
        rotate_left
        · have hdue : due9 d e = .none := by unfold due9; rw [if_neg hf]
          have htold : told9 d e = enc ([true] : List Bool) := by unfold told9; rw [if_neg hf]; rfl
          rw [hdue]
          rw [htold] at n10
          exact s_ifF (t_test (v_ne (α := List Bool) (x := [true]) (y := [true]) (v_var rfl) (v_lst (ds := [.bool true]) (a_cons v_bl a_nil) (by decide)))) (by simp) n10 fun H11 e11 => hnx _ _ b9 (E10.trans e11)
        · have hdue : due9 d e = enc (besideD d e) := by unfold due9; rw [if_pos hf]
          have htold : told9 d e = enc (besideD d e) := by unfold told9; rw [if_pos hf]
          have h0 : fits0 d e = true := by rw [Bool.and_eq_true] at hf; exact hf.1
          have h1 : fits1 d e = true := by rw [Bool.and_eq_true] at hf; exact hf.2
          have gD := besideD_good gd ge h0 h1
          have hw := woven_beside gd ge h0
          rw [hdue]
          rw [htold, hdue] at n10
          rw [hdue] at n'
          rw [htold] at w8
          generalize besideD d e = DD at *
          have gc := woven_good gd
          have gc2 := woven_good ge
          have q1 := gD.ti.len
          have q2 := gD.th
          have q3 := gD.tr
          have q4 := gD.ti.wide
          have lw : (woven d).length = d.tr.length := by unfold woven; rw [List.length_map]
          have lw2 : (woven e).length = e.tr.length := by unfold woven; rw [List.length_map]
          have hle := (pairs_len h0).2.1
          have n7' := n7
          rw [hdue] at n7'
          refine q_setN (d := enc (woven d)) (n_call (a_cons (v_var rfl) a_nil) ⟨d, rfl, gd, rfl⟩) n10 fun v9 H11 e11 w11 n11 => ?_
          refine q_setN (d := enc (woven e)) (n_call (a_cons (v_var rfl) a_nil) ⟨e, rfl, ge, rfl⟩) n11 fun v10 H12 e12 w12 n12 => ?_
          refine q_setN (d := enc (woven DD)) (VN.eq (n_rg (m := ((woven d).length : Int)) (fun k => (woven d).getD k default ++ (woven e).getD k default) (v_len (xs := woven d) (v_var rfl)) (by omega) (by omega) (by decide) fun k hk => n_catI (ns := (woven d).getD k default) (ms := (woven e).getD k default) (VE.eq (v_ix (xs := woven d) (v_var rfl) (v_var rfl) (by omega) (by omega)) (by rw [Int.toNat_natCast])) (VE.eq (v_ix (xs := woven e) (v_var rfl) (v_var rfl) (by omega) (by omega)) (by rw [Int.toNat_natCast])) (by have := (gc.row (gc.at_ (k := k) (by omega))).2; have := (gc2.row (gc2.at_ (k := k) (by omega))).2; omega)) (by rw [Int.toNat_natCast, hw])) n12 fun v11 H13 e13 w13 n13 => ?_
          have b1 : DD.th.length ≤ 1000 := by omega
          have b2 : DD.tr.length ≤ 1000 := by omega
          have b3 : DD.ti.length ≤ 1000 := by omega
          have b4 : ∀ row ∈ DD.ti, row.length ≤ 1000 := fun row hr => by have := gD.ti.row hr; omega
          refine q_ifF (t_or (b := false) (VT.eq (t_not (t_B (VN.toD (n_call (d := .bool true) (a_cons (v_var rfl) (a_cons (v_var rfl) a_nil)) ⟨DD, DD, rfl, b1, b2, b3, b4, by rw [decide_eq_true rfl]⟩)))) rfl) fun _ => t_test (v_ne (α := Cl) (x := woven DD) (y := woven DD) (VN.toD (n_call (a_cons (v_var rfl) a_nil) ⟨DD, rfl, gD, rfl⟩)) (v_var rfl))) (by simp) n13 fun H14 e14 => ?_
          obtain ⟨t, a, b, c, F, rfl, DA, f1, f2, f3, f4, x1, x2, x3, x4, x5⟩ := w8.dat
          have S : DSep a b c F := ⟨x1, x2, x3, x4, x5⟩
          have EE : Ex H8 H14 := e9.trans (e10.trans (e11.trans (e12.trans (e13.trans e14))))
          replace DA := DA.mono EE
          have E14 : Ex H' H14 := e8.trans EE
          have b14 : Buts [7, 8, 9, 10, 11, 12] σ6 (((((σ'.set 7 (some (V.int (k : Int)))).set 8 (some (V.ref t))).set 9 (some v9)).set 10 (some v10)).set 11 (some v11)) := ((b9.set _ (by decide)).set _ (by decide)).set _ (by decide)
          have s8 : (((((σ'.set 7 (some (V.int (k : Int)))).set 8 (some (V.ref t))).set 9 (some v9)).set 10 (some v10)).set 11 (some v11))[8]? = some (some (.ref t)) := by
            rw [List.getElem?_set_ne (by decide), List.getElem?_set_ne (by decide), List.getElem?_set_ne (by decide)]
            exact List.getElem?_set_self (by simp [l7])
          generalize (((((σ'.set 7 (some (V.int (k : Int)))).set 8 (some (V.ref t))).set 9 (some v9)).set 10 (some v10)).set 11 (some v11)) = σ14 at b14 s8 ⊢
          have lit : ∀ (Hx : Hp) (σx : L2.St) (u : Dr), Ex H' Hx → Buts [7, 8, 9, 10, 11, 12] σ6 σx → σx[8]? = some (some (.ref t)) → Tp Hx (.ref t) (enc u) → Env K Hx σx (L9 d e (enc DD) (some (.d (enc u))) none none none) := fun Hx σx u E B h8 T8 =>
            ((B.env (n7'.mono (ex.trans E))).add 8 (z := .d (enc u)) h8 T8).only rfl fun x z h => by
              rcases x with _ | _ | _ | _ | _ | _ | _ | _ | _ | _ | _ | _ | _ | _ | x <;> first | exact h | cases h
          -- found[0].append(1)
          refine q_appI (n := 1) (val_ixT (val_var s8) val_c DA.tup rfl) DA.th (by omega) ?_
          have A1 := DA.setTh S (DD.th ++ [1])
          have E15 : Ex H' (upd H14 a (.lst ((DD.th ++ [1]).map V.int))) := Off.ex (F := [a]) off_one E14 fun x hx => by rw [List.mem_singleton.mp hx]; exact f1
          generalize upd H14 a (.lst ((DD.th ++ [1]).map V.int)) = H15 at A1 E15 ⊢
          have n15 := lit _ _ _ E15 b14 s8 A1.tp
          refine q_ifF (t_test (v_ne (α := List Int) (x := DD.tr) (y := DD.tr) (v_tr (d := ⟨DD.th ++ [1], DD.ti, DD.tr⟩) (v_var rfl)) (v_tr (d := DD) (v_var rfl)))) (by simp) n15 fun H16 e16 => ?_
          replace A1 := A1.mono e16
          refine val_ixT (val_var s8) val_c A1.tup rfl _ ⟨b, rfl, ⟨_, SqL.of A1.ti.lst⟩, ?_⟩
          have lsr := rows_lists A1.ti.rows
          refine for_rows (F := F) (c := DD.ti) (fun row => row ++ [1]) A1.ti.lst A1.ti.out A1.ti.rows (fun row hrow ar σ1 H17 D1 ha1 hr1 bt1 off rt1 hn1 => ?_) fun σ17 H17 b17 r17 off => ?_
          · exact s_app7 (i := 12) (row := row) (by rw [List.getElem?_set_self (by rw [bt1.len, b14.len, l6]; exact (by decide : 12 < 14))]) hr1 (by have := b4 row hrow; omega) (hn1 _ (bt1.set _))
          have A2 := A1.setTi off lsr S.aF A1.ti.out S.cF r17
          have E17 : Ex H' H17 := off.ex (E15.trans e16) f4
          have B17 := b14.but b17 (by decide)
          have s17 : σ17[8]? = some (some (.ref t)) := by rw [b17.at_ 8 (by decide)]; exact s8
          have n17 := lit _ _ _ E17 B17 s17 A2.tp
          refine q_ifF (t_test (v_ne (α := Cl) (x := DD.ti.map fun row => row ++ [1]) (y := DD.ti.map fun row => row ++ [1]) (v_ti (d := ⟨_, DD.ti.map fun row => row ++ [1], _⟩) (v_var rfl)) (VN.toD (n_lc (xs := DD.ti) (fun row : List Int => row ++ [1]) (v_ti (d := DD) (v_var rfl)) (by omega) (by decide) fun row hrow => n_catI (ms := [1]) (v_var rfl) (v_lst (ds := [.int 1]) (a_cons v_int a_nil) (by decide)) (by have := b4 row hrow; simp; omega))))) (by simp) n17 fun H18 e18 => ?_
          replace A2 := A2.mono e18
          refine q_clear (val_ixT (val_var s17) val_c A2.tup rfl) A2.ti.lst ?_
          have tb : t ≠ b := A2.tne A2.ti.lst
          have E19 : Ex H' (upd H18 b (.lst [])) := Off.ex (F := [b]) off_one (E17.trans e18) fun x hx => by rw [List.mem_singleton.mp hx]; exact f2
          have h19t : upd H18 b (.lst []) t = some (.tup [.ref a, .ref b, .ref c]) := by rw [upd_ne tb]; exact A2.tup
          have h19c : upd H18 b (.lst []) c = some (.lst (DD.tr.map V.int)) := by rw [upd_ne S.bc.symm]; exact A2.tr
          refine s_appI (n := 1) (row := DD.tr) (val_ixT (val_var s17) val_c h19t rfl) h19c (by omega) ?_
          exact hnx _ _ B17 (ex.trans (Off.ex (F := [c]) off_one E19 fun x hx => by rw [List.mem_singleton.mp hx]; exact f3))
end
theorem all_mk {l : PySem.W.OpenLaw} {w : World} {K : PySem.W.Frag} {h : Heap} {mg : Str → Option Value} {fa : Addr} (X : K.In h) (G : h.Ns mainGlobals mg) (hfa : mg "law" = some (.ref fa))
    {od0 an0 : Option Addr} {sl0 : Array (Option Value)} {oc0 kV0 dc0 pm0 cd0 ct0 : Value} {f0 : Addr}
    {od1 an1 : Option Addr} {sl1 : Array (Option Value)} {oc1 kV1 dc1 pm1 cd1 ct1 : Value} {f1 : Addr}
    {od2 an2 : Option Addr} {sl2 : Array (Option Value)} {oc2 kV2 dc2 pm2 cd2 ct2 : Value} {f2 : Addr}
    {od3 an3 : Option Addr} {sl3 : Array (Option Value)} {oc3 kV3 dc3 pm3 cd3 ct3 : Value} {f3 : Addr}
    {od4 an4 : Option Addr} {sl4 : Array (Option Value)} {oc4 kV4 dc4 pm4 cd4 ct4 : Value} {f4 : Addr}
    {od5 an5 : Option Addr} {sl5 : Array (Option Value)} {oc5 kV5 dc5 pm5 cd5 ct5 : Value} {f5 : Addr}
    {od6 an6 : Option Addr} {sl6 : Array (Option Value)} {oc6 kV6 dc6 pm6 cd6 ct6 : Value} {f6 : Addr}
    {od7 an7 : Option Addr} {sl7 : Array (Option Value)} {oc7 kV7 dc7 pm7 cd7 ct7 : Value} {f7 : Addr}
    {od8 an8 : Option Addr} {sl8 : Array (Option Value)} {oc8 kV8 dc8 pm8 cd8 ct8 : Value} {f8 : Addr}
    {od9 an9 : Option Addr} {sl9 : Array (Option Value)} {oc9 kV9 dc9 pm9 cd9 ct9 : Value} {f9 : Addr}
    {od10 an10 : Option Addr} {sl10 : Array (Option Value)} {oc10 kV10 dc10 pm10 cd10 ct10 : Value} {f10 : Addr}
    {od11 an11 : Option Addr} {sl11 : Array (Option Value)} {oc11 kV11 dc11 pm11 cd11 ct11 : Value} {f11 : Addr}
    {od12 an12 : Option Addr} {sl12 : Array (Option Value)} {oc12 kV12 dc12 pm12 cd12 ct12 : Value} {f12 : Addr}
    {od13 an13 : Option Addr} {sl13 : Array (Option Value)} {oc13 kV13 dc13 pm13 cd13 ct13 : Value} {f13 : Addr}
    {od14 an14 : Option Addr} {sl14 : Array (Option Value)} {oc14 kV14 dc14 pm14 cd14 ct14 : Value} {f14 : Addr}
    {od15 an15 : Option Addr} {sl15 : Array (Option Value)} {oc15 kV15 dc15 pm15 cd15 ct15 : Value} {f15 : Addr}
    {od16 an16 : Option Addr} {sl16 : Array (Option Value)} {oc16 kV16 dc16 pm16 cd16 ct16 : Value} {f16 : Addr}
    {od17 an17 : Option Addr} {sl17 : Array (Option Value)} {oc17 kV17 dc17 pm17 cd17 ct17 : Value} {f17 : Addr}
    {aL aX y1 y2 y3 : Addr}
    {tm : Tok}
    (a0 : PySem.W.nsIn K mainGlobals "is_number" = some (some (.ref f0))) (l0 : K.lookup f0 = some ⟨oc0, od0, .func (PySem.W.fnOf "is_number" "is_number" (defArgs s_is_number) (defBody s_is_number) (defScope s_is_number) .none kV0 dc0 pm0 an0 cd0 ct0), sl0⟩) (c0 : PySem.W.codeIn K cd0 "is_number" = true) (k0 : PySem.W.keepIn K (.ref f0) = true)
    (a1 : PySem.W.nsIn K mainGlobals "is_row" = some (some (.ref f1))) (l1 : K.lookup f1 = some ⟨oc1, od1, .func (PySem.W.fnOf "is_row" "is_row" (defArgs s_is_row) (defBody s_is_row) (defScope s_is_row) .none kV1 dc1 pm1 an1 cd1 ct1), sl1⟩) (c1 : PySem.W.codeIn K cd1 "is_row" = true) (k1 : PySem.W.keepIn K (.ref f1) = true)
    (a2 : PySem.W.nsIn K mainGlobals "is_cloth" = some (some (.ref f2))) (l2 : K.lookup f2 = some ⟨oc2, od2, .func (PySem.W.fnOf "is_cloth" "is_cloth" (defArgs s_is_cloth) (defBody s_is_cloth) (defScope s_is_cloth) .none kV2 dc2 pm2 an2 cd2 ct2), sl2⟩) (c2 : PySem.W.codeIn K cd2 "is_cloth" = true) (k2 : PySem.W.keepIn K (.ref f2) = true)
    (a3 : PySem.W.nsIn K mainGlobals "is_draft" = some (some (.ref f3))) (l3 : K.lookup f3 = some ⟨oc3, od3, .func (PySem.W.fnOf "is_draft" "is_draft" (defArgs s_is_draft) (defBody s_is_draft) (defScope s_is_draft) .none kV3 dc3 pm3 an3 cd3 ct3), sl3⟩) (c3 : PySem.W.codeIn K cd3 "is_draft" = true) (k3 : PySem.W.keepIn K (.ref f3) = true)
    (a4 : PySem.W.nsIn K mainGlobals "need_draft" = some (some (.ref f4))) (l4 : K.lookup f4 = some ⟨oc4, od4, .func (PySem.W.fnOf "need_draft" "need_draft" (defArgs s_need_draft) (defBody s_need_draft) (defScope s_need_draft) .none kV4 dc4 pm4 an4 cd4 ct4), sl4⟩) (c4 : PySem.W.codeIn K cd4 "need_draft" = true) (k4 : PySem.W.keepIn K (.ref f4) = true)
    (a5 : PySem.W.nsIn K mainGlobals "need_fit" = some (some (.ref f5))) (l5 : K.lookup f5 = some ⟨oc5, od5, .func (PySem.W.fnOf "need_fit" "need_fit" (defArgs s_need_fit) (defBody s_need_fit) (defScope s_need_fit) .none kV5 dc5 pm5 an5 cd5 ct5), sl5⟩) (c5 : PySem.W.codeIn K cd5 "need_fit" = true) (k5 : PySem.W.keepIn K (.ref f5) = true)
    (a6 : PySem.W.nsIn K mainGlobals "draft_beside" = some (some (.ref f6))) (l6 : K.lookup f6 = some ⟨oc6, od6, .func (PySem.W.fnOf "draft_beside" "draft_beside" (defArgs s_draft_beside) (defBody s_draft_beside) (defScope s_draft_beside) .none kV6 dc6 pm6 an6 cd6 ct6), sl6⟩) (c6 : PySem.W.codeIn K cd6 "draft_beside" = true) (k6 : PySem.W.keepIn K (.ref f6) = true)
    (a7 : PySem.W.nsIn K mainGlobals "_law_cell_at" = some (some (.ref f7))) (l7 : K.lookup f7 = some ⟨oc7, od7, .func (PySem.W.fnOf "_law_cell_at" "_law_cell_at" (defArgs s__law_cell_at) (defBody s__law_cell_at) (defScope s__law_cell_at) .none kV7 dc7 pm7 an7 cd7 ct7), sl7⟩) (c7 : PySem.W.codeIn K cd7 "_law_cell_at" = true) (k7 : PySem.W.keepIn K (.ref f7) = true)
    (a8 : PySem.W.nsIn K mainGlobals "_law_mixed" = some (some (.ref f8))) (l8 : K.lookup f8 = some ⟨oc8, od8, .func (PySem.W.fnOf "_law_mixed" "_law_mixed" (defArgs s__law_mixed) (defBody s__law_mixed) (defScope s__law_mixed) .none kV8 dc8 pm8 an8 cd8 ct8), sl8⟩) (c8 : PySem.W.codeIn K cd8 "_law_mixed" = true) (k8 : PySem.W.keepIn K (.ref f8) = true)
    (a9 : PySem.W.nsIn K mainGlobals "_law_draft_by" = some (some (.ref f9))) (l9 : K.lookup f9 = some ⟨oc9, od9, .func (PySem.W.fnOf "_law_draft_by" "_law_draft_by" (defArgs s__law_draft_by) (defBody s__law_draft_by) (defScope s__law_draft_by) .none kV9 dc9 pm9 an9 cd9 ct9), sl9⟩) (c9 : PySem.W.codeIn K cd9 "_law_draft_by" = true) (k9 : PySem.W.keepIn K (.ref f9) = true)
    (a10 : PySem.W.nsIn K mainGlobals "_law_woven" = some (some (.ref f10))) (l10 : K.lookup f10 = some ⟨oc10, od10, .func (PySem.W.fnOf "_law_woven" "_law_woven" (defArgs s__law_woven) (defBody s__law_woven) (defScope s__law_woven) .none kV10 dc10 pm10 an10 cd10 ct10), sl10⟩) (c10 : PySem.W.codeIn K cd10 "_law_woven" = true) (k10 : PySem.W.keepIn K (.ref f10) = true)
    (a11 : PySem.W.nsIn K mainGlobals "_law_copied" = some (some (.ref f11))) (l11 : K.lookup f11 = some ⟨oc11, od11, .func (PySem.W.fnOf "_law_copied" "_law_copied" (defArgs s__law_copied) (defBody s__law_copied) (defScope s__law_copied) .none kV11 dc11 pm11 an11 cd11 ct11), sl11⟩) (c11 : PySem.W.codeIn K cd11 "_law_copied" = true) (k11 : PySem.W.keepIn K (.ref f11) = true)
    (a12 : PySem.W.nsIn K mainGlobals "_law_rows_are" = some (some (.ref f12))) (l12 : K.lookup f12 = some ⟨oc12, od12, .func (PySem.W.fnOf "_law_rows_are" "_law_rows_are" (defArgs s__law_rows_are) (defBody s__law_rows_are) (defScope s__law_rows_are) .none kV12 dc12 pm12 an12 cd12 ct12), sl12⟩) (c12 : PySem.W.codeIn K cd12 "_law_rows_are" = true) (k12 : PySem.W.keepIn K (.ref f12) = true)
    (a13 : PySem.W.nsIn K mainGlobals "_law_row_is" = some (some (.ref f13))) (l13 : K.lookup f13 = some ⟨oc13, od13, .func (PySem.W.fnOf "_law_row_is" "_law_row_is" (defArgs s__law_row_is) (defBody s__law_row_is) (defScope s__law_row_is) .none kV13 dc13 pm13 an13 cd13 ct13), sl13⟩) (c13 : PySem.W.codeIn K cd13 "_law_row_is" = true) (k13 : PySem.W.keepIn K (.ref f13) = true)
    (a14 : PySem.W.nsIn K mainGlobals "_law_draft_is" = some (some (.ref f14))) (l14 : K.lookup f14 = some ⟨oc14, od14, .func (PySem.W.fnOf "_law_draft_is" "_law_draft_is" (defArgs s__law_draft_is) (defBody s__law_draft_is) (defScope s__law_draft_is) .none kV14 dc14 pm14 an14 cd14 ct14), sl14⟩) (c14 : PySem.W.codeIn K cd14 "_law_draft_is" = true) (k14 : PySem.W.keepIn K (.ref f14) = true)
    (a15 : PySem.W.nsIn K mainGlobals "_law_told" = some (some (.ref f15))) (l15 : K.lookup f15 = some ⟨oc15, od15, .func (PySem.W.fnOf "_law_told" "_law_told" (defArgs s__law_told) (defBody s__law_told) (defScope s__law_told) .none kV15 dc15 pm15 an15 cd15 ct15), sl15⟩) (c15 : PySem.W.codeIn K cd15 "_law_told" = true) (k15 : PySem.W.keepIn K (.ref f15) = true)
    (a16 : PySem.W.nsIn K mainGlobals "_law_due" = some (some (.ref f16))) (l16 : K.lookup f16 = some ⟨oc16, od16, .func (PySem.W.fnOf "_law_due" "_law_due" (defArgs s__law_due) (defBody s__law_due) (defScope s__law_due) .none kV16 dc16 pm16 an16 cd16 ct16), sl16⟩) (c16 : PySem.W.codeIn K cd16 "_law_due" = true) (k16 : PySem.W.keepIn K (.ref f16) = true)
    (a17 : PySem.W.nsIn K mainGlobals "law" = some (some (.ref f17))) (l17 : K.lookup f17 = some ⟨oc17, od17, .func (PySem.W.fnOf "law" "law" (defArgs s_law) (defBody s_law) (defScope s_law) .none kV17 dc17 pm17 an17 cd17 ct17), sl17⟩) (c17 : PySem.W.codeIn K cd17 "law" = true) (k17 : PySem.W.keepIn K (.ref f17) = true)
    (x_gL : PySem.W.nsIn K mainGlobals "LoomError" = some (some (.ref aL)))
    (x_g : PySem.W.nsIn K mainGlobals "NoFit" = some (some (.ref aX)))
    (x_g1 : PySem.W.nsIn K mainGlobals "NoCloth" = some (some (.ref y1)))
    (x_g2 : PySem.W.nsIn K mainGlobals "NoDraft" = some (some (.ref y2)))
    (x_g3 : PySem.W.nsIn K mainGlobals "NoNote" = some (some (.ref y3)))
    (x_gV : PySem.W.nsIn K mainGlobals "ValueError" = some none)
    (x_ex : PySem.W.excIn K aX [.type "ValueError", .type "Exception", .type "BaseException", .type "object"] "ValueError.__new__" = true)
    (x_kp : PySem.W.keepIn K (.ref aX) = true)
    (x_sb : PySem.W.subIn K (.ref aX) (.type "BaseException") = some true)
    (x_ty : PySem.W.typeIn K (.ref aX) = some (.type "type"))
    (x_lb : PySem.W.subIn K (.ref aL) (.type "BaseException") = some true)
    (x_ld : PySem.W.hasDictIn K aL = true)
    (x_lt : PySem.W.typeIn K (.ref aL) = some (.type "type"))
    (x_up : PySem.W.subIn K (.ref aX) (.ref aL) = some true)
    (x_i0 : PySem.W.kitOne K (.ref aX) (.ref aX) = some true)
    (x_i1 : PySem.W.kitOne K (.ref aX) (.ref y1) = some false)
    (x_i2 : PySem.W.kitOne K (.ref aX) (.ref y2) = some false)
    (x_i3 : PySem.W.kitOne K (.ref aX) (.ref y3) = some false)
    (x_iV : PySem.W.kitOne K (.ref aX) (.type "ValueError") = some true)
    (x_e1 : PySem.W.findIn K (.ref aX) "__getattribute__" = some (some (.builtin "BaseException.__getattribute__")))
    (x_e2 : PySem.W.findIn K (.ref aX) "__getattr__" = some none)
    (x_e4 : PySem.W.hasDictIn K aX = true)
    (x_e5 : PySem.W.findIn K (.ref aX) "__class__" = some (some (.builtin "object.__class__")))
    (x_e6 : PySem.W.specialIn K (.builtin "object.__class__") "__get__" = some (some (.builtin "getset_descriptor.__get__")))
    (x_e7 : PySem.W.takesIn K (.builtin "object.__class__") = some true)
    (x_e8 : PySem.W.mroIn K aX (.type "object") = some true)
    (z_len : PySem.W.nsIn K mainGlobals "len" = some none)
    (z_all : PySem.W.nsIn K mainGlobals "all" = some none)
    (z_any : PySem.W.nsIn K mainGlobals "any" = some none)
    (z_isinstance : PySem.W.nsIn K mainGlobals "isinstance" = some none)
    (z_list : PySem.W.nsIn K mainGlobals "list" = some none)
    (z_tuple : PySem.W.nsIn K mainGlobals "tuple" = some none)
    (z_int : PySem.W.nsIn K mainGlobals "int" = some none)
    (z_bool : PySem.W.nsIn K mainGlobals "bool" = some none)
    (z_str : PySem.W.nsIn K mainGlobals "str" = some none)
    (z_range : PySem.W.nsIn K mainGlobals "range" = some none)
    (z_reversed : PySem.W.nsIn K mainGlobals "reversed" = some none)
    (z_max : PySem.W.nsIn K mainGlobals "max" = some none)
    (z_min : PySem.W.nsIn K mainGlobals "min" = some none)
    (z_most : PySem.W.nsIn K mainGlobals "MOST" = some (some (.int 60 tm)))
    : ∃ fd : FuncData, (∀ (s : Shared) (v : Value), BindsTo s fd ⟨[v], []⟩ [("_law_script", v)]) ∧ ∀ base : Heap, K.In base → base.Ns mainGlobals mg → FnOk l.prog w K mg base CX0 8 fa fd ["_law_script"] (spLaw K) := by
  have e := hfa.symm.trans (PySem.W.mg_of X G a17)
  cases e
  have B : Blt mg := ⟨PySem.W.mg_none_of X G z_len, PySem.W.mg_none_of X G z_all, PySem.W.mg_none_of X G z_any, PySem.W.mg_none_of X G z_isinstance, PySem.W.mg_none_of X G z_list, PySem.W.mg_none_of X G z_tuple, PySem.W.mg_none_of X G z_int, PySem.W.mg_none_of X G z_bool, PySem.W.mg_none_of X G z_str, PySem.W.mg_none_of X G z_range, PySem.W.mg_none_of X G z_reversed, PySem.W.mg_none_of X G z_max, PySem.W.mg_none_of X G z_min, tm, PySem.W.mg_of X G z_most⟩
  have F0 := fun_mk (st := s_is_number) l0 c0 k0
  have D0 : Dfn K mg "is_number" s_is_number ["thing", "least", "most"] := ⟨_, _, PySem.W.mg_of X G a0, F0, F0.binds (ps := ["thing", "least", "most"]) fun _ _ _ _ _ _ us hl => match us, hl with | [_, _, _], _ => rfl⟩
  have F1 := fun_mk (st := s_is_row) l1 c1 k1
  have D1 : Dfn K mg "is_row" s_is_row ["thing", "most"] := ⟨_, _, PySem.W.mg_of X G a1, F1, F1.binds (ps := ["thing", "most"]) fun _ _ _ _ _ _ us hl => match us, hl with | [_, _], _ => rfl⟩
  have F2 := fun_mk (st := s_is_cloth) l2 c2 k2
  have D2 : Dfn K mg "is_cloth" s_is_cloth ["thing"] := ⟨_, _, PySem.W.mg_of X G a2, F2, F2.binds (ps := ["thing"]) fun _ _ _ _ _ _ us hl => match us, hl with | [_], _ => rfl⟩
  have F3 := fun_mk (st := s_is_draft) l3 c3 k3
  have D3 : Dfn K mg "is_draft" s_is_draft ["thing"] := ⟨_, _, PySem.W.mg_of X G a3, F3, F3.binds (ps := ["thing"]) fun _ _ _ _ _ _ us hl => match us, hl with | [_], _ => rfl⟩
  have F4 := fun_mk (st := s_need_draft) l4 c4 k4
  have D4 : Dfn K mg "need_draft" s_need_draft ["thing"] := ⟨_, _, PySem.W.mg_of X G a4, F4, F4.binds (ps := ["thing"]) fun _ _ _ _ _ _ us hl => match us, hl with | [_], _ => rfl⟩
  have F5 := fun_mk (st := s_need_fit) l5 c5 k5
  have D5 : Dfn K mg "need_fit" s_need_fit ["good"] := ⟨_, _, PySem.W.mg_of X G a5, F5, F5.binds (ps := ["good"]) fun _ _ _ _ _ _ us hl => match us, hl with | [_], _ => rfl⟩
  have F6 := fun_mk (st := s_draft_beside) l6 c6 k6
  have D6 : Dfn K mg "draft_beside" s_draft_beside ["one", "other"] := ⟨_, _, PySem.W.mg_of X G a6, F6, F6.binds (ps := ["one", "other"]) fun _ _ _ _ _ _ us hl => match us, hl with | [_, _], _ => rfl⟩
  have F7 := fun_mk (st := s__law_cell_at) l7 c7 k7
  have D7 : Dfn K mg "_law_cell_at" s__law_cell_at ["_law_script", "_law_k"] := ⟨_, _, PySem.W.mg_of X G a7, F7, F7.binds (ps := ["_law_script", "_law_k"]) fun _ _ _ _ _ _ us hl => match us, hl with | [_, _], _ => rfl⟩
  have F8 := fun_mk (st := s__law_mixed) l8 c8 k8
  have D8 : Dfn K mg "_law_mixed" s__law_mixed ["_law_cell", "_law_k"] := ⟨_, _, PySem.W.mg_of X G a8, F8, F8.binds (ps := ["_law_cell", "_law_k"]) fun _ _ _ _ _ _ us hl => match us, hl with | [_, _], _ => rfl⟩
  have F9 := fun_mk (st := s__law_draft_by) l9 c9 k9
  have D9 : Dfn K mg "_law_draft_by" s__law_draft_by ["_law_script", "_law_at"] := ⟨_, _, PySem.W.mg_of X G a9, F9, F9.binds (ps := ["_law_script", "_law_at"]) fun _ _ _ _ _ _ us hl => match us, hl with | [_, _], _ => rfl⟩
  have F10 := fun_mk (st := s__law_woven) l10 c10 k10
  have D10 : Dfn K mg "_law_woven" s__law_woven ["_law_draft"] := ⟨_, _, PySem.W.mg_of X G a10, F10, F10.binds (ps := ["_law_draft"]) fun _ _ _ _ _ _ us hl => match us, hl with | [_], _ => rfl⟩
  have F11 := fun_mk (st := s__law_copied) l11 c11 k11
  have D11 : Dfn K mg "_law_copied" s__law_copied ["_law_cloth"] := ⟨_, _, PySem.W.mg_of X G a11, F11, F11.binds (ps := ["_law_cloth"]) fun _ _ _ _ _ _ us hl => match us, hl with | [_], _ => rfl⟩
  have F12 := fun_mk (st := s__law_rows_are) l12 c12 k12
  have D12 : Dfn K mg "_law_rows_are" s__law_rows_are ["_law_found", "_law_due_here"] := ⟨_, _, PySem.W.mg_of X G a12, F12, F12.binds (ps := ["_law_found", "_law_due_here"]) fun _ _ _ _ _ _ us hl => match us, hl with | [_, _], _ => rfl⟩
  have F13 := fun_mk (st := s__law_row_is) l13 c13 k13
  have D13 : Dfn K mg "_law_row_is" s__law_row_is ["_law_found", "_law_due_here"] := ⟨_, _, PySem.W.mg_of X G a13, F13, F13.binds (ps := ["_law_found", "_law_due_here"]) fun _ _ _ _ _ _ us hl => match us, hl with | [_, _], _ => rfl⟩
  have F14 := fun_mk (st := s__law_draft_is) l14 c14 k14
  have D14 : Dfn K mg "_law_draft_is" s__law_draft_is ["_law_found", "_law_due_here"] := ⟨_, _, PySem.W.mg_of X G a14, F14, F14.binds (ps := ["_law_found", "_law_due_here"]) fun _ _ _ _ _ _ us hl => match us, hl with | [_, _], _ => rfl⟩
  have F15 := fun_mk (st := s__law_told) l15 c15 k15
  have D15 : Dfn K mg "_law_told" s__law_told ["_law_one", "_law_other"] := ⟨_, _, PySem.W.mg_of X G a15, F15, F15.binds (ps := ["_law_one", "_law_other"]) fun _ _ _ _ _ _ us hl => match us, hl with | [_, _], _ => rfl⟩
  have F16 := fun_mk (st := s__law_due) l16 c16 k16
  have D16 : Dfn K mg "_law_due" s__law_due ["_law_one", "_law_other"] := ⟨_, _, PySem.W.mg_of X G a16, F16, F16.binds (ps := ["_law_one", "_law_other"]) fun _ _ _ _ _ _ us hl => match us, hl with | [_, _], _ => rfl⟩
  have F17 := fun_mk (st := s_law) l17 c17 k17
  have X_ : FitX K mg "NoFit" "NoCloth" "NoDraft" "NoNote" aL aX y1 y2 y3 := ⟨PySem.W.mg_of X G x_gL, PySem.W.mg_of X G x_g, PySem.W.mg_of X G x_g1, PySem.W.mg_of X G x_g2, PySem.W.mg_of X G x_g3, PySem.W.mg_none_of X G x_gV, x_ex, x_kp, x_sb, x_ty, x_lb, x_ld, x_lt, x_up, x_i0, x_i1, x_i2, x_i3, x_iV, ⟨x_e1, x_e2, x_sb, x_e4, x_e5, x_e6, x_e7, x_e8⟩⟩
  refine ⟨PySem.W.fnOf "law" "law" (defArgs s_law) (defBody s_law) (defScope s_law) .none kV17 dc17 pm17 an17 cd17 ct17, fun s v => .of_eq rfl, fun base _ _ => ?_⟩
  have C_is_number := c_is_number (P := l.prog) (w := w) (K := K) (mg := mg) (base := base) B  D0
  have C_is_row := c_is_row (P := l.prog) (w := w) (K := K) (mg := mg) (base := base) B C_is_number D1
  have C_is_cloth := c_is_cloth (P := l.prog) (w := w) (K := K) (mg := mg) (base := base) B C_is_row D2
  have C_is_draft := c_is_draft (P := l.prog) (w := w) (K := K) (mg := mg) (base := base) B C_is_cloth C_is_row D3
  have C_need_draft := c_need_draft (P := l.prog) (w := w) (K := K) (mg := mg) (base := base) B C_is_draft D4
  have C_need_fit := c_need_fit (P := l.prog) (w := w) (K := K) (mg := mg) (base := base) B X_  D5
  have C_draft_beside := c_draft_beside (P := l.prog) (w := w) (K := K) (mg := mg) (base := base) B X_ C_need_draft C_need_fit D6
  have C__law_cell_at := c__law_cell_at (P := l.prog) (w := w) (K := K) (mg := mg) (base := base) B  D7
  have C__law_mixed := c__law_mixed (P := l.prog) (w := w) (K := K) (mg := mg) (base := base) B  D8
  have C__law_draft_by := c__law_draft_by (P := l.prog) (w := w) (K := K) (mg := mg) (base := base) B C__law_cell_at C__law_mixed D9
  have C__law_woven := c__law_woven (P := l.prog) (w := w) (K := K) (mg := mg) (base := base) B  D10
  have C__law_copied := c__law_copied (P := l.prog) (w := w) (K := K) (mg := mg) (base := base) B  D11
  have C__law_rows_are := c__law_rows_are (P := l.prog) (w := w) (K := K) (mg := mg) (base := base) B  D12
  have C__law_row_is := c__law_row_is (P := l.prog) (w := w) (K := K) (mg := mg) (base := base) B  D13
  have C__law_draft_is := c__law_draft_is (P := l.prog) (w := w) (K := K) (mg := mg) (base := base) B C__law_row_is C__law_rows_are D14
  have C__law_told := c__law_told (P := l.prog) (w := w) (K := K) (mg := mg) (base := base) B X_ C_draft_beside D15
  have C__law_due := c__law_due (P := l.prog) (w := w) (K := K) (mg := mg) (base := base) B  D16
  exact ok_law B X_ C__law_draft_by C__law_cell_at C__law_due C__law_copied C__law_told C__law_woven C__law_draft_is F17
end DF
open PySem PySem.W PyProof.Rows
set_option maxHeartbeats 0 in
theorem PySem.Challenge.cw_drafthall_k09_drafts_beside_holds : PySem.Challenge.rw_drafthall_k09_drafts_beside.Holds := by
  w_on; o_law; k_head; (case hw => w_witness2)
  k_fill
  refine L2.walk_of (l := PySem.Challenge.rw_drafthall_k09_drafts_beside) (n := 63) (k := 8) (x := "_law_script") (CX := fun _ => L2.CX0) (sp := fun w => DF.spLaw _) rfl (by decide) rfl ⟨rfl, by decide, by decide⟩ (fun w h Y => PySem.W.kIn_of Y) ?F (fun _ _ a ns hl _ hS => ⟨a, ns, rfl, hS, fun _ => rfl⟩) (fun _ _ _ _ _ h => h)
  case F =>
    intro w mg fa h KX G hmg
    refine' DF.all_mk KX G hmg ?a0 ?l0 ?c0 ?k0 ?a1 ?l1 ?c1 ?k1 ?a2 ?l2 ?c2 ?k2 ?a3 ?l3 ?c3 ?k3 ?a4 ?l4 ?c4 ?k4 ?a5 ?l5 ?c5 ?k5 ?a6 ?l6 ?c6 ?k6 ?a7 ?l7 ?c7 ?k7 ?a8 ?l8 ?c8 ?k8 ?a9 ?l9 ?c9 ?k9 ?a10 ?l10 ?c10 ?k10 ?a11 ?l11 ?c11 ?k11 ?a12 ?l12 ?c12 ?k12 ?a13 ?l13 ?c13 ?k13 ?a14 ?l14 ?c14 ?k14 ?a15 ?l15 ?c15 ?k15 ?a16 ?l16 ?c16 ?k16 ?a17 ?l17 ?c17 ?k17 ?x_gL ?x_g ?x_g1 ?x_g2 ?x_g3 ?x_gV ?x_ex ?x_kp ?x_sb ?x_ty ?x_lb ?x_ld ?x_lt ?x_up ?x_i0 ?x_i1 ?x_i2 ?x_i3 ?x_iV ?x_e1 ?x_e2 ?x_e4 ?x_e5 ?x_e6 ?x_e7 ?x_e8 ?z_len ?z_all ?z_any ?z_isinstance ?z_list ?z_tuple ?z_int ?z_bool ?z_str ?z_range ?z_reversed ?z_max ?z_min ?z_most
    (case a0 => k_is); (case l0 => k_is); (case c0 => k_is); (case k0 => k_is); (case a1 => k_is); (case l1 => k_is); (case c1 => k_is); (case k1 => k_is); (case a2 => k_is); (case l2 => k_is); (case c2 => k_is); (case k2 => k_is); (case a3 => k_is); (case l3 => k_is); (case c3 => k_is); (case k3 => k_is); (case a4 => k_is); (case l4 => k_is); (case c4 => k_is); (case k4 => k_is); (case a5 => k_is); (case l5 => k_is); (case c5 => k_is); (case k5 => k_is); (case a6 => k_is); (case l6 => k_is); (case c6 => k_is); (case k6 => k_is); (case a7 => k_is); (case l7 => k_is); (case c7 => k_is); (case k7 => k_is); (case a8 => k_is); (case l8 => k_is); (case c8 => k_is); (case k8 => k_is); (case a9 => k_is); (case l9 => k_is); (case c9 => k_is); (case k9 => k_is); (case a10 => k_is); (case l10 => k_is); (case c10 => k_is); (case k10 => k_is); (case a11 => k_is); (case l11 => k_is); (case c11 => k_is); (case k11 => k_is); (case a12 => k_is); (case l12 => k_is); (case c12 => k_is); (case k12 => k_is); (case a13 => k_is); (case l13 => k_is); (case c13 => k_is); (case k13 => k_is); (case a14 => k_is); (case l14 => k_is); (case c14 => k_is); (case k14 => k_is); (case a15 => k_is); (case l15 => k_is); (case c15 => k_is); (case k15 => k_is); (case a16 => k_is); (case l16 => k_is); (case c16 => k_is); (case k16 => k_is); (case a17 => k_is); (case l17 => k_is); (case c17 => k_is); (case k17 => k_is); (case x_gL => k_is); (case x_g => k_is); (case x_g1 => k_is); (case x_g2 => k_is); (case x_g3 => k_is); (case x_gV => k_is); (case x_ex => k_exc); (case x_kp => k_is); (case x_sb => k_is); (case x_ty => k_is); (case x_lb => k_is); (case x_ld => k_is); (case x_lt => k_is); (case x_up => k_is); (case x_i0 => kit_is); (case x_i1 => kit_is); (case x_i2 => kit_is); (case x_i3 => kit_is); (case x_iV => kit_is); (case x_e1 => k_is); (case x_e2 => k_is); (case x_e4 => k_is); (case x_e5 => k_is); (case x_e6 => k_is); (case x_e7 => k_is); (case x_e8 => k_is); (case z_len => k_is); (case z_all => k_is); (case z_any => k_is); (case z_isinstance => k_is); (case z_list => k_is); (case z_tuple => k_is); (case z_int => k_is); (case z_bool => k_is); (case z_str => k_is); (case z_range => k_is); (case z_reversed => k_is); (case z_max => k_is); (case z_min => k_is); (case z_most => k_is)
