import PyProof.Rows.All
import Wide.All
import OpenK.AllK
import Wide.FinOn
import HandS.ForMost
import HandS.Evl
import HandS.Deep
import HandS.IsInst
import HandS.Rev
import HandS.TupLe
import HandS.ForExc
import HandS.ExcIs
import HandS.ExcCtx
import HandS.Hot
import HandS.HotCalls
import KE.RegKIsAll
import HandS.ForDict
import HandS.TupLen
import KE.KDictDisplayH
import PyProof.StrLawsTight
import PyProof.StrOps2
import HandS.More
import PySem.Challenge.RW_drafthall_k02_what_is_refused
set_option Elab.async false
set_option linter.all false
set_option maxRecDepth 100000
set_option maxHeartbeats 4000000
/-! Readings over plain data: what an expression of the layer tells, without the heap in sight. -/
namespace DF
open PySem L2 Evl

/-! ### data at an address: all lists tracked -/
mutual
inductive Tp (H : Hp) : V → PyData → Prop
  | non : Tp H .non .none
  | bl (b : Bool) : Tp H (.bl b) (.bool b)
  | int (i : Int) : Tp H (.int i) (.int i)
  | str (x : Str) : Tp H (.str x) (.str x)
  | lst {a : Addr} {xs : List V} {ds : List PyData} : H a = some (.lst xs) → TpAll H xs ds → Tp H (.ref a) (.list ds)
  | tup {a : Addr} {xs : List V} {ds : List PyData} : H a = some (.tup xs) → TpAll H xs ds → Tp H (.ref a) (.tuple ds)
  | dic {a : Addr} : H a = some (.dK []) → Tp H (.ref a) (.dict [])
inductive TpAll (H : Hp) : List V → List PyData → Prop
  | nil : TpAll H [] []
  | cons {v : V} {vs : List V} {d : PyData} {ds : List PyData} : Tp H v d → TpAll H vs ds → TpAll H (v :: vs) (d :: ds)
end
mutual
theorem Tp.mono {H H' : Hp} (e : Ex H H') : ∀ {v : V} {d : PyData}, Tp H v d → Tp H' v d
  | _, _, .non => .non
  | _, _, .bl b => .bl b
  | _, _, .int i => .int i
  | _, _, .str x => .str x
  | _, _, .lst h t => .lst (e _ _ h) (TpAll.mono e t)
  | _, _, .tup h t => .tup (e _ _ h) (TpAll.mono e t)
  | _, _, .dic h => .dic (e _ _ h)
theorem TpAll.mono {H H' : Hp} (e : Ex H H') : ∀ {vs : List V} {ds : List PyData}, TpAll H vs ds → TpAll H' vs ds
  | _, _, .nil => .nil
  | _, _, .cons h t => .cons (Tp.mono e h) (TpAll.mono e t)
end
mutual
theorem Tp.dp {K : PySem.W.Frag} {H : Hp} : ∀ {v : V} {d : PyData}, Tp H v d → d.canLay0 = true → Dp K H v d
  | _, _, .non, _ => .non
  | _, _, .bl b, _ => .bl b
  | _, _, .int i, _ => .int i
  | _, _, .str x, _ => .str x
  | _, _, .lst h t, c => .lst (SqL.of h) (TpAll.dp t (by simpa only [PyData.canLay0] using c))
  | _, _, .tup h t, c => .tup (SqT.of h) (TpAll.dp t (by simpa only [PyData.canLay0] using c))
  | _, _, .dic h, c => by simp [PyData.canLay0] at c
theorem TpAll.dp {K : PySem.W.Frag} {H : Hp} : ∀ {vs : List V} {ds : List PyData}, TpAll H vs ds → PyData.canLayAll0 ds = true → DpAll K H vs ds
  | _, _, .nil, _ => .nil
  | _, _, .cons h t, c => by
    simp only [PyData.canLayAll0, Bool.and_eq_true] at c
    exact .cons (Tp.dp h c.1) (TpAll.dp t c.2)
end
theorem TpAll.len {H : Hp} : ∀ {vs : List V} {ds : List PyData}, TpAll H vs ds → vs.length = ds.length
  | _, _, .nil => rfl
  | _, _, .cons _ t => by simp only [List.length_cons]; rw [TpAll.len t]
theorem TpAll.get {H : Hp} : ∀ {vs : List V} {ds : List PyData} {i : Nat} {d : PyData}, TpAll H vs ds → ds[i]? = some d → ∃ v, vs[i]? = some v ∧ Tp H v d
  | _, _, _, _, .nil, e => by simp at e
  | _, _, 0, _, .cons h _, e => by simp at e; subst e; exact ⟨_, rfl, h⟩
  | _, _, i + 1, d, .cons _ t, e => by
    obtain ⟨v, h1, h2⟩ := TpAll.get (i := i) (d := d) t (by simpa using e)
    exact ⟨v, by simpa using h1, h2⟩
theorem TpAll.getV {H : Hp} : ∀ {vs : List V} {ds : List PyData} {i : Nat} {v : V}, TpAll H vs ds → vs[i]? = some v → ∃ d, ds[i]? = some d ∧ Tp H v d
  | _, _, _, _, .nil, e => by simp at e
  | _, _, 0, _, .cons h _, e => by simp at e; subst e; exact ⟨_, rfl, h⟩
  | _, _, i + 1, v, .cons _ t, e => by
    obtain ⟨d, h1, h2⟩ := TpAll.getV (i := i) (v := v) t (by simpa using e)
    exact ⟨d, by simpa using h1, h2⟩
theorem TpAll.snoc {H : Hp} {v : V} {d : PyData} (h : Tp H v d) : ∀ {vs : List V} {ds : List PyData}, TpAll H vs ds → TpAll H (vs ++ [v]) (ds ++ [d])
  | _, _, .nil => .cons h .nil
  | _, _, .cons g t => .cons g (TpAll.snoc h t)
theorem TpAll.append {H : Hp} {ws : List V} {es : List PyData} (h : TpAll H ws es) : ∀ {vs : List V} {ds : List PyData}, TpAll H vs ds → TpAll H (vs ++ ws) (ds ++ es)
  | _, _, .nil => h
  | _, _, .cons g t => .cons g (TpAll.append h t)
theorem TpAll.take {H : Hp} : ∀ (n : Nat) {vs : List V} {ds : List PyData}, TpAll H vs ds → TpAll H (vs.take n) (ds.take n)
  | 0, _, _, _ => .nil
  | _ + 1, _, _, .nil => .nil
  | n + 1, _, _, .cons g t => .cons g (TpAll.take n t)
theorem TpAll.drop {H : Hp} : ∀ (n : Nat) {vs : List V} {ds : List PyData}, TpAll H vs ds → TpAll H (vs.drop n) (ds.drop n)
  | 0, _, _, h => h
  | _ + 1, _, _, .nil => .nil
  | n + 1, _, _, .cons _ t => TpAll.drop n t
theorem TpAll.set {H : Hp} {v : V} {d : PyData} (h : Tp H v d) : ∀ (i : Nat) {vs : List V} {ds : List PyData}, TpAll H vs ds → TpAll H (vs.set i v) (ds.set i d)
  | _, _, _, .nil => .nil
  | 0, _, _, .cons _ t => .cons h t
  | i + 1, _, _, .cons g t => .cons g (TpAll.set h i t)

/-! ### data of one's own: its lists, each once -/
mutual
inductive Own (H : Hp) : V → PyData → List Addr → Prop
  | non : Own H .non .none []
  | bl (b : Bool) : Own H (.bl b) (.bool b) []
  | int (i : Int) : Own H (.int i) (.int i) []
  | str (x : Str) : Own H (.str x) (.str x) []
  | lst {a : Addr} {xs : List V} {ds : List PyData} {F : List Addr} : H a = some (.lst xs) → OwnAll H xs ds F → a ∉ F → Own H (.ref a) (.list ds) (a :: F)
  | tup {a : Addr} {xs : List V} {ds : List PyData} {F : List Addr} : H a = some (.tup xs) → OwnAll H xs ds F → Own H (.ref a) (.tuple ds) F
inductive OwnAll (H : Hp) : List V → List PyData → List Addr → Prop
  | nil : OwnAll H [] [] []
  | cons {v : V} {vs : List V} {d : PyData} {ds : List PyData} {F G : List Addr} : Own H v d F → OwnAll H vs ds G → (∀ a ∈ F, a ∉ G) → OwnAll H (v :: vs) (d :: ds) (F ++ G)
end
mutual
theorem Own.mono {H H' : Hp} (e : Ex H H') : ∀ {v : V} {d : PyData} {F : List Addr}, Own H v d F → Own H' v d F
  | _, _, _, .non => .non
  | _, _, _, .bl b => .bl b
  | _, _, _, .int i => .int i
  | _, _, _, .str x => .str x
  | _, _, _, .lst h t n => .lst (e _ _ h) (OwnAll.mono e t) n
  | _, _, _, .tup h t => .tup (e _ _ h) (OwnAll.mono e t)
theorem OwnAll.mono {H H' : Hp} (e : Ex H H') : ∀ {vs : List V} {ds : List PyData} {F : List Addr}, OwnAll H vs ds F → OwnAll H' vs ds F
  | _, _, _, .nil => .nil
  | _, _, _, .cons h t n => .cons (Own.mono e h) (OwnAll.mono e t) n
end
mutual
theorem Own.tp {H : Hp} : ∀ {v : V} {d : PyData} {F : List Addr}, Own H v d F → Tp H v d
  | _, _, _, .non => .non
  | _, _, _, .bl b => .bl b
  | _, _, _, .int i => .int i
  | _, _, _, .str x => .str x
  | _, _, _, .lst h t _ => .lst h (OwnAll.tp t)
  | _, _, _, .tup h t => .tup h (OwnAll.tp t)
theorem OwnAll.tp {H : Hp} : ∀ {vs : List V} {ds : List PyData} {F : List Addr}, OwnAll H vs ds F → TpAll H vs ds
  | _, _, _, .nil => .nil
  | _, _, _, .cons h t _ => .cons (Own.tp h) (OwnAll.tp t)
end
mutual
theorem Own.at_ {H : Hp} : ∀ {v : V} {d : PyData} {F : List Addr}, Own H v d F → ∀ a ∈ F, ∃ xs, H a = some (.lst xs)
  | _, _, _, .non, _, h => by cases h
  | _, _, _, .bl _, _, h => by cases h
  | _, _, _, .int _, _, h => by cases h
  | _, _, _, .str _, _, h => by cases h
  | _, _, _, .lst g t _, a, h => by
    rcases List.mem_cons.mp h with rfl | h
    · exact ⟨_, g⟩
    · exact OwnAll.at_ t a h
  | _, _, _, .tup _ t, a, h => OwnAll.at_ t a h
theorem OwnAll.at_ {H : Hp} : ∀ {vs : List V} {ds : List PyData} {F : List Addr}, OwnAll H vs ds F → ∀ a ∈ F, ∃ xs, H a = some (.lst xs)
  | _, _, _, .nil, _, h => by cases h
  | _, _, _, .cons g t _, a, h => by
    rcases List.mem_append.mp h with h | h
    · exact Own.at_ g a h
    · exact OwnAll.at_ t a h
end
mutual
theorem Own.off {H : Hp} {b : Addr} {ys : List V} {o : HO} (hb : H b = some (.lst ys)) : ∀ {v : V} {d : PyData} {F : List Addr}, Own H v d F → b ∉ F → Own (upd H b o) v d F
  | _, _, _, .non, _ => .non
  | _, _, _, .bl b, _ => .bl b
  | _, _, _, .int i, _ => .int i
  | _, _, _, .str x, _ => .str x
  | _, _, _, .lst (a := a) (xs := xs) h t n, q => .lst (by rw [upd_ne (fun z => q (by rw [z]; exact List.mem_cons_self))]; exact h) (OwnAll.off hb t fun z => q (List.mem_cons_of_mem _ z)) n
  | _, _, _, .tup (a := a) (xs := xs) h t, q => .tup (by rw [upd_ne (fun z => by rw [z, hb] at h; cases h)]; exact h) (OwnAll.off hb t q)
theorem OwnAll.off {H : Hp} {b : Addr} {ys : List V} {o : HO} (hb : H b = some (.lst ys)) : ∀ {vs : List V} {ds : List PyData} {F : List Addr}, OwnAll H vs ds F → b ∉ F → OwnAll (upd H b o) vs ds F
  | _, _, _, .nil, _ => .nil
  | _, _, _, .cons h t n, q => .cons (Own.off hb h fun z => q (List.mem_append_left _ z)) (OwnAll.off hb t fun z => q (List.mem_append_right _ z)) n
end
theorem OwnAll.snoc {H : Hp} {v : V} {d : PyData} {G : List Addr} (h : Own H v d G) : ∀ {vs : List V} {ds : List PyData} {F : List Addr}, OwnAll H vs ds F → (∀ a ∈ F, a ∉ G) → OwnAll H (vs ++ [v]) (ds ++ [d]) (F ++ G)
  | _, _, _, .nil, _ => by
    have := OwnAll.cons h .nil (fun a _ z => nomatch z)
    simpa using this
  | _, _, _, .cons (F := A) (G := B) g t n, q => by
    have := OwnAll.cons g (OwnAll.snoc h t fun a ha => q a (List.mem_append_right _ ha)) (fun a ha hm => by
      rcases List.mem_append.mp hm with z | z
      · exact n a ha z
      · exact q a (List.mem_append_left _ ha) z)
    simpa [List.append_assoc] using this
theorem OwnAll.append {H : Hp} {ws : List V} {es : List PyData} {G : List Addr} (h : OwnAll H ws es G) : ∀ {vs : List V} {ds : List PyData} {F : List Addr}, OwnAll H vs ds F → (∀ a ∈ F, a ∉ G) → OwnAll H (vs ++ ws) (ds ++ es) (F ++ G)
  | _, _, _, .nil, _ => h
  | _, _, _, .cons (F := A) (G := B) g t n, q => by
    have := OwnAll.cons g (OwnAll.append h t fun a ha => q a (List.mem_append_right _ ha)) (fun a ha hm => by
      rcases List.mem_append.mp hm with z | z
      · exact n a ha z
      · exact q a (List.mem_append_left _ ha) z)
    simpa [List.append_assoc] using this
theorem OwnAll.len {H : Hp} {vs : List V} {ds : List PyData} {F : List Addr} (h : OwnAll H vs ds F) : vs.length = ds.length := h.tp.len

/-- new since H0, and one's own -/
def New (H0 H : Hp) (v : V) (d : PyData) : Prop := ∃ F, Own H v d F ∧ ∀ a ∈ F, H0 a = none
theorem New.tp {H0 H : Hp} {v : V} {d : PyData} : New H0 H v d → Tp H v d := fun ⟨_, h, _⟩ => h.tp
theorem New.mono {H0 H H' : Hp} {v : V} {d : PyData} (e : Ex H H') : New H0 H v d → New H0 H' v d := fun ⟨F, h, n⟩ => ⟨F, h.mono e, n⟩
theorem New.back {H0 H1 H : Hp} {v : V} {d : PyData} (e : Ex H0 H1) : New H1 H v d → New H0 H v d := fun ⟨F, h, n⟩ => ⟨F, h, fun a ha => fresh_back e (n a ha)⟩

/-! ### what a slot holds -/
inductive Ent where
  | d (d : PyData)
  | scr (ns : List Int)
  | is (w : V)
  /-- a fact of it that lasts -/
  | pr (P : Hp → V → Prop) (m : ∀ H H' v, Ex H H' → P H v → P H' v)
def Rep (K : PySem.W.Frag) (H : Hp) (v : V) : Ent → Prop
  | .d d => Tp H v d
  | .scr ns => ∃ a, v = .ref a ∧ SqL K H a (ns.map V.int)
  | .is w => v = w
  | .pr P _ => P H v
abbrev Rho := List (Option Ent)
section
variable {K : PySem.W.Frag} {H H' H1 : Hp} {σ : L2.St} {ρ : Rho}
theorem Rep.mono {v : V} (e : Ex H H') : ∀ {z : Ent}, Rep K H v z → Rep K H' v z
  | .d _, h => Tp.mono e h
  | .scr _, ⟨a, h1, h2⟩ => ⟨a, h1, ex_l e h2⟩
  | .is _, h => h
  | .pr _ m, h => m _ _ _ e h
def Env (K : PySem.W.Frag) (H : Hp) (σ : L2.St) (ρ : Rho) : Prop := σ.length = ρ.length ∧ ∀ (i : Nat) (z : Ent), ρ[i]? = some (some z) → ∃ v, σ[i]? = some (some v) ∧ Rep K H v z
theorem Env.mono (e : Ex H H') (h : Env K H σ ρ) : Env K H' σ ρ := ⟨h.1, fun i z q => let ⟨v, h1, h2⟩ := h.2 i z q; ⟨v, h1, h2.mono e⟩⟩
theorem Env.nil : Env K H [] [] := ⟨rfl, fun i z q => by simp at q⟩
theorem Env.cons {v : V} {z : Ent} (r : Rep K H v z) (h : Env K H σ ρ) : Env K H (some v :: σ) (some z :: ρ) := ⟨by simp [h.1], fun i z' q => by
  cases i with
  | zero => simp at q; subst q; exact ⟨v, rfl, r⟩
  | succ i => simp at q; obtain ⟨u, h1, h2⟩ := h.2 i z' q; exact ⟨u, by simpa using h1, h2⟩⟩
theorem Env.skip {x : Option V} (h : Env K H σ ρ) : Env K H (x :: σ) (none :: ρ) := ⟨by simp [h.1], fun i z' q => by
  cases i with
  | zero => simp at q
  | succ i => simp at q; obtain ⟨u, h1, h2⟩ := h.2 i z' q; exact ⟨u, by simpa using h1, h2⟩⟩
theorem Env.set {v : V} {z : Ent} (i : Nat) (h : Env K H σ ρ) (r : Rep K H v z) : Env K H (σ.set i (some v)) (ρ.set i (some z)) := ⟨by simp [h.1], fun j z' q => by
  by_cases e : i = j
  · subst e
    by_cases hi : i < ρ.length
    · rw [List.getElem?_set_self hi] at q
      cases q
      exact ⟨v, by rw [List.getElem?_set_self (by rw [h.1]; exact hi)], r⟩
    · rw [List.getElem?_eq_none (by simpa using hi)] at q; cases q
  · rw [List.getElem?_set_ne e] at q ⊢
    exact h.2 j z' q⟩
theorem Env.drop {x : Option V} (i : Nat) (h : Env K H σ ρ) : Env K H (σ.set i x) (ρ.set i none) := ⟨by simp [h.1], fun j z' q => by
  by_cases e : i = j
  · subst e
    by_cases hi : i < ρ.length
    · rw [List.getElem?_set_self hi] at q; cases q
    · rw [List.getElem?_eq_none (by simpa using hi)] at q; cases q
  · rw [List.getElem?_set_ne e] at q ⊢
    exact h.2 j z' q⟩
def wipeR (ρ : Rho) : List Nat → Rho
  | [] => ρ
  | v :: vs => (wipeR ρ vs).set v none
theorem Env.wipe (h : Env K H σ ρ) : ∀ vs : List Nat, Env K H (L2.wipe σ vs) (wipeR ρ vs)
  | [] => h
  | v :: vs => (Env.wipe h vs).drop v
/-- a weaker knowledge -/
def Sub (ρ' ρ : Rho) : Prop := ρ'.length = ρ.length ∧ ∀ (i : Nat) (z : Ent), ρ'[i]? = some (some z) → ρ[i]? = some (some z)
theorem Env.sub {ρ' : Rho} (h : Env K H σ ρ) (s : Sub ρ' ρ) : Env K H σ ρ' := ⟨by rw [h.1]; exact s.1.symm, fun i z q => h.2 i z (s.2 i z q)⟩
theorem wipe_set_self {σ : L2.St} {j : Nat} {x : Option V} : ∀ {vs : List Nat}, j ∈ vs → L2.wipe (σ.set j x) vs = L2.wipe σ vs
  | [], h => by cases h
  | v :: vs, h => by
    unfold L2.wipe
    by_cases e : j = v
    · subst e
      by_cases hm : j ∈ vs
      · rw [wipe_set_self hm]
      · have aux : ∀ (ws : List Nat), j ∉ ws → L2.wipe (σ.set j x) ws = (L2.wipe σ ws).set j x := by
          intro ws
          induction ws with
          | nil => intro _; rfl
          | cons w ws ih =>
            intro hn
            simp only [List.mem_cons, not_or] at hn
            unfold L2.wipe
            rw [ih hn.2, List.set_comm _ _ hn.1]
        rw [aux vs hm, List.set_set]
    · rcases List.mem_cons.mp h with z | z
      · exact absurd z e
      · rw [wipe_set_self z]
theorem wipe_wipe {σ : L2.St} (vs : List Nat) : L2.wipe (L2.wipe σ vs) vs = L2.wipe σ vs := by
  have aux : ∀ (us : List Nat), (∀ u ∈ us, u ∈ vs) → L2.wipe (L2.wipe σ us) vs = L2.wipe σ vs := by
    intro us
    induction us with
    | nil => intro _; rfl
    | cons u us ih =>
      intro h
      show L2.wipe ((L2.wipe σ us).set u none) vs = _
      rw [wipe_set_self (h u List.mem_cons_self), ih fun z hz => h z (List.mem_cons_of_mem _ hz)]
  exact aux vs fun _ h => h
theorem wipe_back {σ : L2.St} {j : Nat} {x : Option V} {vs : List Nat} (h : j ∈ vs) : L2.wipe ((L2.wipe σ vs).set j x) vs = L2.wipe σ vs := by
  rw [wipe_set_self h, wipe_wipe]
end

/-! ### judgements -/
def VE (K : PySem.W.Frag) (te : TE) (ρ : Rho) (z : Ent) : Prop := ∀ σ H, Env K H σ ρ → ∀ Q : VK, (∀ v H', Ex H H' → Rep K H' v z → Q v H') → te σ H Q
abbrev VD (K : PySem.W.Frag) (te : TE) (ρ : Rho) (d : PyData) : Prop := VE K te ρ (.d d)
def VN (K : PySem.W.Frag) (te : TE) (ρ : Rho) (d : PyData) : Prop := ∀ σ H, Env K H σ ρ → ∀ Q : VK, (∀ v H', Ex H H' → New H H' v d → Q v H') → te σ H Q
/-- the value stands where the slots' values stand -/
def VS (K : PySem.W.Frag) (te : TE) (ρ : Rho) (d : PyData) : Prop := ∀ σ H H1, Env K H σ ρ → Ex H H1 → ∀ Q : VK, (∀ v H', Ex H1 H' → Tp H v d → Q v H') → te σ H1 Q
def VT (K : PySem.W.Frag) (tt : TT) (ρ : Rho) (b : Bool) : Prop := ∀ σ H, Env K H σ ρ → ∀ Q : Bool → Hp → Prop, (∀ H', Ex H H' → Q b H') → tt σ H Q
inductive RepAll (K : PySem.W.Frag) (H : Hp) : List V → List Ent → Prop
  | nil : RepAll K H [] []
  | cons {v : V} {vs : List V} {z : Ent} {zs : List Ent} : Rep K H v z → RepAll K H vs zs → RepAll K H (v :: vs) (z :: zs)
theorem RepAll.mono {K : PySem.W.Frag} {H H' : Hp} (e : Ex H H') : ∀ {vs : List V} {zs : List Ent}, RepAll K H vs zs → RepAll K H' vs zs
  | _, _, .nil => .nil
  | _, _, .cons h t => .cons (h.mono e) (RepAll.mono e t)
theorem RepAll.len {K : PySem.W.Frag} {H : Hp} : ∀ {vs : List V} {zs : List Ent}, RepAll K H vs zs → vs.length = zs.length
  | _, _, .nil => rfl
  | _, _, .cons _ t => by simp only [List.length_cons]; rw [RepAll.len t]
theorem RepAll.tp {K : PySem.W.Frag} {H : Hp} : ∀ {ds : List PyData} {vs : List V}, RepAll K H vs (ds.map Ent.d) → TpAll H vs ds
  | [], _, h => by cases h; exact .nil
  | d :: ds, _, h => by
    cases h with
    | cons h1 h2 => exact .cons h1 (RepAll.tp h2)
def AE (K : PySem.W.Frag) (ta : TA) (ρ : Rho) (zs : List Ent) : Prop := ∀ σ H, Env K H σ ρ → ∀ Q : List V → Hp → Prop, (∀ vs H', Ex H H' → RepAll K H' vs zs → Q vs H') → ta σ H Q
def AN (K : PySem.W.Frag) (ta : TA) (ρ : Rho) (ds : List PyData) : Prop := ∀ σ H, Env K H σ ρ → ∀ Q : List V → Hp → Prop, (∀ vs H', Ex H H' → (∃ F, OwnAll H' vs ds F ∧ ∀ a ∈ F, H a = none) → Q vs H') → ta σ H Q

section
variable {K : PySem.W.Frag} {ρ : Rho} {te ta tb tc : TE} {tt tu : TT} {d e : PyData} {z : Ent} {b c : Bool}
theorem VN.toD (h : VN K te ρ d) : VD K te ρ d := fun σ H n Q q => h σ H n Q fun v H' e w => q v H' e w.tp
/-- a value that holds no list -/
def plain : PyData → Bool
  | .none => true
  | .bool _ => true
  | .int _ => true
  | .str _ => true
  | _ => false
theorem Tp.plain {H H' : Hp} {v : V} {d : PyData} (h : Tp H v d) (p : plain d = true) : Own H' v d [] := by
  cases h with
  | non => exact .non
  | bl b => exact .bl b
  | int i => exact .int i
  | str x => exact .str x
  | lst _ _ => cases p
  | tup _ _ => cases p
  | dic _ => cases p
theorem VD.toN (h : VD K te ρ d) (p : plain d = true) : VN K te ρ d := fun σ H n Q q => h σ H n Q fun v H' e w => q v H' e ⟨[], Tp.plain w p, fun _ z => nomatch z⟩
theorem VD.toS (h : VD K te ρ d) (p : DF.plain d = true) : VS K te ρ d := fun σ H H1 n e Q q => h σ H1 (n.mono e) Q fun v H' e' w => q v H' e' (Tp.plain (H' := H) w p).tp
theorem VS.toD (h : VS K te ρ d) : VD K te ρ d := fun σ H n Q q => h σ H H n (Ex.refl H) Q fun v H' e w => q v H' e (Tp.mono e w)
theorem v_var {i : Nat} (h : ρ[i]? = some (some z)) : VE K (tVar i) ρ z := fun σ H n Q q => by
  obtain ⟨v, h1, h2⟩ := n.2 i z h
  exact ⟨v, h1, q v H (Ex.refl H) h2⟩
theorem s_var {i : Nat} (h : ρ[i]? = some (some (.d d))) : VS K (tVar i) ρ d := fun σ H H1 n e Q q => by
  obtain ⟨v, h1, h2⟩ := n.2 i _ h
  exact ⟨v, h1, q v H1 (Ex.refl H1) h2⟩
theorem v_int {i : Int} : VD K (tC (.int i)) ρ (.int i) := fun σ H n Q q => q _ H (Ex.refl H) (.int i)
theorem v_bl {i : Bool} : VD K (tC (.bl i)) ρ (.bool i) := fun σ H n Q q => q _ H (Ex.refl H) (.bl i)
theorem v_non : VD K (tC .non) ρ .none := fun σ H n Q q => q _ H (Ex.refl H) .non
theorem v_str {i : Str} : VD K (tC (.str i)) ρ (.str i) := fun σ H n Q q => q _ H (Ex.refl H) (.str i)
theorem VE.eq {z' : Ent} (h : VE K te ρ z) (e : z = z') : VE K te ρ z' := e ▸ h
theorem VN.eq (h : VN K te ρ d) (q : d = e) : VN K te ρ e := q ▸ h
theorem VT.eq (h : VT K tt ρ b) (q : b = c) : VT K tt ρ c := q ▸ h
theorem VE.sub {ρ' : Rho} (s : Sub ρ' ρ) (h : VE K te ρ' z) : VE K te ρ z := fun σ H n Q q => h σ H (n.sub s) Q q
theorem VN.sub {ρ' : Rho} (s : Sub ρ' ρ) (h : VN K te ρ' d) : VN K te ρ d := fun σ H n Q q => h σ H (n.sub s) Q q

/-- two operands one after another -/
theorem v_two {r : R2} {x y : Ent} (ha : VE K ta ρ x) (hb : VE K tb ρ y)
    (hr : ∀ H u v (Q : VK), Rep K H u x → Rep K H v y → (∀ w H', Ex H H' → Rep K H' w z → Q w H') → r u v H Q) : VE K (tOp r ta tb) ρ z := fun σ H n Q q =>
  ha σ H n _ fun u H1 e1 r1 => hb σ H1 (n.mono e1) _ fun v H2 e2 r2 => hr H2 u v Q (r1.mono e2) r2 fun w H3 e3 r3 => q w H3 ((e1.trans e2).trans e3) r3
theorem n_two {r : R2} {x y : Ent} (ha : VE K ta ρ x) (hb : VE K tb ρ y)
    (hr : ∀ H u v (Q : VK), Rep K H u x → Rep K H v y → (∀ w H', Ex H H' → New H H' w d → Q w H') → r u v H Q) : VN K (tOp r ta tb) ρ d := fun σ H n Q q =>
  ha σ H n _ fun u H1 e1 r1 => hb σ H1 (n.mono e1) _ fun v H2 e2 r2 => hr H2 u v Q (r1.mono e2) r2 fun w H3 e3 r3 => q w H3 ((e1.trans e2).trans e3) (r3.back (e1.trans e2))
theorem Tp.int_inv {H : Hp} {v : V} {i : Int} (h : Tp H v (.int i)) : v = .int i := by cases h; rfl
theorem Tp.bl_inv {H : Hp} {v : V} {i : Bool} (h : Tp H v (.bool i)) : v = .bl i := by cases h; rfl
theorem Tp.str_inv {H : Hp} {v : V} {i : Str} (h : Tp H v (.str i)) : v = .str i := by cases h; rfl
theorem Tp.non_inv {H : Hp} {v : V} (h : Tp H v .none) : v = .non := by cases h; rfl
theorem Tp.lst_inv {H : Hp} {v : V} {ds : List PyData} (h : Tp H v (.list ds)) : ∃ a xs, v = .ref a ∧ H a = some (.lst xs) ∧ TpAll H xs ds := by
  cases h with
  | lst h t => exact ⟨_, _, rfl, h, t⟩
theorem Tp.tup_inv {H : Hp} {v : V} {ds : List PyData} (h : Tp H v (.tuple ds)) : ∃ a xs, v = .ref a ∧ H a = some (.tup xs) ∧ TpAll H xs ds := by
  cases h with
  | tup h t => exact ⟨_, _, rfl, h, t⟩
theorem Own.int_inv {H : Hp} {v : V} {i : Int} {F : List Addr} (h : Own H v (.int i) F) : v = .int i := h.tp.int_inv
theorem New.bl_inv {H0 H : Hp} {v : V} {i : Bool} (h : New H0 H v (.bool i)) : v = .bl i := h.tp.bl_inv
theorem New.int_inv {H0 H : Hp} {v : V} {i : Int} (h : New H0 H v (.int i)) : v = .int i := h.tp.int_inv
theorem New.non_inv {H0 H : Hp} {v : V} (h : New H0 H v .none) : v = .non := h.tp.non_inv
theorem New.str_inv {H0 H : Hp} {v : V} {i : Str} (h : New H0 H v (.str i)) : v = .str i := h.tp.str_inv
theorem Own.lst_inv {H : Hp} {v : V} {ds : List PyData} {F : List Addr} (h : Own H v (.list ds) F) : ∃ a xs G, v = .ref a ∧ F = a :: G ∧ H a = some (.lst xs) ∧ OwnAll H xs ds G ∧ a ∉ G := by
  cases h with
  | lst h t n => exact ⟨_, _, _, rfl, rfl, h, t, n⟩
theorem Own.tup_inv {H : Hp} {v : V} {ds : List PyData} {F : List Addr} (h : Own H v (.tuple ds) F) : ∃ a xs, v = .ref a ∧ H a = some (.tup xs) ∧ OwnAll H xs ds F := by
  cases h with
  | tup h t => exact ⟨_, _, rfl, h, t⟩

/-! ### ints -/
variable {i j : Int}
theorem v_I0 {g : Int → Int → V} {k : PyData} (hk : ∀ H, Tp H (g i j) k) (ha : VD K ta ρ (.int i)) (hb : VD K tb ρ (.int j)) : VD K (tOp (rI0 g) ta tb) ρ k := v_two ha hb fun H u v Q r1 r2 q => by
  cases Tp.int_inv r1
  cases Tp.int_inv r2
  exact ⟨i, j, rfl, rfl, q _ H (Ex.refl H) (hk H)⟩
theorem v_I {C : Int → Int → Prop} {g : Int → Int → V} {k : PyData} (hk : ∀ H, Tp H (g i j) k) (ha : VD K ta ρ (.int i)) (hb : VD K tb ρ (.int j)) (hc : C i j) : VD K (tOp (rI C g) ta tb) ρ k := v_two ha hb fun H u v Q r1 r2 q => by
  cases Tp.int_inv r1
  cases Tp.int_inv r2
  exact ⟨i, j, rfl, rfl, hc, q _ H (Ex.refl H) (hk H)⟩
theorem v_add (ha : VD K ta ρ (.int i)) (hb : VD K tb ρ (.int j)) : VD K (tOp (rI0 fun i j => .int (i + j)) ta tb) ρ (.int (i + j)) := v_I0 (fun _ => .int _) ha hb
theorem v_sub (ha : VD K ta ρ (.int i)) (hb : VD K tb ρ (.int j)) : VD K (tOp (rI0 fun i j => .int (i - j)) ta tb) ρ (.int (i - j)) := v_I0 (fun _ => .int _) ha hb
theorem v_mul (ha : VD K ta ρ (.int i)) (hb : VD K tb ρ (.int j)) (hc : CMul i j) : VD K (tOp (rI CMul fun i j => .int (i * j)) ta tb) ρ (.int (i * j)) := v_I (fun _ => .int _) ha hb hc
theorem v_mod (ha : VD K ta ρ (.int i)) (hb : VD K tb ρ (.int j)) (hc : 0 < j) : VD K (tOp (rI (fun _ j => 0 < j) fun i j => .int (i % j)) ta tb) ρ (.int (i % j)) := v_I (fun _ => .int _) ha hb hc
theorem v_fdiv (ha : VD K ta ρ (.int i)) (hb : VD K tb ρ (.int j)) (hc : CDiv i j) : VD K (tOp (rI CDiv fun i j => .int (i / j)) ta tb) ρ (.int (i / j)) := v_I (fun _ => .int _) ha hb hc
theorem v_neg (ha : VD K ta ρ (.int i)) : VD K (tUn (rU fun i => .int (-i)) ta) ρ (.int (-i)) := fun σ H n Q q => ha σ H n _ fun v H1 e r => by
  cases Tp.int_inv r
  exact ⟨i, rfl, q _ H1 e (.int _)⟩
theorem v_lt (ha : VD K ta ρ (.int i)) (hb : VD K tb ρ (.int j)) : VD K (tOp (rI0 fun i j => .bl (decide (i < j))) ta tb) ρ (.bool (decide (i < j))) := v_I0 (fun _ => .bl _) ha hb
theorem v_le (ha : VD K ta ρ (.int i)) (hb : VD K tb ρ (.int j)) : VD K (tOp (rI0 fun i j => .bl (decide (i ≤ j))) ta tb) ρ (.bool (decide (i ≤ j))) := v_I0 (fun _ => .bl _) ha hb
theorem v_gt (ha : VD K ta ρ (.int i)) (hb : VD K tb ρ (.int j)) : VD K (tOp (rI0 fun i j => .bl (decide (j < i))) ta tb) ρ (.bool (decide (j < i))) := v_I0 (fun _ => .bl _) ha hb
theorem v_ge (ha : VD K ta ρ (.int i)) (hb : VD K tb ρ (.int j)) : VD K (tOp (rI0 fun i j => .bl (decide (j ≤ i))) ta tb) ρ (.bool (decide (j ≤ i))) := v_I0 (fun _ => .bl _) ha hb
/-- == and != of data -/
theorem v_eqD (ha : VD K ta ρ d) (hb : VD K tb ρ e) (hd : SeqAt.shaped d = true) (he : SeqAt.shaped e = true) : VD K (tOp (rEqD K) ta tb) ρ (.bool (PyData.eqv d e)) := v_two ha hb fun H u v Q r1 r2 q =>
  ⟨d, e, Tp.dp r1 (SeqAt.canLay_of_shaped hd), Tp.dp r2 (SeqAt.canLay_of_shaped he), hd, he, q _ H (Ex.refl H) (.bl _)⟩
theorem v_neD (ha : VD K ta ρ d) (hb : VD K tb ρ e) (hd : SeqAt.shaped d = true) (he : SeqAt.shaped e = true) : VD K (tOp (rNeD K) ta tb) ρ (.bool (!PyData.eqv d e)) := v_two ha hb fun H u v Q r1 r2 q =>
  ⟨d, e, Tp.dp r1 (SeqAt.canLay_of_shaped hd), Tp.dp r2 (SeqAt.canLay_of_shaped he), hd, he, q _ H (Ex.refl H) (.bl _)⟩
theorem v_inD {ds : List PyData} (ha : VD K ta ρ d) (hb : VD K tb ρ (.list ds)) (hd : SeqAt.shaped d = true) (he : SeqAt.shaped (.list ds) = true) : VD K (tOp (rInD K) ta tb) ρ (.bool (ds.any fun z => PyData.eqv z d)) := v_two ha hb fun H u v Q r1 r2 q =>
  ⟨d, ds, Tp.dp r1 (SeqAt.canLay_of_shaped hd), Tp.dp r2 (SeqAt.canLay_of_shaped he), hd, he, q _ H (Ex.refl H) (.bl _)⟩
theorem v_niD {ds : List PyData} (ha : VD K ta ρ d) (hb : VD K tb ρ (.list ds)) (hd : SeqAt.shaped d = true) (he : SeqAt.shaped (.list ds) = true) : VD K (tOp (rNotInD K) ta tb) ρ (.bool (!ds.any fun z => PyData.eqv z d)) := v_two ha hb fun H u v Q r1 r2 q =>
  ⟨d, ds, Tp.dp r1 (SeqAt.canLay_of_shaped hd), Tp.dp r2 (SeqAt.canLay_of_shaped he), hd, he, q _ H (Ex.refl H) (.bl _)⟩
/-- is None -/
def isN : PyData → Bool
  | .none => true
  | _ => false
theorem Tp.isN {H : Hp} {v : V} {d : PyData} (h : Tp H v d) : decide (v = .non) = isN d := by cases h <;> simp [DF.isN]
theorem v_isN (ha : VD K ta ρ d) (hb : VD K tb ρ .none) : VD K (tOp (fun x y H Q => y = .non ∧ Q (.bl (decide (x = .non))) H) ta tb) ρ (.bool (isN d)) := v_two ha hb fun H u v Q r1 r2 q => by
  cases Tp.non_inv r2
  exact ⟨rfl, by rw [Tp.isN r1]; exact q _ H (Ex.refl H) (.bl _)⟩
theorem v_notN (ha : VD K ta ρ d) (hb : VD K tb ρ .none) : VD K (tOp (fun x y H Q => y = .non ∧ Q (.bl (!decide (x = .non))) H) ta tb) ρ (.bool (!isN d)) := v_two ha hb fun H u v Q r1 r2 q => by
  cases Tp.non_inv r2
  exact ⟨rfl, by rw [Tp.isN r1]; exact q _ H (Ex.refl H) (.bl _)⟩
theorem v_isB (ha : VD K ta ρ (.bool b)) (hb : VD K tb ρ (.bool c)) : VD K (tOp (fun x y H Q => ∃ a b, x = .bl a ∧ y = .bl b ∧ Q (.bl (decide (a = b))) H) ta tb) ρ (.bool (decide (b = c))) := v_two ha hb fun H u v Q r1 r2 q => by
  cases Tp.bl_inv r1
  cases Tp.bl_inv r2
  exact ⟨b, c, rfl, rfl, q _ H (Ex.refl H) (.bl _)⟩
theorem v_notB (ha : VD K ta ρ (.bool b)) (hb : VD K tb ρ (.bool c)) : VD K (tOp (fun x y H Q => ∃ a b, x = .bl a ∧ y = .bl b ∧ Q (.bl (!decide (a = b))) H) ta tb) ρ (.bool (!decide (b = c))) := v_two ha hb fun H u v Q r1 r2 q => by
  cases Tp.bl_inv r1
  cases Tp.bl_inv r2
  exact ⟨b, c, rfl, rfl, q _ H (Ex.refl H) (.bl _)⟩

/-! ### bools and tests -/
theorem v_not (ha : VD K ta ρ (.bool b)) : VD K (tNotV ta) ρ (.bool (!b)) := fun σ H n Q q => ha σ H n _ fun v H1 e r => by
  cases Tp.bl_inv r
  exact ⟨b, rfl, q _ H1 e (.bl _)⟩
theorem v_and (ha : VD K ta ρ (.bool b)) (hb : b = true → VD K tb ρ (.bool c)) : VD K (tAndV ta tb) ρ (.bool (b && c)) := fun σ H n Q q => ha σ H n _ fun v H1 e r => by
  cases Tp.bl_inv r
  refine ⟨b, rfl, ?_⟩
  cases b with
  | true => exact hb rfl σ H1 (n.mono e) Q fun v H2 e2 r2 => q v H2 (e.trans e2) r2
  | false => exact q _ H1 e (.bl _)
theorem v_or (ha : VD K ta ρ (.bool b)) (hb : b = false → VD K tb ρ (.bool c)) : VD K (tOrV ta tb) ρ (.bool (b || c)) := fun σ H n Q q => ha σ H n _ fun v H1 e r => by
  cases Tp.bl_inv r
  refine ⟨b, rfl, ?_⟩
  cases b with
  | true => exact q _ H1 e (.bl _)
  | false => exact hb rfl σ H1 (n.mono e) Q fun v H2 e2 r2 => q v H2 (e.trans e2) r2
theorem t_test (ha : VD K ta ρ (.bool b)) : VT K (tTest ta) ρ b := fun σ H n Q q => ha σ H n _ fun v H1 e r => by
  cases Tp.bl_inv r
  exact ⟨b, rfl, q H1 e⟩
theorem t_B (ha : VD K ta ρ (.bool b)) : VT K (tB ta) ρ b := t_test ha
theorem t_not (ha : VT K tt ρ b) : VT K (tNot tt) ρ (!b) := fun σ H n Q q => ha σ H n _ fun H1 e => q H1 e
theorem t_and (ha : VT K tt ρ b) (hb : b = true → VT K tu ρ c) : VT K (tAnd tt tu) ρ (b && c) := fun σ H n Q q => ha σ H n _ fun H1 e => by
  cases b with
  | true => exact hb rfl σ H1 (n.mono e) Q fun H2 e2 => q H2 (e.trans e2)
  | false => exact q H1 e
theorem t_or (ha : VT K tt ρ b) (hb : b = false → VT K tu ρ c) : VT K (tOr tt tu) ρ (b || c) := fun σ H n Q q => ha σ H n _ fun H1 e => by
  cases b with
  | true => exact q H1 e
  | false => exact hb rfl σ H1 (n.mono e) Q fun H2 e2 => q H2 (e.trans e2)
theorem t_yes : VT K tYes ρ true := fun σ H n Q q => q H (Ex.refl H)
theorem v_if (hc : VT K tt ρ b) (ha : b = true → VE K ta ρ z) (hb : b = false → VE K tb ρ z) : VE K (tIf tt ta tb) ρ z := fun σ H n Q q => hc σ H n _ fun H1 e => by
  cases b with
  | true => exact ha rfl σ H1 (n.mono e) Q fun v H2 e2 r => q v H2 (e.trans e2) r
  | false => exact hb rfl σ H1 (n.mono e) Q fun v H2 e2 r => q v H2 (e.trans e2) r
theorem n_if (hc : VT K tt ρ b) (ha : b = true → VN K ta ρ d) (hb : b = false → VN K tb ρ d) : VN K (tIf tt ta tb) ρ d := fun σ H n Q q => hc σ H n _ fun H1 e => by
  cases b with
  | true => exact ha rfl σ H1 (n.mono e) Q fun v H2 e2 r => q v H2 (e.trans e2) (r.back e)
  | false => exact hb rfl σ H1 (n.mono e) Q fun v H2 e2 r => q v H2 (e.trans e2) (r.back e)
/-- a <= b <= c of ints -/
theorem v_chain {g g' : Int → Int → Bool} {k : Int} (ha : VD K ta ρ (.int i)) (hb : VD K tb ρ (.int j)) (hc : g i j = true → VD K tc ρ (.int k)) :
    VD K (tChain (rI0 fun i j => .bl (g i j)) (rI0 fun i j => .bl (g' i j)) ta tb tc) ρ (.bool (g i j && g' j k)) := fun σ H n Q q => ha σ H n _ fun u H1 e1 r1 => hb σ H1 (n.mono e1) _ fun v H2 e2 r2 => by
  cases Tp.int_inv r1
  cases Tp.int_inv r2
  refine ⟨i, j, rfl, rfl, g i j, rfl, ?_⟩
  cases hg : g i j with
  | true =>
    rw [hg, Bool.true_and] at q
    refine hc hg σ H2 (n.mono (e1.trans e2)) _ fun w H3 e3 r3 => ?_
    cases Tp.int_inv r3
    exact ⟨j, k, rfl, rfl, q _ H3 ((e1.trans e2).trans e3) (.bl _)⟩
  | false =>
    rw [hg, Bool.false_and] at q
    exact q _ H2 (e1.trans e2) (.bl _)
end
end DF

namespace DF
open PySem L2 Evl

/-! ### plain Lean data as data of Python -/
class Enc (α : Type) where
  enc : α → PyData
  /-- two of them are alike just where they are one -/
  eqv_enc : ∀ x y : α, PyData.eqv (enc x) (enc y) = true ↔ x = y
  lay : ∀ x : α, (enc x).canLay0 = true
  deep : Nat
  depth : ∀ x : α, (enc x).depth ≤ deep
open Enc (enc)
@[reducible] instance : Enc Int where
  enc := .int
  eqv_enc := fun x y => by simp [PyData.eqv]
  lay := fun x => by simp [PyData.canLay0]
  deep := 1
  depth := fun x => by simp [PyData.depth]
@[reducible] instance : Enc Bool where
  enc := .bool
  eqv_enc := fun x y => by simp [PyData.eqv]
  lay := fun x => by simp [PyData.canLay0]
  deep := 1
  depth := fun x => by simp [PyData.depth]
theorem eqvAll_enc {α : Type} [Enc α] : ∀ xs ys : List α, PyData.eqvAll (xs.map enc) (ys.map enc) = true ↔ xs = ys
  | [], [] => by simp [PyData.eqvAll]
  | [], _ :: _ => by simp [PyData.eqvAll]
  | _ :: _, [] => by simp [PyData.eqvAll]
  | x :: xs, y :: ys => by
    simp only [List.map_cons, PyData.eqvAll, Bool.and_eq_true, Enc.eqv_enc, List.cons.injEq]
    rw [eqvAll_enc xs ys]
theorem layAll_enc {α : Type} [Enc α] : ∀ xs : List α, PyData.canLayAll0 (xs.map enc) = true
  | [] => by simp [PyData.canLayAll0]
  | x :: xs => by simp only [List.map_cons, PyData.canLayAll0, Bool.and_eq_true]; exact ⟨Enc.lay x, layAll_enc xs⟩
theorem depthAll_enc {α : Type} [Enc α] : ∀ xs : List α, PyData.depthAll (xs.map enc) ≤ Enc.deep α
  | [] => by simp [PyData.depthAll]
  | x :: xs => by
    have h1 := Enc.depth x
    have h2 := depthAll_enc xs
    simp only [List.map_cons, PyData.depthAll]
    omega
@[reducible] instance {α : Type} [Enc α] : Enc (List α) where
  enc := fun xs => .list (xs.map enc)
  eqv_enc := fun x y => by simp only [PyData.eqv]; exact eqvAll_enc x y
  lay := fun x => by simp only [PyData.canLay0]; exact layAll_enc x
  deep := Enc.deep α + 1
  depth := fun x => by
    have := depthAll_enc x
    simp only [PyData.depth]
    omega
/-- pairs are tuples of two -/
@[reducible] instance {α β : Type} [Enc α] [Enc β] : Enc (α × β) where
  enc := fun p => .tuple [enc p.1, enc p.2]
  eqv_enc := fun x y => by
    simp only [PyData.eqv, PyData.eqvAll, Bool.and_eq_true, Enc.eqv_enc, and_true]
    exact ⟨fun h => Prod.ext h.1 h.2, fun h => by rw [h]; exact ⟨rfl, rfl⟩⟩
  lay := fun x => by simp only [PyData.canLay0, PyData.canLayAll0, Bool.and_eq_true]; exact ⟨Enc.lay _, Enc.lay _, trivial⟩
  deep := max (Enc.deep α) (Enc.deep β) + 1
  depth := fun x => by
    have h1 := Enc.depth x.1
    have h2 := Enc.depth x.2
    simp only [PyData.depth, PyData.depthAll]
    omega
theorem shaped_enc {α : Type} [Enc α] (x : α) (h : Enc.deep α ≤ 64 := by decide) : SeqAt.shaped (enc x) = true := by
  show ((enc x).canLay0 && decide ((enc x).depth ≤ 64)) = true
  rw [Bool.and_eq_true]
  exact ⟨Enc.lay x, decide_eq_true (Nat.le_trans (Enc.depth x) h)⟩
theorem eqv_dec {α : Type} [Enc α] [DecidableEq α] (x y : α) : PyData.eqv (enc x) (enc y) = decide (x = y) := by
  by_cases h : x = y
  · rw [decide_eq_true h]; exact (Enc.eqv_enc x y).mpr h
  · rw [decide_eq_false h]
    cases q : PyData.eqv (enc x) (enc y) with
    | false => rfl
    | true => exact absurd ((Enc.eqv_enc x y).mp q) h
theorem any_dec {α : Type} [Enc α] [DecidableEq α] (x : α) : ∀ xs : List α, ((xs.map enc).any fun z => PyData.eqv z (enc x)) = decide (x ∈ xs)
  | [] => by simp
  | y :: ys => by
    rw [List.map_cons, List.any_cons, any_dec x ys, eqv_dec]
    by_cases h : y = x
    · subst h; simp
    · have h' : ¬ x = y := fun q => h q.symm
      simp [h, h']

section
variable {K : PySem.W.Frag} {ρ : Rho} {te ta tb tc tl : TE} {tt tu : TT} {d e : PyData} {z : Ent} {b c : Bool} {i j : Int}

/-! ### == of plain data -/
theorem v_eq {α : Type} [Enc α] [DecidableEq α] {x y : α} (ha : VD K ta ρ (enc x)) (hb : VD K tb ρ (enc y)) (h : Enc.deep α ≤ 64 := by decide) : VD K (tOp (rEqD K) ta tb) ρ (.bool (decide (x = y))) :=
  (v_eqD ha hb (shaped_enc x h) (shaped_enc y h)).eq (by rw [eqv_dec])
theorem v_ne {α : Type} [Enc α] [DecidableEq α] {x y : α} (ha : VD K ta ρ (enc x)) (hb : VD K tb ρ (enc y)) (h : Enc.deep α ≤ 64 := by decide) : VD K (tOp (rNeD K) ta tb) ρ (.bool (!decide (x = y))) :=
  (v_neD ha hb (shaped_enc x h) (shaped_enc y h)).eq (by rw [eqv_dec])
theorem v_in {α : Type} [Enc α] [DecidableEq α] {x : α} {xs : List α} (ha : VD K ta ρ (enc x)) (hb : VD K tb ρ (enc xs)) (h : Enc.deep α + 1 ≤ 64 := by decide) : VD K (tOp (rInD K) ta tb) ρ (.bool (decide (x ∈ xs))) :=
  (v_inD ha hb (shaped_enc x (by omega)) (shaped_enc xs h)).eq (by rw [any_dec])
theorem v_ni {α : Type} [Enc α] [DecidableEq α] {x : α} {xs : List α} (ha : VD K ta ρ (enc x)) (hb : VD K tb ρ (enc xs)) (h : Enc.deep α + 1 ≤ 64 := by decide) : VD K (tOp (rNotInD K) ta tb) ρ (.bool (!decide (x ∈ xs))) :=
  (v_niD ha hb (shaped_enc x (by omega)) (shaped_enc xs h)).eq (by rw [any_dec])

/-! ### subscripts (of a list, a tuple, a text) -/
theorem TpAll.atI {H : Hp} {vs : List V} {ds : List PyData} (h : TpAll H vs ds) (e : L2.atI ds i = some d) : ∃ v, L2.atI vs i = some v ∧ Tp H v d := by
  unfold L2.atI at e ⊢
  rw [h.len]
  cases q : ixN ds.length i with
  | none => rw [q] at e; cases e
  | some k =>
    rw [q] at e
    exact h.get e
theorem v_ixL {ds : List PyData} (ha : VD K ta ρ (.list ds)) (hb : VD K tb ρ (.int i)) (h : atI ds i = some d) : VD K (tOp (rIx K) ta tb) ρ d := v_two ha hb fun H u v Q r1 r2 q => by
  cases Tp.int_inv r2
  obtain ⟨a, xs, rfl, ea, t⟩ := Tp.lst_inv r1
  obtain ⟨w, ew, tw⟩ := t.atI h
  exact .inl ⟨a, xs, i, w, rfl, rfl, SqL.of ea, ew, q w H (Ex.refl H) tw⟩
theorem v_ixT {ds : List PyData} (ha : VD K ta ρ (.tuple ds)) (hb : VD K tb ρ (.int i)) (h : atI ds i = some d) : VD K (tOp (rIx K) ta tb) ρ d := v_two ha hb fun H u v Q r1 r2 q => by
  cases Tp.int_inv r2
  obtain ⟨a, xs, rfl, ea, t⟩ := Tp.tup_inv r1
  obtain ⟨w, ew, tw⟩ := t.atI h
  exact .inr (.inl ⟨a, xs, i, w, rfl, rfl, SqT.of ea, ew, q w H (Ex.refl H) tw⟩)
theorem v_ixStr {x : Str} {n : Nat} (ha : VD K ta ρ (.str x)) (hb : VD K tb ρ (.int i)) (hx : x.length ≤ 100000) (h : atI x.cps.toList i = some n) : VD K (tOp (rIx K) ta tb) ρ (.str ⟨#[n]⟩) := v_two ha hb fun H u v Q r1 r2 q => by
  cases Tp.int_inv r2
  cases Tp.str_inv r1
  exact .inr (.inr ⟨x, i, n, rfl, rfl, sz_of hx, h, q _ H (Ex.refl H) (.str _)⟩)
theorem s_ixL {ds : List PyData} (ha : VS K ta ρ (.list ds)) (hb : VD K tb ρ (.int i)) (h : atI ds i = some d) : VS K (tOp (rIx K) ta tb) ρ d := fun σ H H1 n e Q q =>
  ha σ H H1 n e _ fun u H2 e2 r1 => hb σ H2 (n.mono (e.trans e2)) _ fun v H3 e3 r2 => by
    cases Tp.int_inv r2
    obtain ⟨a, xs, rfl, ea, t⟩ := Tp.lst_inv r1
    obtain ⟨w, ew, tw⟩ := t.atI h
    exact .inl ⟨a, xs, i, w, rfl, rfl, SqL.of (((e.trans e2).trans e3) _ _ ea), ew, q w H3 (e2.trans e3) tw⟩
theorem s_ixT {ds : List PyData} (ha : VS K ta ρ (.tuple ds)) (hb : VD K tb ρ (.int i)) (h : atI ds i = some d) : VS K (tOp (rIx K) ta tb) ρ d := fun σ H H1 n e Q q =>
  ha σ H H1 n e _ fun u H2 e2 r1 => hb σ H2 (n.mono (e.trans e2)) _ fun v H3 e3 r2 => by
    cases Tp.int_inv r2
    obtain ⟨a, xs, rfl, ea, t⟩ := Tp.tup_inv r1
    obtain ⟨w, ew, tw⟩ := t.atI h
    exact .inr (.inl ⟨a, xs, i, w, rfl, rfl, SqT.of (((e.trans e2).trans e3) _ _ ea), ew, q w H3 (e2.trans e3) tw⟩)
theorem atI_enc {α : Type} [Enc α] [Inhabited α] {xs : List α} (h0 : 0 ≤ i) (h1 : i < xs.length) : atI (xs.map enc) i = some (enc (xs.getD i.toNat default)) := by
  have e : i = ((i.toNat : Nat) : Int) := by omega
  have hi : i.toNat < xs.length := by omega
  rw [e]
  refine atI_nat ?_
  rw [List.getElem?_map, List.getElem?_eq_getElem hi, Int.toNat_natCast, List.getD_eq_getElem?_getD, List.getElem?_eq_getElem hi]
  rfl
/-- xs[i], a list of plain data -/
theorem v_ix {α : Type} [Enc α] [Inhabited α] {xs : List α} (ha : VD K ta ρ (enc xs)) (hb : VD K tb ρ (.int i)) (h0 : 0 ≤ i) (h1 : i < xs.length) : VD K (tOp (rIx K) ta tb) ρ (enc (xs.getD i.toNat default)) := v_ixL ha hb (atI_enc h0 h1)
theorem s_ix {α : Type} [Enc α] [Inhabited α] {xs : List α} (ha : VS K ta ρ (enc xs)) (hb : VD K tb ρ (.int i)) (h0 : 0 ≤ i) (h1 : i < xs.length) : VS K (tOp (rIx K) ta tb) ρ (enc (xs.getD i.toNat default)) := s_ixL ha hb (atI_enc h0 h1)
theorem v_fst {α β : Type} [Enc α] [Enc β] {x : α × β} (ha : VD K ta ρ (enc x)) (hb : VD K tb ρ (.int 0)) : VD K (tOp (rIx K) ta tb) ρ (enc x.1) := v_ixT (ds := [enc x.1, enc x.2]) ha hb rfl
theorem v_snd {α β : Type} [Enc α] [Enc β] {x : α × β} (ha : VD K ta ρ (enc x)) (hb : VD K tb ρ (.int 1)) : VD K (tOp (rIx K) ta tb) ρ (enc x.2) := v_ixT (ds := [enc x.1, enc x.2]) ha hb rfl
/-- the script's item -/
theorem v_ixScr {ns : List Int} (ha : VE K ta ρ (.scr ns)) (hb : VD K tb ρ (.int i)) (h0 : 0 ≤ i) (h1 : i < ns.length) : VD K (tOp (rIx K) ta tb) ρ (.int (ns.getD i.toNat 0)) := v_two ha hb fun H u v Q r1 r2 q => by
  cases Tp.int_inv r2
  obtain ⟨a, rfl, hs⟩ := r1
  have e : i = ((i.toNat : Nat) : Int) := by omega
  have hi : i.toNat < ns.length := by omega
  refine .inl ⟨a, _, i, .int (ns.getD i.toNat 0), rfl, rfl, hs, ?_, q _ H (Ex.refl H) (.int _)⟩
  rw [e]
  refine atI_nat ?_
  rw [List.getElem?_map, List.getElem?_eq_getElem hi, Int.toNat_natCast, List.getD_eq_getElem?_getD, List.getElem?_eq_getElem hi]
  rfl

/-! ### arguments -/
theorem a_nil : AE K tNil ρ [] := fun σ H n Q q => q [] H (Ex.refl H) .nil
theorem a_cons {tr : TA} {zs : List Ent} (h : VE K te ρ z) (hr : AE K tr ρ zs) : AE K (tCons te tr) ρ (z :: zs) := fun σ H n Q q =>
  h σ H n _ fun v H1 e1 r1 => hr σ H1 (n.mono e1) _ fun vs H2 e2 r2 => q _ H2 (e1.trans e2) (.cons (r1.mono e2) r2)
theorem an_nil : AN K tNil ρ [] := fun σ H n Q q => q [] H (Ex.refl H) ⟨[], .nil, fun _ z => nomatch z⟩
theorem an_cons {tr : TA} {ds : List PyData} (h : VN K te ρ d) (hr : AN K tr ρ ds) : AN K (tCons te tr) ρ (d :: ds) := fun σ H n Q q =>
  h σ H n _ fun v H1 e1 ⟨F, o1, f1⟩ => hr σ H1 (n.mono e1) _ fun vs H2 e2 ⟨G, o2, f2⟩ => q _ H2 (e1.trans e2) ⟨F ++ G, OwnAll.cons (o1.mono e2) o2 (fun a ha hg => by
    obtain ⟨xs, hx⟩ := o1.at_ a ha
    rw [f2 a hg] at hx
    cases hx), fun a ha => by
    rcases List.mem_append.mp ha with h | h
    · exact f1 a h
    · exact fresh_back e1 (f2 a h)⟩
theorem AE.tp {ta : TA} {ds : List PyData} (h : AE K ta ρ (ds.map Ent.d)) : ∀ σ H, Env K H σ ρ → ∀ Q : List V → Hp → Prop, (∀ vs H', Ex H H' → TpAll H' vs ds → Q vs H') → ta σ H Q := fun σ H n Q q =>
  h σ H n Q fun vs H' e r => q vs H' e r.tp

/-! ### written lists and tuples -/
theorem v_lst {ta : TA} {ds : List PyData} (h : AE K ta ρ (ds.map Ent.d)) (hz : ds.length ≤ 100000) : VD K (tLst ta) ρ (.list ds) := fun σ H n Q q =>
  h.tp σ H n _ fun vs H1 e t => ⟨sz_of (by rw [t.len]; exact hz), fun p hp => q _ _ (e.trans (Ex.new hp)) (Tp.lst upd_same (t.mono (Ex.new hp)))⟩
theorem v_tup {ta : TA} {ds : List PyData} (h : AE K ta ρ (ds.map Ent.d)) (hz : ds.length ≤ 100000) : VD K (tTup ta) ρ (.tuple ds) := fun σ H n Q q =>
  h.tp σ H n _ fun vs H1 e t => ⟨sz_of (by rw [t.len]; exact hz), fun p hp => q _ _ (e.trans (Ex.new hp)) (Tp.tup upd_same (t.mono (Ex.new hp)))⟩
theorem n_lst {ta : TA} {ds : List PyData} (h : AN K ta ρ ds) (hz : ds.length ≤ 100000) : VN K (tLst ta) ρ (.list ds) := fun σ H n Q q =>
  h σ H n _ fun vs H1 e ⟨F, t, f⟩ => ⟨sz_of (by rw [t.len]; exact hz), fun p hp => q _ _ (e.trans (Ex.new hp)) ⟨p :: F, .lst upd_same (t.mono (Ex.new hp)) (fun z => by
    obtain ⟨xs, hx⟩ := t.at_ p z
    rw [hp] at hx
    cases hx), fun a ha => by
    rcases List.mem_cons.mp ha with rfl | ha
    · exact fresh_back e hp
    · exact f a ha⟩⟩
theorem n_tup {ta : TA} {ds : List PyData} (h : AN K ta ρ ds) (hz : ds.length ≤ 100000) : VN K (tTup ta) ρ (.tuple ds) := fun σ H n Q q =>
  h σ H n _ fun vs H1 e ⟨F, t, f⟩ => ⟨sz_of (by rw [t.len]; exact hz), fun p hp => q _ _ (e.trans (Ex.new hp)) ⟨F, .tup upd_same (t.mono (Ex.new hp)), f⟩⟩

/-! ### built-ins -/
abbrev rLen (K : PySem.W.Frag) : List V → Hp → VK → Prop := fun xs H Q => ∃ x n, xs = [x] ∧ LenV K x H n ∧ Q (.int n) H
theorem v_lenD {n : Nat} (ha : VE K ta ρ z) (hz : ∀ H v, Rep K H v z → LenV K v H n) : VD K (tCB (rLen K) (tCons ta tNil)) ρ (.int (n : Int)) := fun σ H m Q q =>
  ha σ H m _ fun v H1 e r => ⟨v, n, rfl, hz H1 v r, q _ H1 e (.int _)⟩
theorem v_lenL {ds : List PyData} (ha : VD K ta ρ (.list ds)) : VD K (tCB (rLen K) (tCons ta tNil)) ρ (.int (ds.length : Int)) := v_lenD ha fun H v r => by
  obtain ⟨a, xs, rfl, ea, t⟩ := Tp.lst_inv r
  exact .inl ⟨xs, SqL.of ea, t.len.symm⟩
theorem v_lenT {ds : List PyData} (ha : VD K ta ρ (.tuple ds)) : VD K (tCB (rLen K) (tCons ta tNil)) ρ (.int (ds.length : Int)) := v_lenD ha fun H v r => by
  obtain ⟨a, xs, rfl, ea, t⟩ := Tp.tup_inv r
  exact .inr ⟨xs, SqT.of ea, t.len.symm⟩
theorem v_lenStr {x : Str} (ha : VD K ta ρ (.str x)) (hx : x.length ≤ 100000) : VD K (tCB (rLen K) (tCons ta tNil)) ρ (.int (x.length : Int)) := v_lenD ha fun H v r => by
  cases Tp.str_inv r
  exact ⟨sz_of hx, rfl⟩
theorem v_lenScr {ns : List Int} (ha : VE K ta ρ (.scr ns)) : VD K (tCB (rLen K) (tCons ta tNil)) ρ (.int (ns.length : Int)) := v_lenD ha fun H v r => by
  obtain ⟨a, rfl, h⟩ := r
  exact .inl ⟨_, h, by rw [List.length_map]⟩
theorem v_len {α : Type} [Enc α] {xs : List α} (ha : VD K ta ρ (enc xs)) : VD K (tCB (rLen K) (tCons ta tNil)) ρ (.int (xs.length : Int)) := (v_lenL ha).eq (by rw [List.length_map])
theorem Tp.bools {H : Hp} : ∀ {bs : List Bool} {vs : List V}, TpAll H vs (bs.map PyData.bool) → vs = bs.map V.bl
  | [], _, h => by cases h; rfl
  | b :: bs, _, h => by
    cases h with
    | cons h1 h2 => cases Tp.bl_inv h1; rw [Tp.bools h2]; rfl
theorem v_all {bs : List Bool} (ha : VD K ta ρ (enc bs)) : VD K (tCB (rAll K) (tCons ta tNil)) ρ (.bool (bs.all id)) := fun σ H m Q q =>
  ha σ H m _ fun v H1 e r => by
    obtain ⟨a, xs, rfl, ea, t⟩ := Tp.lst_inv r
    exact ⟨a, bs, rfl, by rw [← Tp.bools t]; exact SqL.of ea, q _ H1 e (.bl _)⟩
theorem v_any {bs : List Bool} (ha : VD K ta ρ (enc bs)) : VD K (tCB (rAny K) (tCons ta tNil)) ρ (.bool (bs.any id)) := fun σ H m Q q =>
  ha σ H m _ fun v H1 e r => by
    obtain ⟨a, xs, rfl, ea, t⟩ := Tp.lst_inv r
    exact ⟨a, bs, rfl, by rw [← Tp.bools t]; exact SqL.of ea, q _ H1 e (.bl _)⟩
/-- isinstance of a built-in type -/
def tyN : PyData → String
  | .none => "NoneType"
  | .bool _ => "bool"
  | .int _ => "int"
  | .str _ => "str"
  | .list _ => "list"
  | .tuple _ => "tuple"
  | .dict _ => "dict"
theorem Tp.ty {H : Hp} {v : V} {d : PyData} (h : Tp H v d) : TyX K H v (.type (tyN d)) := by
  cases h with
  | non => exact .base .non
  | bl b => exact .base (.bl b)
  | int i => exact .base (.int i)
  | str x => exact .base (.str x)
  | lst h _ => exact .base (.lst h)
  | tup h _ => exact .base (.tup h)
  | dic h => exact .base (.dK h)
def isIN (T n : String) : Bool := T == n || (n == "bool" && T == "int")
def isI (T : String) (d : PyData) : Bool := isIN T (tyN d)
theorem v_isi {T : String} (ha : VD K ta ρ d) (hT : ∀ x : PyData, kitB (tyN x) T = some (isI T x)) : VD K (tCB (rIsi K) (tCons ta (tCons (tC (.ty T)) tNil))) ρ (.bool (isI T d)) := fun σ H m Q q =>
  ha σ H m _ fun v H1 e r => ⟨v, .ty T, _, _, isI T d, rfl, .ty T, Tp.ty r, kit_ty (hT d), q _ H1 e (.bl _)⟩
theorem kit_list : ∀ x : PyData, kitB (tyN x) "list" = some (isI "list" x) := fun x => by cases x <;> (simp only [tyN, isI]; decide +kernel)
theorem kit_int : ∀ x : PyData, kitB (tyN x) "int" = some (isI "int" x) := fun x => by cases x <;> (simp only [tyN, isI]; decide +kernel)
theorem kit_bool : ∀ x : PyData, kitB (tyN x) "bool" = some (isI "bool" x) := fun x => by cases x <;> (simp only [tyN, isI]; decide +kernel)
theorem kit_tuple : ∀ x : PyData, kitB (tyN x) "tuple" = some (isI "tuple" x) := fun x => by cases x <;> (simp only [tyN, isI]; decide +kernel)
theorem kit_str : ∀ x : PyData, kitB (tyN x) "str" = some (isI "str" x) := fun x => by cases x <;> (simp only [tyN, isI]; decide +kernel)
/-- list(xs): a new list, its items the same; of plain items it is one's own -/
abbrev rListOf (K : PySem.W.Frag) : List V → Hp → VK → Prop := fun xs H Q => ∃ p ys, xs = [.ref p] ∧ (SqL K H p ys ∨ SqT K H p ys) ∧ ∀ l, H l = none → Q (.ref l) (upd H l (.lst ys))
theorem own_plain {H H' : Hp} : ∀ {vs : List V} {ds : List PyData}, TpAll H vs ds → (∀ d ∈ ds, plain d = true) → OwnAll H' vs ds []
  | _, _, .nil, _ => .nil
  | _, _, .cons h t, p => by
    have := OwnAll.cons (h.plain (H' := H') (p _ List.mem_cons_self)) (own_plain t fun d hd => p d (List.mem_cons_of_mem _ hd)) (fun a z => nomatch z)
    simpa using this
theorem new_plain {H H' : Hp} {p : Addr} {vs : List V} {ds : List PyData} (hp : H p = none) (t : TpAll H vs ds) (hd : ∀ d ∈ ds, plain d = true) : New H (upd H p (.lst vs)) (.ref p) (.list ds) :=
  ⟨[p], .lst upd_same (own_plain t hd) (fun z => nomatch z), fun a ha => by rw [List.mem_singleton.mp ha]; exact hp⟩
theorem n_listL {ds : List PyData} (ha : VD K ta ρ (.list ds)) (hd : ∀ d ∈ ds, plain d = true) : VN K (tCB (rListOf K) (tCons ta tNil)) ρ (.list ds) := fun σ H m Q q =>
  ha σ H m _ fun v H1 e r => by
    obtain ⟨a, xs, rfl, ea, t⟩ := Tp.lst_inv r
    exact ⟨a, xs, rfl, .inl (SqL.of ea), fun l hl => q _ _ (e.trans (Ex.new hl)) ((new_plain (H' := H1) hl t hd).back e)⟩
theorem plain_ints {ns : List Int} : ∀ d ∈ ns.map (enc : Int → PyData), plain d = true := fun d hd => by
  obtain ⟨n, _, rfl⟩ := List.mem_map.mp hd
  rfl
theorem n_list {ns : List Int} (ha : VD K ta ρ (enc ns)) : VN K (tCB (rListOf K) (tCons ta tNil)) ρ (enc ns) := n_listL ha plain_ints
/-- max(a, b), min(a, b) -/
theorem v_max (ha : VD K ta ρ (.int i)) (hb : VD K tb ρ (.int j)) : VD K (tCB (fun xs H Q => ∃ i j, xs = [.int i, .int j] ∧ Q (.int (if j > i then j else i)) H) (tCons ta (tCons tb tNil))) ρ (.int (if j > i then j else i)) := fun σ H m Q q =>
  ha σ H m _ fun v H1 e r => hb σ H1 (m.mono e) _ fun w H2 e2 r2 => by
    cases Tp.int_inv r
    cases Tp.int_inv r2
    exact ⟨i, j, rfl, q _ H2 (e.trans e2) (.int _)⟩
theorem v_min (ha : VD K ta ρ (.int i)) (hb : VD K tb ρ (.int j)) : VD K (tCB (fun xs H Q => ∃ i j, xs = [.int i, .int j] ∧ Q (.int (if j < i then j else i)) H) (tCons ta (tCons tb tNil))) ρ (.int (if j < i then j else i)) := fun σ H m Q q =>
  ha σ H m _ fun v H1 e r => hb σ H1 (m.mono e) _ fun w H2 e2 r2 => by
    cases Tp.int_inv r
    cases Tp.int_inv r2
    exact ⟨i, j, rfl, q _ H2 (e.trans e2) (.int _)⟩

/-! ### slices, sums and products of lists -/
theorem TpAll.cut {H : Hp} {vs : List V} {ds : List PyData} (lo hi : Option Int) (h : TpAll H vs ds) : TpAll H (cutV vs lo hi) ((ds.drop (HT.sIx ds.length 0 lo)).take (HT.sIx ds.length ds.length hi - HT.sIx ds.length 0 lo)) := by
  unfold cutV
  rw [h.len]
  exact (h.drop _).take _
/-- xs + ys -/
theorem v_cat {ds es : List PyData} (ha : VD K ta ρ (.list ds)) (hb : VD K tb ρ (.list es)) (hz : ds.length + es.length ≤ 100000) : VD K (tOp rCat ta tb) ρ (.list (ds ++ es)) := v_two ha hb fun H u v Q r1 r2 q => by
  obtain ⟨a, xs, rfl, ea, t⟩ := Tp.lst_inv r1
  obtain ⟨b, ys, rfl, eb, t'⟩ := Tp.lst_inv r2
  refine ⟨a, b, xs, ys, rfl, rfl, ea, eb, sz_of (by rw [t.len, t'.len]; exact hz), fun p hp => q _ _ (Ex.new hp) (.lst upd_same ((t'.append t).mono (Ex.new hp)))⟩
theorem n_catP {ds es : List PyData} (ha : VD K ta ρ (.list ds)) (hb : VD K tb ρ (.list es)) (hz : ds.length + es.length ≤ 100000) (hd : ∀ d ∈ ds ++ es, plain d = true) : VN K (tOp rCat ta tb) ρ (.list (ds ++ es)) := n_two ha hb fun H u v Q r1 r2 q => by
  obtain ⟨a, xs, rfl, ea, t⟩ := Tp.lst_inv r1
  obtain ⟨b, ys, rfl, eb, t'⟩ := Tp.lst_inv r2
  exact ⟨a, b, xs, ys, rfl, rfl, ea, eb, sz_of (by rw [t.len, t'.len]; exact hz), fun p hp => q _ _ (Ex.new hp) (new_plain (H' := H) hp (t'.append t) hd)⟩
theorem n_catI {ns ms : List Int} (ha : VD K ta ρ (enc ns)) (hb : VD K tb ρ (enc ms)) (hz : ns.length + ms.length ≤ 100000) : VN K (tOp rCat ta tb) ρ (enc (ns ++ ms)) :=
  (n_catP ha hb (by rw [List.length_map, List.length_map]; exact hz) (by rw [← List.map_append]; exact plain_ints)).eq (by rw [← List.map_append]; rfl)
theorem v_catE {α : Type} [Enc α] {ns ms : List α} (ha : VD K ta ρ (enc ns)) (hb : VD K tb ρ (enc ms)) (hz : ns.length + ms.length ≤ 100000) : VD K (tOp rCat ta tb) ρ (enc (ns ++ ms)) :=
  (v_cat ha hb (by rw [List.length_map, List.length_map]; exact hz)).eq (by rw [← List.map_append]; rfl)
/-- two lists of one's own put together are one's own: no, the parts stay; of what is new on both sides -/
theorem n_catN {ds es : List PyData} (ha : VN K ta ρ (.list ds)) (hb : VN K tb ρ (.list es)) (hz : ds.length + es.length ≤ 100000) : VN K (tOp rCat ta tb) ρ (.list (ds ++ es)) := fun σ H n Q q =>
  ha σ H n _ fun u H1 e1 ⟨F, o1, f1⟩ => hb σ H1 (n.mono e1) _ fun v H2 e2 ⟨G, o2, f2⟩ => by
    obtain ⟨a, xs, A, rfl, rfl, ea, t, na⟩ := Own.lst_inv (o1.mono e2)
    obtain ⟨b, ys, B, rfl, rfl, eb, t', nb⟩ := o2.lst_inv
    refine ⟨a, b, xs, ys, rfl, rfl, ea, eb, sz_of (by rw [t.len, t'.len]; exact hz), fun p hp => q _ _ ((e1.trans e2).trans (Ex.new hp)) ?_⟩
    have dis : ∀ c ∈ A, c ∉ B := fun c hc hb => by
      obtain ⟨zs, hz⟩ := o1.at_ c (List.mem_cons_of_mem _ hc)
      rw [f2 c (List.mem_cons_of_mem _ hb)] at hz
      cases hz
    have al : OwnAll H2 (xs ++ ys) (ds ++ es) (A ++ B) := t'.append t dis
    refine ⟨p :: (A ++ B), .lst upd_same (al.mono (Ex.new hp)) (fun z => ?_), fun c hc => ?_⟩
    · obtain ⟨zs, hz⟩ := al.at_ p z
      rw [hp] at hz
      cases hz
    · rcases List.mem_cons.mp hc with rfl | hc
      · exact fresh_back (e1.trans e2) hp
      · rcases List.mem_append.mp hc with hc | hc
        · exact f1 c (List.mem_cons_of_mem _ hc)
        · exact fresh_back e1 (f2 c (List.mem_cons_of_mem _ hc))
end
end DF

namespace DF
open Enc (enc)
open PySem PyProof.Rows L2 Evl RT

/-! ### comprehensions -/
def PvN (H1 : Hp) (D : Addr) (acc : List PyData) (H' : Hp) : Prop := Ex H1 H' ∧ ∃ vs F, H' D = some (.lst vs) ∧ OwnAll H' vs acc F ∧ D ∉ F ∧ ∀ a ∈ F, H1 a = none
def PvS (H1 : Hp) (D : Addr) (acc : List PyData) (H' : Hp) : Prop := Ex H1 H' ∧ ∃ vs, H' D = some (.lst vs) ∧ TpAll H1 vs acc
section
variable {K : PySem.W.Frag} {ρ : Rho} {te ta tb tl : TE} {tt : TT} {d : PyData} {z : Ent} {b : Bool} {H1 H' : Hp} {D : Addr} {acc acc' : List PyData} {σ : L2.St}
theorem PvN.start (hD : H1 D = none) : PvN H1 D [] (upd H1 D (.lst [])) := ⟨Ex.new hD, [], [], upd_same, .nil, (fun z => nomatch z), (fun _ z => nomatch z)⟩
theorem PvS.start (hD : H1 D = none) : PvS H1 D [] (upd H1 D (.lst [])) := ⟨Ex.new hD, [], upd_same, .nil⟩
theorem turnN (hD : H1 D = none) (pv : PvN H1 D acc H') (n : Env K H1 σ ρ) (ht : VT K tt ρ b) (he : b = true → VN K te ρ d) (hz : acc.length < 100000) (h1 : b = true → acc' = acc ++ [d]) (h0 : b = false → acc' = acc) :
    tt σ H' fun b H3 => if b = true then te σ H3 fun y H4 => ∃ ac, H4 D = some (.lst ac) ∧ ac.length < sizeLine ∧ PvN H1 D acc' (upd H4 D (.lst (ac ++ [y]))) else PvN H1 D acc' H3 := by
  obtain ⟨e, vs, F, hv, o, nD, f⟩ := pv
  refine ht σ H' (n.mono e) _ fun H3 e3 => ?_
  cases b with
  | false =>
    show PvN H1 D acc' H3
    rw [h0 rfl]
    exact ⟨e.trans e3, vs, F, e3 _ _ hv, o.mono e3, nD, f⟩
  | true =>
    show te σ H3 _
    refine he rfl σ H3 (n.mono (e.trans e3)) _ fun y H4 e4 ⟨G, oG, fG⟩ => ?_
    have hv4 := e4 _ _ (e3 _ _ hv)
    have nG : D ∉ G := fun z => by
      have := fG D z
      rw [e3 _ _ hv] at this
      cases this
    have o4 := o.mono (e3.trans e4)
    have dis : ∀ a ∈ F, a ∉ G := fun a ha hg => by
      obtain ⟨xs, hx⟩ := o.at_ a ha
      have := fG a hg
      rw [e3 _ _ hx] at this
      cases this
    refine ⟨vs, hv4, sz_lt (by rw [o.len]; exact hz), Ex.mut ((e.trans e3).trans e4) hD, vs ++ [y], F ++ G, upd_same, ?_, fun z => ?_, fun a ha => ?_⟩
    · rw [h1 rfl]
      exact OwnAll.snoc (oG.off hv4 nG) (o4.off hv4 nD) dis
    · rcases List.mem_append.mp z with z | z
      · exact nD z
      · exact nG z
    · rcases List.mem_append.mp ha with ha | ha
      · exact f a ha
      · exact fresh_back (e.trans e3) (fG a ha)
theorem turnS (hD : H1 D = none) (pv : PvS H1 D acc H') (n : Env K H1 σ ρ) (ht : VT K tt ρ b) (he : b = true → VS K te ρ d) (hz : acc.length < 100000) (h1 : b = true → acc' = acc ++ [d]) (h0 : b = false → acc' = acc) :
    tt σ H' fun b H3 => if b = true then te σ H3 fun y H4 => ∃ ac, H4 D = some (.lst ac) ∧ ac.length < sizeLine ∧ PvS H1 D acc' (upd H4 D (.lst (ac ++ [y]))) else PvS H1 D acc' H3 := by
  obtain ⟨e, vs, hv, o⟩ := pv
  refine ht σ H' (n.mono e) _ fun H3 e3 => ?_
  cases b with
  | false =>
    show PvS H1 D acc' H3
    rw [h0 rfl]
    exact ⟨e.trans e3, vs, e3 _ _ hv, o⟩
  | true =>
    show te σ H3 _
    refine he rfl σ H1 H3 n (e.trans e3) _ fun y H4 e4 ty => ?_
    refine ⟨vs, e4 _ _ (e3 _ _ hv), sz_lt (by rw [o.len]; exact hz), Ex.mut ((e.trans e3).trans e4) hD, vs ++ [y], upd_same, ?_⟩
    rw [h1 rfl]
    exact o.snoc ty
theorem PvN.done {H0 : Hp} (e0 : Ex H0 H1) (hD : H1 D = none) (pv : PvN H1 D acc H') : New H0 H' (.ref D) (.list acc) := by
  obtain ⟨e, vs, F, hv, o, nD, f⟩ := pv
  exact ⟨D :: F, .lst hv o nD, fun a ha => by
    rcases List.mem_cons.mp ha with rfl | ha
    · exact fresh_back e0 hD
    · exact fresh_back e0 (f a ha)⟩
theorem PvS.done (pv : PvS H1 D acc H') : Tp H' (.ref D) (.list acc) := by
  obtain ⟨e, vs, hv, o⟩ := pv
  exact .lst hv (o.mono e)

/-- what the turns give -/
def accs {α : Type} (p : α → Bool) (f : α → PyData) (xs : List α) : List PyData := (xs.filter p).map f
theorem accs_take {α : Type} {p : α → Bool} {f : α → PyData} {xs : List α} {i : Nat} {x : α} (h : xs[i]? = some x) :
    (p x = true → accs p f (xs.take (i + 1)) = accs p f (xs.take i) ++ [f x]) ∧ (p x = false → accs p f (xs.take (i + 1)) = accs p f (xs.take i)) := by
  unfold accs
  rw [List.take_add_one, h]
  refine ⟨fun q => ?_, fun q => ?_⟩ <;> simp [q]
theorem accs_len {α : Type} (p : α → Bool) (f : α → PyData) (xs : List α) : (accs p f xs).length ≤ xs.length := by
  unfold accs
  rw [List.length_map]
  exact List.length_filter_le _ _
/-- over a list; p: which, f: what -/
theorem n_lcD {ds : List PyData} {j : Nat} {vs : List Nat} (p : PyData → Bool) (f : PyData → PyData) (hl : VD K tl ρ (.list ds)) (hz : ds.length ≤ 10000) (hj : j ∈ vs)
    (ht : ∀ x ∈ ds, VT K tt ((wipeR ρ vs).set j (some (.d x))) (p x)) (he : ∀ x ∈ ds, p x = true → VN K te ((wipeR ρ vs).set j (some (.d x))) (f x)) : VN K (tLc (iList K tl) (gName j) tt te vs) ρ (.list (accs p f ds)) := fun σ H n Q q =>
  hl σ H n _ fun v H1 e1 r1 => by
    obtain ⟨a, xs, rfl, ea, t⟩ := Tp.lst_inv r1
    refine ⟨a, rfl, ⟨xs, SqL.of ea⟩, fun D hD => ?_⟩
    refine lc_list (xs := xs) (fun i H' => PvN H1 D (accs p f (ds.take i)) H') (by simpa [accs] using PvN.start hD) (fun i H' _ pv => SqL.of (pv.1 _ _ ea)) (fun i x H' hx pv => ⟨wipe_back hj, ?_⟩) (fun H' pv => ?_)
    · obtain ⟨d, hd, td⟩ := t.getV hx
      have hm : d ∈ ds := List.mem_of_getElem? hd
      have hi : i < ds.length := (List.getElem?_eq_some_iff.mp hd).1
      have at_ := accs_take (p := p) (f := f) hd
      exact turnN hD pv (((n.mono e1).wipe vs).set j (z := .d d) td) (ht d hm) (he d hm) (by have := accs_len p f (ds.take i); rw [List.length_take] at this; omega) at_.1 at_.2
    · rw [t.len, List.take_length] at pv
      exact q _ H' (e1.trans pv.1) (pv.done e1 hD)
theorem v_lcD {ds : List PyData} {j : Nat} {vs : List Nat} (p : PyData → Bool) (f : PyData → PyData) (hl : VD K tl ρ (.list ds)) (hz : ds.length ≤ 10000) (hj : j ∈ vs)
    (ht : ∀ x ∈ ds, VT K tt ((wipeR ρ vs).set j (some (.d x))) (p x)) (he : ∀ x ∈ ds, p x = true → VS K te ((wipeR ρ vs).set j (some (.d x))) (f x)) : VD K (tLc (iList K tl) (gName j) tt te vs) ρ (.list (accs p f ds)) := fun σ H n Q q =>
  hl σ H n _ fun v H1 e1 r1 => by
    obtain ⟨a, xs, rfl, ea, t⟩ := Tp.lst_inv r1
    refine ⟨a, rfl, ⟨xs, SqL.of ea⟩, fun D hD => ?_⟩
    refine lc_list (xs := xs) (fun i H' => PvS H1 D (accs p f (ds.take i)) H') (by simpa [accs] using PvS.start hD) (fun i H' _ pv => SqL.of (pv.1 _ _ ea)) (fun i x H' hx pv => ⟨wipe_back hj, ?_⟩) (fun H' pv => ?_)
    · obtain ⟨d, hd, td⟩ := t.getV hx
      have hm : d ∈ ds := List.mem_of_getElem? hd
      have hi : i < ds.length := (List.getElem?_eq_some_iff.mp hd).1
      have at_ := accs_take (p := p) (f := f) hd
      exact turnS hD pv (((n.mono e1).wipe vs).set j (z := .d d) td) (ht d hm) (he d hm) (by have := accs_len p f (ds.take i); rw [List.length_take] at this; omega) at_.1 at_.2
    · rw [t.len, List.take_length] at pv
      exact q _ H' (e1.trans pv.1) pv.done
/-- over a list backwards -/
theorem n_lcRev {ds : List PyData} {j : Nat} {vs : List Nat} (f : PyData → PyData) (hl : VD K tl ρ (.list ds)) (hz : ds.length ≤ 10000) (hj : j ∈ vs)
    (he : ∀ x ∈ ds, VN K te ((wipeR ρ vs).set j (some (.d x))) (f x)) : VN K (tLc (iRevA K tl) (gName j) tYes te vs) ρ (.list (ds.reverse.map f)) := fun σ H n Q q =>
  hl σ H n _ fun v H1 e1 r1 => by
    obtain ⟨a, xs, rfl, ea, t⟩ := Tp.lst_inv r1
    refine ⟨a, xs, rfl, .inl ⟨SqL.of ea, fun D hD => ?_⟩⟩
    refine ⟨fun i m H' => m = xs.length - i ∧ i ≤ xs.length ∧ PvN H1 D ((ds.reverse.take i).map f) H', ⟨xs.length, by simp, Nat.zero_le _, by simpa using PvN.start hD⟩, ?_⟩
    rintro i m H' ⟨rfl, hi, pv⟩
    have hln := t.len
    by_cases hlt : i < xs.length
    · have hk : xs.length - 1 - i < ds.length := by omega
      have hx : xs[xs.length - 1 - i]? = some xs[xs.length - 1 - i] := List.getElem?_eq_getElem (by omega)
      refine .inr ⟨⟨hlt, xs, _, SqL.of (pv.1 _ _ ea), hx⟩, fun H' => PvN H1 D ((ds.reverse.take (i + 1)).map f) H', fun H2 p2 => ⟨xs.length - (i + 1), by omega, rfl, hlt, p2⟩, fun x H2 y => ?_⟩
      obtain ⟨rfl, y⟩ := y
      obtain ⟨d, hd, td⟩ := t.getV (y xs (SqL.of (pv.1 _ _ ea)))
      have hm : d ∈ ds := List.mem_of_getElem? hd
      have hr : ds.reverse[i]? = some d := by
        rw [List.getElem?_reverse (by omega), ← hln]
        exact hd
      refine ⟨wipe_back hj, turnN hD pv (((n.mono e1).wipe vs).set j (z := .d d) td) t_yes (fun _ => he d hm) (by rw [List.length_map, List.length_take, List.length_reverse]; omega) (fun _ => ?_) (fun z => nomatch z)⟩
      rw [List.take_add_one, hr]
      simp
    · have hie : i = xs.length := by omega
      refine .inl ⟨by show xs.length ≤ i; omega, ?_⟩
      rw [hie, hln, List.take_of_length_le (by simp)] at pv
      exact q _ H' (e1.trans pv.1) (pv.done e1 hD)
/-- over range(n), range(lo, n) -/
theorem range_take {n i : Nat} (h : i < n) : (List.range n).take (i + 1) = (List.range n).take i ++ [i] := by
  rw [List.take_add_one, List.getElem?_range h]
  rfl
theorem n_lcR1 {m : Int} {j : Nat} {vs : List Nat} (p : Nat → Bool) (f : Nat → PyData) (hl : VD K tl ρ (.int m)) (hz : m ≤ 10000) (hm0 : -100000 ≤ m) (hj : j ∈ vs)
    (ht : ∀ i : Nat, (i : Int) < m → VT K tt ((wipeR ρ vs).set j (some (.d (.int (i : Int))))) (p i)) (he : ∀ i : Nat, (i : Int) < m → p i = true → VN K te ((wipeR ρ vs).set j (some (.d (.int (i : Int))))) (f i)) :
    VN K (tLc (iRng1 (tCons tl tNil)) (gName j) tt te vs) ρ (.list (accs p f (List.range m.toNat))) := fun σ H n Q q =>
  hl σ H n _ fun v H1 e1 r1 => by
    cases Tp.int_inv r1
    refine ⟨m, rfl, by omega, by omega, fun D hD => ?_⟩
    refine lc_range (lo := 0) (n := m.toNat) (fun i H' => PvN H1 D (accs p f ((List.range m.toNat).take i)) H') (by simpa [accs] using PvN.start hD) (fun i H' hi pv => ⟨wipe_back hj, ?_⟩) (fun H' pv => ?_)
    · have at_ := accs_take (p := p) (f := f) (List.getElem?_range hi)
      have e0 : (0 : Int) + (i : Int) = (i : Int) := Int.zero_add _
      rw [e0]
      exact turnN hD pv (((n.mono e1).wipe vs).set j (z := .d (.int (i : Int))) (.int _)) (ht i (by omega)) (he i (by omega)) (by have := accs_len p f ((List.range m.toNat).take i); rw [List.length_take, List.length_range] at this; omega) at_.1 at_.2
    · rw [List.take_of_length_le (by simp)] at pv
      exact q _ H' (e1.trans pv.1) (pv.done e1 hD)
theorem v_lcR1 {m : Int} {j : Nat} {vs : List Nat} (p : Nat → Bool) (f : Nat → PyData) (hl : VD K tl ρ (.int m)) (hz : m ≤ 10000) (hm0 : -100000 ≤ m) (hj : j ∈ vs)
    (ht : ∀ i : Nat, (i : Int) < m → VT K tt ((wipeR ρ vs).set j (some (.d (.int (i : Int))))) (p i)) (he : ∀ i : Nat, (i : Int) < m → p i = true → VS K te ((wipeR ρ vs).set j (some (.d (.int (i : Int))))) (f i)) :
    VD K (tLc (iRng1 (tCons tl tNil)) (gName j) tt te vs) ρ (.list (accs p f (List.range m.toNat))) := fun σ H n Q q =>
  hl σ H n _ fun v H1 e1 r1 => by
    cases Tp.int_inv r1
    refine ⟨m, rfl, by omega, by omega, fun D hD => ?_⟩
    refine lc_range (lo := 0) (n := m.toNat) (fun i H' => PvS H1 D (accs p f ((List.range m.toNat).take i)) H') (by simpa [accs] using PvS.start hD) (fun i H' hi pv => ⟨wipe_back hj, ?_⟩) (fun H' pv => ?_)
    · have at_ := accs_take (p := p) (f := f) (List.getElem?_range hi)
      have e0 : (0 : Int) + (i : Int) = (i : Int) := Int.zero_add _
      rw [e0]
      exact turnS hD pv (((n.mono e1).wipe vs).set j (z := .d (.int (i : Int))) (.int _)) (ht i (by omega)) (he i (by omega)) (by have := accs_len p f ((List.range m.toNat).take i); rw [List.length_take, List.length_range] at this; omega) at_.1 at_.2
    · rw [List.take_of_length_le (by simp)] at pv
      exact q _ H' (e1.trans pv.1) pv.done
theorem accs_yes {α : Type} (f : α → PyData) (xs : List α) : accs (fun _ => true) f xs = xs.map f := by unfold accs; rw [List.filter_eq_self.mpr (fun _ _ => rfl)]
theorem accs_map {α β : Type} (g : β → α) (p : α → Bool) (f : α → PyData) (xs : List β) : accs p f (xs.map g) = accs (fun x => p (g x)) (fun x => f (g x)) xs := by
  unfold accs
  rw [List.filter_map, List.map_map]
  rfl
/-- .. of plain data, without a test -/
theorem n_lc {α β : Type} [Enc α] [Enc β] {xs : List α} {j : Nat} {vs : List Nat} (f : α → β) (hl : VD K tl ρ (enc xs)) (hz : xs.length ≤ 10000) (hj : j ∈ vs)
    (he : ∀ x ∈ xs, VN K te ((wipeR ρ vs).set j (some (.d (enc x)))) (enc (f x))) : VN K (tLc (iList K tl) (gName j) tYes te vs) ρ (enc (xs.map f)) := by
  refine fun σ H n Q q => hl σ H n _ fun v H1 e1 r1 => ?_
  obtain ⟨a, us, rfl, ea, t⟩ := Tp.lst_inv r1
  refine ⟨a, rfl, ⟨us, SqL.of ea⟩, fun D hD => ?_⟩
  refine lc_list (xs := us) (fun i H' => PvN H1 D ((xs.take i).map fun x => enc (f x)) H') (by simpa using PvN.start hD) (fun i H' _ pv => SqL.of (pv.1 _ _ ea)) (fun i x H' hx pv => ⟨wipe_back hj, ?_⟩) (fun H' pv => ?_)
  · obtain ⟨d, hd, td⟩ := t.getV hx
    rw [List.getElem?_map] at hd
    cases hxi : xs[i]? with
    | none => rw [hxi] at hd; cases hd
    | some y =>
      rw [hxi] at hd
      cases hd
      have hm : y ∈ xs := List.mem_of_getElem? hxi
      have hi : i < xs.length := (List.getElem?_eq_some_iff.mp hxi).1
      refine turnN hD pv (((n.mono e1).wipe vs).set j (z := .d (enc y)) td) t_yes (fun _ => he y hm) (by rw [List.length_map, List.length_take]; omega) (fun _ => ?_) (fun z => nomatch z)
      rw [List.take_add_one, hxi]
      simp
  · rw [t.len, List.length_map, List.take_length] at pv
    have w := pv.done e1 hD
    rw [show (xs.map fun x => enc (f x)) = (xs.map f).map enc by rw [List.map_map]; rfl] at w
    exact q _ H' (e1.trans pv.1) w
theorem n_lcRv {α β : Type} [Enc α] [Enc β] {xs : List α} {j : Nat} {vs : List Nat} (f : α → β) (hl : VD K tl ρ (enc xs)) (hz : xs.length ≤ 10000) (hj : j ∈ vs)
    (he : ∀ x ∈ xs, VN K te ((wipeR ρ vs).set j (some (.d (enc x)))) (enc (f x))) : VN K (tLc (iRevA K tl) (gName j) tYes te vs) ρ (enc (xs.reverse.map f)) := by
  refine fun σ H n Q q => hl σ H n _ fun v H1 e1 r1 => ?_
  obtain ⟨a, us, rfl, ea, t⟩ := Tp.lst_inv r1
  refine ⟨a, us, rfl, .inl ⟨SqL.of ea, fun D hD => ?_⟩⟩
  have hln := t.len
  rw [List.length_map] at hln
  refine ⟨fun i m H' => m = us.length - i ∧ i ≤ us.length ∧ PvN H1 D ((xs.reverse.take i).map fun x => enc (f x)) H', ⟨us.length, by simp, Nat.zero_le _, by simpa using PvN.start hD⟩, ?_⟩
  rintro i m H' ⟨rfl, hi, pv⟩
  by_cases hlt : i < us.length
  · have hx : us[us.length - 1 - i]? = some us[us.length - 1 - i] := List.getElem?_eq_getElem (by omega)
    refine .inr ⟨⟨hlt, us, _, SqL.of (pv.1 _ _ ea), hx⟩, fun H' => PvN H1 D ((xs.reverse.take (i + 1)).map fun x => enc (f x)) H', fun H2 p2 => ⟨us.length - (i + 1), by omega, rfl, hlt, p2⟩, fun x H2 y => ?_⟩
    obtain ⟨rfl, y⟩ := y
    obtain ⟨d, hd, td⟩ := t.getV (y us (SqL.of (pv.1 _ _ ea)))
    rw [List.getElem?_map] at hd
    cases hxi : xs[us.length - 1 - i]? with
    | none => rw [hxi] at hd; cases hd
    | some y =>
      rw [hxi] at hd
      cases hd
      have hm : y ∈ xs := List.mem_of_getElem? hxi
      have hr : xs.reverse[i]? = some y := by
        rw [List.getElem?_reverse (by omega), ← hln]
        exact hxi
      refine ⟨wipe_back hj, turnN hD pv (((n.mono e1).wipe vs).set j (z := .d (enc y)) td) t_yes (fun _ => he y hm) (by rw [List.length_map, List.length_take, List.length_reverse]; omega) (fun _ => ?_) (fun z => nomatch z)⟩
      rw [List.take_add_one, hr]
      simp
  · have hie : i = us.length := by omega
    refine .inl ⟨by show us.length ≤ i; omega, ?_⟩
    rw [hie, hln, List.take_of_length_le (by simp)] at pv
    have w := pv.done e1 hD
    rw [show (xs.reverse.map fun x => enc (f x)) = (xs.reverse.map f).map enc by rw [List.map_map]; rfl] at w
    exact q _ H' (e1.trans pv.1) w
theorem n_rg {β : Type} [Enc β] {m : Int} {j : Nat} {vs : List Nat} (f : Nat → β) (hl : VD K tl ρ (.int m)) (hz : m ≤ 10000) (hm0 : -100000 ≤ m) (hj : j ∈ vs)
    (he : ∀ i : Nat, (i : Int) < m → VN K te ((wipeR ρ vs).set j (some (.d (.int (i : Int))))) (enc (f i))) : VN K (tLc (iRng1 (tCons tl tNil)) (gName j) tYes te vs) ρ (enc ((List.range m.toNat).map f)) :=
  (n_lcR1 (fun _ => true) (fun i => enc (f i)) hl hz hm0 hj (fun _ _ => t_yes) (fun i hi _ => he i hi)).eq (by rw [accs_yes]; show _ = PyData.list _; rw [List.map_map]; rfl)
/-- .. with one test, the turns' own numbers -/
theorem n_rgIf {β : Type} [Enc β] {m : Int} {j : Nat} {vs : List Nat} (p : Nat → Bool) (f : Nat → β) (hl : VD K tl ρ (.int m)) (hz : m ≤ 10000) (hm0 : -100000 ≤ m) (hj : j ∈ vs)
    (ht : ∀ i : Nat, (i : Int) < m → VT K tt ((wipeR ρ vs).set j (some (.d (.int (i : Int))))) (p i))
    (he : ∀ i : Nat, (i : Int) < m → p i = true → VN K te ((wipeR ρ vs).set j (some (.d (.int (i : Int))))) (enc (f i))) : VN K (tLc (iRng1 (tCons tl tNil)) (gName j) tt te vs) ρ (enc (((List.range m.toNat).filter p).map f)) :=
  (n_lcR1 p (fun i => enc (f i)) hl hz hm0 hj ht he).eq (by unfold accs; show _ = PyData.list _; rw [List.map_map]; rfl)
end

/-! ### calls of defs -/
/-- a def that tells data of its own: R of the arguments and the answer -/
def spR (K : PySem.W.Frag) (R : List Ent → PyData → Prop) : Sp := fun vs H Q _ => ∃ zs r, RepAll K H vs zs ∧ R zs r ∧ ∀ v H', Ex H H' → New H H' v r → Q v H'
section
variable {K : PySem.W.Frag} {ρ : Rho} {te ta tb tl : TE} {tt : TT} {d : PyData} {z : Ent} {b : Bool}
theorem n_call {R : List Ent → PyData → Prop} {E : XK} {ta : TA} {zs : List Ent} (ha : AE K ta ρ zs) (hR : R zs d) : VN K (tCall (spR K R) [] E ta) ρ d := fun σ H n Q q =>
  ha σ H n _ fun vs H1 e1 r1 => by
    show spR K R (vs ++ []) H1 Q E
    rw [List.append_nil]
    exact ⟨zs, d, r1, hR, fun v H' e2 w => q v H' (e1.trans e2) (w.back e1)⟩

/-! ### statements that change nothing that stood -/
inductive Out where
  | ret (d : PyData)
  | nx (ρ : Rho)
def Ends.to (D : Ends) (K : PySem.W.Frag) (H : Hp) : Out → Prop
  | .ret d => ∀ v H', Ex H H' → New H H' v d → D.rt v H'
  | .nx ρ' => ∀ σ' H', Ex H H' → Env K H' σ' ρ' → D.nx σ' H'
def RD (K : PySem.W.Frag) (ts : TS) (ρ : Rho) (o : Out) : Prop := ∀ D σ H, Env K H σ ρ → Ends.to D K H o → ts D σ H
theorem Ends.to.mono {D : Ends} {H H' : Hp} (e : Ex H H') : ∀ {o : Out}, Ends.to D K H o → Ends.to D K H' o
  | .ret d, h => fun v H2 e2 w => h v H2 (e.trans e2) (w.back e)
  | .nx ρ', h => fun σ' H2 e2 n => h σ' H2 (e.trans e2) n
variable {t u : TS} {o : Out} {ρ' : Rho}
theorem r_seq (h1 : RD K t ρ (.nx ρ')) (h2 : RD K u ρ' o) : RD K (tSeq t u) ρ o := fun D σ H n q =>
  h1 { D with nx := u D } σ H n fun σ' H' e n' => h2 D σ' H' n' (q.mono e)
theorem r_seqR (h1 : RD K t ρ (.ret d)) : RD K (tSeq t u) ρ (.ret d) := fun D σ H n q => h1 { D with nx := u D } σ H n q
theorem r_next : RD K tNext ρ (.nx ρ) := fun D σ H n q => q σ H (Ex.refl H) n
theorem r_set {i : Nat} (h : VE K te ρ z) : RD K (tAsg te (gName i)) ρ (.nx (ρ.set i (some z))) := fun D σ H n q =>
  h σ H n _ fun v H' e r => q _ H' e ((n.mono e).set i r)
theorem r_ret (h : VN K te ρ d) : RD K (tRet te) ρ (.ret d) := fun D σ H n q => h σ H n _ fun v H' e r => q v H' e r
theorem r_retP (h : VD K te ρ d) (p : plain d = true) : RD K (tRet te) ρ (.ret d) := r_ret (h.toN p)
theorem r_drop (h : VE K te ρ z) : RD K (tDrop te) ρ (.nx ρ) := fun D σ H n q => h σ H n _ fun v H' e r => q σ H' e (n.mono e)
theorem r_if (hc : VT K tt ρ b) (h1 : b = true → RD K t ρ o) (h2 : b = false → RD K u ρ o) : RD K (tIfS tt t u) ρ o := fun D σ H n q =>
  hc σ H n _ fun H1 e => by
    cases b with
    | true => exact h1 rfl D σ H1 (n.mono e) (q.mono e)
    | false => exact h2 rfl D σ H1 (n.mono e) (q.mono e)
/-- an if ahead of more: each way goes on -/
theorem r_ifSeq {w : TS} (hc : VT K tt ρ b) (h1 : b = true → RD K (tSeq t w) ρ o) (h2 : b = false → RD K (tSeq u w) ρ o) : RD K (tSeq (tIfS tt t u) w) ρ o := fun D σ H n q =>
  hc σ H n _ fun H1 e => by
    cases b with
    | true => exact h1 rfl D σ H1 (n.mono e) (q.mono e)
    | false => exact h2 rfl D σ H1 (n.mono e) (q.mono e)
theorem r_nextSeq (h : RD K u ρ o) : RD K (tSeq tNext u) ρ o := r_seq r_next h
theorem RD.sub {ρ0 : Rho} (s : Sub ρ' ρ0) (h : RD K t ρ' o) : RD K t ρ0 o := fun D σ H n q => h D σ H (n.sub s) q
theorem RD.eq {o' : Out} (h : RD K t ρ o) (e : o = o') : RD K t ρ o' := e ▸ h
/-- forget -/
theorem RD.weak {ρ2 : Rho} (s : Sub ρ2 ρ') (h : RD K t ρ (.nx ρ')) : RD K t ρ (.nx ρ2) := fun D σ H n q => h D σ H n fun σ' H' e n' => q σ' H' e (n'.sub s)
/-- a loop over range(n) whose turn changes nothing but slots that are forgotten: the first turn that returns ends it -/
def findR (f : Nat → Option PyData) (ρ : Rho) : List Nat → Out
  | [] => .nx ρ
  | i :: r => match f i with
    | some d => .ret d
    | none => findR f ρ r
theorem r_forR1 {m : Int} {j : Nat} (f : Nat → Option PyData) (hl : VD K tl ρ (.int m)) (hz : m ≤ 1000000) (hm0 : -100000 ≤ m) (hs : Sub (ρ.set j none) ρ)
    (hb : ∀ i : Nat, (i : Int) < m → RD K t ((ρ.set j none).set j (some (.d (.int (i : Int))))) (match f i with | some d => .ret d | none => .nx (ρ.set j none))) :
    RD K (tFor (iRng1 (tCons tl tNil)) (gName j) t) ρ (findR f (ρ.set j none) (List.range m.toNat)) := fun D σ H n q =>
  hl σ H n _ fun v H1 e1 r1 => by
    cases Tp.int_inv r1
    refine ⟨m, rfl, by omega, by omega, ?_⟩
    refine for_range (lo := 0) (n := m.toNat) (fun i σ' H' => Ex H H' ∧ Env K H' σ' (ρ.set j none) ∧ Ends.to D K H (findR f (ρ.set j none) ((List.range m.toNat).drop i))) ⟨e1, (n.mono e1).sub hs, by simpa using q⟩ (fun i σ' H' hi pv => ?_) (fun σ' H' pv => ?_)
    · obtain ⟨e, n', q'⟩ := pv
      have e0 : (0 : Int) + (i : Int) = (i : Int) := Int.zero_add _
      rw [e0]
      have hd : (List.range m.toNat).drop i = i :: (List.range m.toNat).drop (i + 1) := by
        rw [List.drop_eq_getElem_cons (by simpa using hi)]
        simp
      rw [hd] at q'
      refine hb i (by omega) _ _ H' (n'.set j (z := .d (.int (i : Int))) (.int _)) ?_
      cases hf : f i with
      | some d =>
        simp only [findR, hf] at q'
        exact fun v H2 e2 w => q' v H2 (e.trans e2) (w.back e)
      | none =>
        simp only [findR, hf] at q'
        exact fun σ2 H2 e2 n2 => ⟨e.trans e2, n2, q'⟩
    · obtain ⟨e, n', q'⟩ := pv
      have hd : (List.range m.toNat).drop m.toNat = [] := by simp
      rw [hd] at q'
      exact q' σ' H' e n'
/-- .. over a list -/
def findD {α : Type} (f : α → Option PyData) (ρ : Rho) : List α → Out
  | [] => .nx ρ
  | i :: r => match f i with
    | some d => .ret d
    | none => findD f ρ r
theorem r_forL {ds : List PyData} {j : Nat} (f : PyData → Option PyData) (hl : VD K tl ρ (.list ds)) (hs : Sub (ρ.set j none) ρ)
    (hb : ∀ x ∈ ds, RD K t ((ρ.set j none).set j (some (.d x))) (match f x with | some d => .ret d | none => .nx (ρ.set j none))) :
    RD K (tFor (iList K tl) (gName j) t) ρ (findD f (ρ.set j none) ds) := fun D σ H n q =>
  hl σ H n _ fun v H1 e1 r1 => by
    obtain ⟨a, xs, rfl, ea, t'⟩ := Tp.lst_inv r1
    refine ⟨a, rfl, ⟨xs, SqL.of ea⟩, ?_⟩
    refine for_list (xs := xs) (fun i σ' H' => Ex H1 H' ∧ Env K H' σ' (ρ.set j none) ∧ Ends.to D K H (findD f (ρ.set j none) (ds.drop i))) ⟨Ex.refl H1, (n.mono e1).sub hs, by simpa using q⟩ (fun i σ' H' _ pv => SqL.of (pv.1 _ _ ea)) (fun i x σ' H' hx pv => ?_) (fun σ' H' pv => ?_)
    · obtain ⟨e, n', q'⟩ := pv
      obtain ⟨d, hd, td⟩ := t'.getV hx
      have hm : d ∈ ds := List.mem_of_getElem? hd
      have hlt := (List.getElem?_eq_some_iff.mp hd)
      have hdr : ds.drop i = d :: ds.drop (i + 1) := by
        rw [List.drop_eq_getElem_cons hlt.1, hlt.2]
      rw [hdr] at q'
      refine hb d hm _ _ H' (n'.set j (z := .d d) (td.mono e)) ?_
      cases hf : f d with
      | some r =>
        simp only [findD, hf] at q'
        exact fun v H2 e2 w => q' v H2 ((e1.trans e).trans e2) (w.back (e1.trans e))
      | none =>
        simp only [findD, hf] at q'
        exact fun σ2 H2 e2 n2 => ⟨e.trans e2, n2, q'⟩
    · obtain ⟨e, n', q'⟩ := pv
      have hd : ds.drop xs.length = [] := by rw [t'.len]; simp
      rw [hd] at q'
      exact q' σ' H' (e1.trans e) n'
end

/-! ### a def, by what its body tells -/
theorem Env.args {K : PySem.W.Frag} {H : Hp} : ∀ {vs : List V} {zs : List Ent} (m : Nat), RepAll K H vs zs → Env K H (vs.map some ++ List.replicate m none) (zs.map some ++ List.replicate m none)
  | _, _, m, .nil => by
    induction m with
    | zero => exact Env.nil
    | succ m ih => exact Env.skip ih
  | _, _, m, .cons r t => Env.cons r (Env.args m t)
def startR (N : List Str) (zs : List Ent) : Rho := zs.map some ++ List.replicate (N.length - zs.length) none
theorem Env.start {K : PySem.W.Frag} {H : Hp} {N : List Str} {vs : List V} {zs : List Ent} (r : RepAll K H vs zs) : Env K H (L2.start N vs) (startR N zs) := by
  unfold L2.start startR
  rw [r.len]
  exact Env.args _ r
section
variable {P : Program} {w : World} {K : PySem.W.Frag} {mg : Str → Option Value} {base : Heap}
theorem fn_R {x qual : Str} {st : Stmt} {f : Addr} {fd : FuncData} {N ps : List Str} {k : Nat} {R : List Ent → PyData → Prop} (F : Fun K x qual st f fd) (S : FnScope N ps (defScope st)) (len : ∀ zs r, R zs r → zs.length = ps.length)
    (hbody : ∀ (cdv : Value) (A : Around) (outer : List PySem.Env) (s : Shared) (H : Hp) (E : XK), Room k (A.deeper (envOfC qual (defScope st) s.heap.objs.size f cdv)) →
      ∃ t, PSs (cxOf CX0 P w K mg base N qual (defScope st) f cdv A outer s H E).nox (defBody st) t ∧ ∀ zs r, R zs r → RD K t (startR N zs) (.ret r) ∨ (r = .none ∧ ∃ ρ', RD K t (startR N zs) (.nx ρ'))) : FnOk P w K mg base CX0 (k + 1) f fd ps (spR K R) := by
  refine F.ok S (fun vs H Q E h => ?_) (fun cdv A outer s H vs Q E hr h => ?_)
  · obtain ⟨zs, r, h1, h2, _⟩ := h
    rw [h1.len]
    exact len zs r h2
  · obtain ⟨zs, r, h1, h2, q⟩ := h
    obtain ⟨t, h3, h4⟩ := hbody cdv A outer s H E hr
    refine ⟨t, h3, ?_⟩
    rcases h4 zs r h2 with h5 | ⟨rfl, ρ', h5⟩
    · exact h5 _ _ H (Env.start h1) fun v H' e w => q v H' e w
    · exact h5 _ _ H (Env.start h1) fun σ' H' e n => q .non H' e ⟨[], .non, fun _ z => nomatch z⟩
end
end DF

namespace DF
open Enc (enc)
open PySem PySem.Spec PyProof.Rows L2 Evl RT

/-! ### what the module's top leaves -/
structure Blt (mg : Str → Option Value) : Prop where
  len : mg "len" = none
  all : mg "all" = none
  any : mg "any" = none
  isinstance : mg "isinstance" = none
  list : mg "list" = none
  tuple : mg "tuple" = none
  int : mg "int" = none
  bool : mg "bool" = none
  str : mg "str" = none
  range : mg "range" = none
  reversed : mg "reversed" = none
  max : mg "max" = none
  min : mg "min" = none
  most : ∃ t, mg "MOST" = some (.int 60 t)
/-- a def of the text at its place -/
def Dfn (K : PySem.W.Frag) (mg : Str → Option Value) (x : Str) (st : Stmt) (ps : List Str) : Prop := ∃ f fd, mg x = some (.ref f) ∧ Fun K x x st f fd ∧ Binds K fd ps []
/-- what a caller needs of a def -/
def Cal (P : Program) (w : World) (K : PySem.W.Frag) (mg : Str → Option Value) (base : Heap) (CX : CXT) (k : Nat) (x : Str) (ps : List Str) (sp : Sp) : Prop :=
  ∃ f fd, mg x = some (.ref f) ∧ FnOk P w K mg base CX k f fd ps sp ∧ PySem.W.keepIn K (.ref f) = true ∧ Binds K fd ps []
section
variable {P : Program} {w : World} {K : PySem.W.Frag} {mg : Str → Option Value} {base : Heap}
theorem pe_cal {X : Cx} {k : Nat} {x : Str} {ps : List Str} {sp : Sp} {p pos : Pos} {e : Expr} {es : List Expr} {t : TA} (C : Cal X.prog X.w X.K X.mg X.base CX0 k x ps sp) (hr : Room k X.A) (hg : Gl X x) (ha : PA X (e :: es) t)
    (hdb : (x == ("__debug__" : Str)) = false := by decide) (he : starEach (e :: es) X.env = (false, eval e X.env) :: starEach es X.env := by rfl) (hpl : (backTo pos (starEach es X.env)).any (·.1) = false := by rfl) :
    PE X (.Call (.Name x p) (e :: es) [] pos) (tCall sp [] E0 t) := by
  obtain ⟨f, fd, hm, F, kp, b⟩ := C
  exact pe_call F hr hg hm kp b .nil pass0 ha hdb he hpl
theorem pe_most {X : Cx} {pos : Pos} (hg : Gl X "MOST") (h : ∃ t, X.mg "MOST" = some (.int 60 t)) : PE X (.Name "MOST" pos) (tC (.int 60)) := by
  obtain ⟨t, h⟩ := h
  exact pe_glob (v := .int 60) hg h ⟨t, rfl⟩
theorem hu65 {A : Around} {k : Nat} (hr : Room k A) : A.units + 65 < cLine := by have := hr.un; omega
theorem cal_R {x : Str} {st : Stmt} {N ps : List Str} {k : Nat} {R : List Ent → PyData → Prop} (D : Dfn K mg x st ps) (S : FnScope N ps (defScope st)) (len : ∀ zs r, R zs r → zs.length = ps.length)
    (hbody : ∀ (f : Addr) (cdv : Value) (A : Around) (outer : List PySem.Env) (s : Shared) (H : Hp) (E : XK), Room k (A.deeper (envOfC x (defScope st) s.heap.objs.size f cdv)) →
      ∃ t, PSs (cxOf CX0 P w K mg base N x (defScope st) f cdv A outer s H E).nox (defBody st) t ∧ ∀ zs r, R zs r → RD K t (startR N zs) (.ret r) ∨ (r = .none ∧ ∃ ρ', RD K t (startR N zs) (.nx ρ'))) : Cal P w K mg base CX0 (k + 1) x ps (spR K R) := by
  obtain ⟨f, fd, hm, F, b⟩ := D
  exact ⟨f, fd, hm, fn_R F S len (hbody f), F.kp, b⟩
/-- .. told by hand: from the arguments and the heap on -/
theorem cal_sp {x : Str} {st : Stmt} {N ps : List Str} {k : Nat} {sp : Sp} (D : Dfn K mg x st ps) (S : FnScope N ps (defScope st)) (len : ∀ vs H Q E, sp vs H Q E → vs.length = ps.length)
    (hbody : ∀ (f : Addr) (cdv : Value) (A : Around) (outer : List PySem.Env) (s : Shared) (H : Hp) (vs : List V) (Q : VK) (E : XK), Room k (A.deeper (envOfC x (defScope st) s.heap.objs.size f cdv)) → sp vs H Q E →
      ∃ t, PSs (cxOf CX0 P w K mg base N x (defScope st) f cdv A outer s H E).nox (defBody st) t ∧ t { nx := fun _ H' => Q .non H', rt := Q } (start N vs) H) : Cal P w K mg base CX0 (k + 1) x ps sp := by
  obtain ⟨f, fd, hm, F, b⟩ := D
  exact ⟨f, fd, hm, F.ok S len (hbody f), F.kp, b⟩
end

/-! ### a list of one's own in a slot, grown by a loop's turns -/
section
variable {K : PySem.W.Frag} {ρ : Rho} {te ta tb tl : TE} {tt : TT} {d : PyData} {z : Ent} {b : Bool} {H H' H1 : Hp} {σ : L2.St} {D : Ends} {t u : TS}
/-- the list at p of one's own since H0: what it holds -/
def Grown (H0 H : Hp) (p : Addr) (acc : List PyData) : Prop := H0 p = none ∧ PvN H0 p acc H
theorem Grown.tp {H0 H : Hp} {p : Addr} {acc : List PyData} (g : Grown H0 H p acc) : Tp H (.ref p) (.list acc) := by
  obtain ⟨_, e, vs, F, hv, o, _, _⟩ := g
  exact .lst hv o.tp
theorem Grown.new {H0 H : Hp} {p : Addr} {acc : List PyData} (g : Grown H0 H p acc) : New H0 H (.ref p) (.list acc) := PvN.done (Ex.refl H0) g.1 g.2
theorem Grown.ex {H0 H : Hp} {p : Addr} {acc : List PyData} (g : Grown H0 H p acc) : Ex H0 H := g.2.1
theorem Grown.mono {H0 H H' : Hp} {p : Addr} {acc : List PyData} (g : Grown H0 H p acc) (e : Ex H H') : Grown H0 H' p acc := by
  obtain ⟨h0, e0, vs, F, hv, o, nD, f⟩ := g
  exact ⟨h0, e0.trans e, vs, F, e _ _ hv, o.mono e, nD, f⟩
theorem grown_start {H0 H : Hp} {p : Addr} (h : H0 p = none) (e : Ex H0 H) (hp : H p = some (.lst [])) : Grown H0 H p [] := ⟨h, e, [], [], hp, .nil, (fun z => nomatch z), (fun _ z => nomatch z)⟩
theorem Grown.of_new {H0 H : Hp} {v : V} {ds : List PyData} (h : New H0 H v (.list ds)) (e : Ex H0 H) : ∃ p, v = .ref p ∧ Grown H0 H p ds := by
  obtain ⟨F, o, f⟩ := h
  obtain ⟨a, xs, G, rfl, rfl, ea, t, na⟩ := o.lst_inv
  exact ⟨a, rfl, f a List.mem_cons_self, e, xs, G, ea, t, na, fun b hb => f b (List.mem_cons_of_mem _ hb)⟩
/-- an item of one's own is put behind -/
theorem Grown.push {H0 H H1 : Hp} {p : Addr} {acc : List PyData} {v : V} {d : PyData} (g : Grown H0 H p acc) (e : Ex H H1) (n : New H H1 v d) :
    ∃ vs, H1 p = some (.lst vs) ∧ vs.length = acc.length ∧ Grown H0 (upd H1 p (.lst (vs ++ [v]))) p (acc ++ [d]) := by
  obtain ⟨h0, e0, vs, F, hv, o, nD, f⟩ := g
  obtain ⟨G, oG, fG⟩ := n
  have hv1 := e _ _ hv
  have nG : p ∉ G := fun z => by
    have := fG p z
    rw [hv] at this
    cases this
  have dis : ∀ a ∈ F, a ∉ G := fun a ha hg => by
    obtain ⟨xs, hx⟩ := o.at_ a ha
    have := fG a hg
    rw [hx] at this
    cases this
  refine ⟨vs, hv1, o.len, h0, Ex.mut (e0.trans e) h0, vs ++ [v], F ++ G, upd_same, OwnAll.snoc (oG.off hv1 nG) ((o.mono e).off hv1 nD) dis, fun z => ?_, fun a ha => ?_⟩
  · rcases List.mem_append.mp z with z | z
    · exact nD z
    · exact nG z
  · rcases List.mem_append.mp ha with ha | ha
    · exact f a ha
    · exact fresh_back e0 (fG a ha)
/-- xs.append(e), xs of one's own in slot i: the slots' knowledge is of the heap H0 that stood ahead of xs -/
theorem s_push {H0 : Hp} {p : Addr} {acc : List PyData} {i : Nat} (hi : σ[i]? = some (some (.ref p))) (g : Grown H0 H p acc) (hz : acc.length < 100000) (n : Env K H σ ρ) (h : VN K te ρ d)
    (k : ∀ H', Ex H0 H' → Grown H0 H' p (acc ++ [d]) → D.nx σ H') : tDrop (tBM K "list" rAppend (tVar i) (tCons te tNil)) D σ H := by
  refine ⟨.ref p, hi, ?_, ?_⟩
  · obtain ⟨h0, e0, vs, F, hv, _⟩ := g
    exact .inl ⟨rfl, vs, SqL.of hv⟩
  · refine h σ H n _ fun v H1 e w => ?_
    obtain ⟨vs, hv, hl, g'⟩ := g.push e w
    exact ⟨p, vs, v, rfl, rfl, hv, sz_lt (by rw [hl]; exact hz), k _ g'.ex g'⟩
end
end DF
namespace DF
open Enc (enc)
open PySem
/-! what a number, a row, a cloth is: of any data -/
def isNum (d : PyData) (lo hi : Int) : Bool := match d with
  | .int i => decide (lo ≤ i) && decide (i ≤ hi)
  | _ => false
def isRow (d : PyData) (hi : Int) : Bool := match d with
  | .list ds => decide (1 ≤ ds.length ∧ ds.length ≤ 60) && ds.all fun x => isNum x 0 hi
  | _ => false
def lenD : PyData → Nat
  | .list ds => ds.length
  | _ => 0
def isCloth (d : PyData) : Bool := match d with
  | .list ds => decide (1 ≤ ds.length ∧ ds.length ≤ 60) && (ds.all (fun x => isRow x 1) && ds.all fun x => decide (lenD x = lenD (ds.headD .none)))
  | _ => false
theorem isI_int_int {i : Int} : isI "int" (.int i) = true := by show isIN "int" "int" = true; decide +kernel
theorem isI_int_bool {b : Bool} : isI "int" (.bool b) = true := by show isIN "int" "bool" = true; decide +kernel
theorem isI_bool_int {i : Int} : isI "bool" (.int i) = false := by show isIN "bool" "int" = false; decide +kernel
theorem isI_bool_bool {b : Bool} : isI "bool" (.bool b) = true := by show isIN "bool" "bool" = true; decide +kernel
theorem isI_int_none : isI "int" .none = false := by decide +kernel
theorem isI_int_str {x : Str} : isI "int" (.str x) = false := by show isIN "int" "str" = false; decide +kernel
theorem isI_int_list {x : List PyData} : isI "int" (.list x) = false := by show isIN "int" "list" = false; decide +kernel
theorem isI_int_tuple {x : List PyData} : isI "int" (.tuple x) = false := by show isIN "int" "tuple" = false; decide +kernel
theorem isI_int_dict {x : List (PyData × PyData)} : isI "int" (.dict x) = false := by show isIN "int" "dict" = false; decide +kernel
theorem isI_list_list {x : List PyData} : isI "list" (.list x) = true := by show isIN "list" "list" = true; decide +kernel
theorem isI_list_none : isI "list" .none = false := by decide +kernel
theorem isI_list_bool {b : Bool} : isI "list" (.bool b) = false := by show isIN "list" "bool" = false; decide +kernel
theorem isI_list_int {i : Int} : isI "list" (.int i) = false := by show isIN "list" "int" = false; decide +kernel
theorem isI_list_str {x : Str} : isI "list" (.str x) = false := by show isIN "list" "str" = false; decide +kernel
theorem isI_list_tuple {x : List PyData} : isI "list" (.tuple x) = false := by show isIN "list" "tuple" = false; decide +kernel
theorem isI_list_dict {x : List (PyData × PyData)} : isI "list" (.dict x) = false := by show isIN "list" "dict" = false; decide +kernel
theorem isI_tuple_tuple {x : List PyData} : isI "tuple" (.tuple x) = true := by show isIN "tuple" "tuple" = true; decide +kernel
theorem isI_tuple_none : isI "tuple" .none = false := by decide +kernel
theorem isI_tuple_bool {b : Bool} : isI "tuple" (.bool b) = false := by show isIN "tuple" "bool" = false; decide +kernel
theorem isI_tuple_int {i : Int} : isI "tuple" (.int i) = false := by show isIN "tuple" "int" = false; decide +kernel
theorem isI_tuple_str {x : Str} : isI "tuple" (.str x) = false := by show isIN "tuple" "str" = false; decide +kernel
theorem isI_tuple_list {x : List PyData} : isI "tuple" (.list x) = false := by show isIN "tuple" "list" = false; decide +kernel
theorem isI_tuple_dict {x : List (PyData × PyData)} : isI "tuple" (.dict x) = false := by show isIN "tuple" "dict" = false; decide +kernel
theorem isI_list_inv {d : PyData} (h : isI "list" d = true) : ∃ ds, d = .list ds := by
  cases d with
  | list ds => exact ⟨ds, rfl⟩
  | none => rw [isI_list_none] at h; cases h
  | bool b => rw [isI_list_bool] at h; cases h
  | int i => rw [isI_list_int] at h; cases h
  | str x => rw [isI_list_str] at h; cases h
  | tuple x => rw [isI_list_tuple] at h; cases h
  | dict x => rw [isI_list_dict] at h; cases h
theorem isI_tuple_inv {d : PyData} (h : isI "tuple" d = true) : ∃ ds, d = .tuple ds := by
  cases d with
  | tuple ds => exact ⟨ds, rfl⟩
  | none => rw [isI_tuple_none] at h; cases h
  | bool b => rw [isI_tuple_bool] at h; cases h
  | int i => rw [isI_tuple_int] at h; cases h
  | str x => rw [isI_tuple_str] at h; cases h
  | list x => rw [isI_tuple_list] at h; cases h
  | dict x => rw [isI_tuple_dict] at h; cases h
theorem isRow_no {d : PyData} {hi : Int} (h : isI "list" d = false) : isRow d hi = false := by
  cases d with
  | list ds => rw [isI_list_list] at h; cases h
  | _ => rfl
theorem isCloth_no {d : PyData} (h : isI "list" d = false) : isCloth d = false := by
  cases d with
  | list ds => rw [isI_list_list] at h; cases h
  | _ => rfl
theorem isCloth_rows {ds : List PyData} (h : isCloth (.list ds) = true) : (1 ≤ ds.length ∧ ds.length ≤ 60) ∧ (∀ x ∈ ds, isRow x 1 = true) ∧ ∀ x ∈ ds, lenD x = lenD (ds.headD .none) := by
  unfold isCloth at h
  simp only [Bool.and_eq_true, List.all_eq_true, decide_eq_true_eq] at h
  exact h
theorem isRow_list {d : PyData} {hi : Int} (h : isRow d hi = true) : ∃ ds, d = .list ds ∧ (1 ≤ ds.length ∧ ds.length ≤ 60) := by
  cases d with
  | list ds =>
    unfold isRow at h
    simp only [Bool.and_eq_true, decide_eq_true_eq] at h
    exact ⟨ds, rfl, h.1⟩
  | _ => simp [isRow] at h
end DF
namespace DF
open Enc (enc)
abbrev Cl := List (List Int)
def warpOf (c : Cl) (k : Nat) : List Int := c.map fun row => row.getD k default
def quarter (c : Cl) : Cl := (List.range (c.getD 0 default).length).map fun k => (warpOf c k).map fun one => 1 - one
def over (c : Cl) : Cl := c.map fun row => row.reverse.map fun one => 1 - one
/-- a cloth -/
structure Good (c : Cl) : Prop where
  len : 1 ≤ c.length ∧ c.length ≤ 60
  rows : ∀ row ∈ c, row.length = (c.getD 0 default).length
  wide : 1 ≤ (c.getD 0 default).length ∧ (c.getD 0 default).length ≤ 60
  bits : ∀ row ∈ c, ∀ x ∈ row, x = 0 ∨ x = 1
end DF
namespace DF
open Enc (enc)
open PySem
theorem isRow_eq {ds : List PyData} {hi : Int} : isRow (.list ds) hi = (decide (1 ≤ ds.length ∧ ds.length ≤ 60) && ds.all fun x => isNum x 0 hi) := rfl
theorem isCloth_eq {ds : List PyData} : isCloth (.list ds) = (decide (1 ≤ ds.length ∧ ds.length ≤ 60) && (ds.all (fun x => isRow x 1) && ds.all fun x => decide (lenD x = lenD (ds.headD .none)))) := rfl
end DF
namespace DF
open Enc (enc)
open PySem PySem.Spec PyProof.Rows L2 Evl RT
/-! the rules that name the written part, with it said (within a comprehension's block it is the same) -/
section
variable {X : Cx} (K : PySem.W.Frag)
theorem ix_seqK (h : X.K = K := by rfl) : IxR X (rIx K) := by subst h; exact ix_seq
theorem call_lenK (h : X.K = K := by rfl) : CallR X (.builtin "len") (rLen K) := by subst h; exact call_len
theorem cr_allK (hc : X.calm = true) (h : X.K = K := by rfl) : CallR X (.builtin "all") (rAll K) := by subst h; exact cr_all hc
theorem cr_anyK (hc : X.calm = true) (h : X.K = K := by rfl) : CallR X (.builtin "any") (rAny K) := by subst h; exact cr_any hc
theorem call_isiK' (h : X.K = K := by rfl) : CallR X (.builtin "isinstance") (rIsi K) := by subst h; exact call_isi
theorem call_listK (h : X.K = K := by rfl) : CallR X (.type "list") (rListOf K) := by subst h; exact call_list_of
theorem op_eqDK (hu : X.A.units + 64 < cLine) (h : X.K = K := by rfl) : OpR X (compareOp .Eq) (rEqD K) := by subst h; exact op_eqD hu
theorem op_neDK (hu : X.A.units + 64 < cLine) (h : X.K = K := by rfl) : OpR X (compareOp .NotEq) (rNeD K) := by subst h; exact op_neD hu
theorem op_inDK (hu : X.A.units + 65 < cLine) (h : X.K = K := by rfl) : OpR X (compareOp .In) (rInD K) := by subst h; exact op_inD hu
theorem op_niDK (hu : X.A.units + 65 < cLine) (h : X.K = K := by rfl) : OpR X (compareOp .NotIn) (rNotInD K) := by subst h; exact op_notInD hu
theorem op_inSK (h : X.K = K := by rfl) : OpR X (compareOp .In) (rIn K false) := by subst h; exact op_in_seq
theorem sl_listK (h : X.K = K := by rfl) : SlR X (rSlL K) := by subst h; exact sl_list
theorem mt_indexDK (hu : X.A.units + 65 < cLine) (h : X.K = K := by rfl) : MtR X "list.index" (rIndexD K) := by subst h; exact mt_indexD hu
theorem pi_listK {tg l : Expr} {tl : TE} (hl : PE X l tl) (h : X.K = K := by rfl) : PI X tg l (iList K tl) := by subst h; exact pi_list hl
theorem pi_tupK {tg l : Expr} {tl : TE} (hl : PE X l tl) (h : X.K = K := by rfl) : PI X tg l (iTup K tl) := by subst h; exact pi_tup hl
theorem pi_revK {tg e : Expr} {te : TE} {p pos : Pos} (hg : Gl X "reversed") (hm : X.mg "reversed" = none) (he : PE X e te) (h : X.K = K := by rfl) (hs : starEach [e] X.env = (false, eval e X.env) :: starEach [] X.env := by rfl) : PI X tg (.Call (.Name "reversed" p) [e] [] pos) (iRevA K te) := by
  subst h; exact pi_revA hg hm he hs
theorem pe_bm0K {o : Expr} {to : TE} {name : Str} {apos cpos : Pos} {T id : String} {r : V → List V → Hp → VK → Prop} (pa : PlainAttrs T) (slot : Slot T name id) (hty : typeOf (.builtin id) = pure (.type "method_descriptor")) (hm : MtR X id r) (ho : PE X o to) (h : X.K = K := by rfl)
    (hbase : attributeBase o name X.env (eval o X.env) = eval o X.env := by rfl) (hline : (apos.endLine == cpos.line) = true := by rfl) : PE X (.Call (.Attribute o name apos) [] [] cpos) (tBM0 K T r to) := by
  subst h; exact pe_bm0 pa slot hty hm ho hbase hline
theorem pe_bmK {o e : Expr} {es : List Expr} {to : TE} {t : TA} {name : Str} {apos cpos : Pos} {T id : String} {r : V → List V → Hp → VK → Prop} (pa : PlainAttrs T) (slot : Slot T name id) (hty : typeOf (.builtin id) = pure (.type "method_descriptor")) (hm : MtR X id r) (ho : PE X o to) (ha : PA X (e :: es) t) (h : X.K = K := by rfl)
    (hbase : attributeBase o name X.env (eval o X.env) = eval o X.env := by rfl)
    (hfew : ((backTo cpos (starEach (e :: es) X.env)).all (fun x => !x.1) && (backToKw cpos (keywordEach [] X.env)).all (fun x => x.1.isSome)
      && decide ((e :: es).length + ([] : List Keyword).length + (if ([] : List Keyword).isEmpty then 0 else 1) < 30)) = true := by rfl)
    (hline : (apos.endLine == cpos.line) = true := by rfl) (hs : starEach (e :: es) X.env = (false, eval e X.env) :: starEach es X.env := by rfl) (hplain : (backTo cpos (starEach es X.env)).any (·.1) = false := by rfl) :
    PE X (.Call (.Attribute o name apos) (e :: es) [] cpos) (tBM K T r to t) := by
  subst h; exact pe_bm pa slot hty hm ho ha hbase hfew hline hs hplain
theorem pe_calK (P : Program) (w : World) (mg : Str → Option Value) (base : Heap) {k : Nat} {x : Str} {ps : List Str} {sp : Sp} {p pos : Pos} {e : Expr} {es : List Expr} {t : TA} (C : Cal P w K mg base CX0 k x ps sp) (hr : Room k X.A) (hg : Gl X x) (ha : PA X (e :: es) t)
    (h1 : X.prog = P := by rfl) (h2 : X.w = w := by rfl) (h3 : X.K = K := by rfl) (h4 : X.mg = mg := by rfl) (h5 : X.base = base := by rfl)
    (hdb : (x == ("__debug__" : Str)) = false := by decide) (he : starEach (e :: es) X.env = (false, eval e X.env) :: starEach es X.env := by rfl) (hpl : (backTo pos (starEach es X.env)).any (·.1) = false := by rfl) :
    PE X (.Call (.Name x p) (e :: es) [] pos) (tCall sp [] E0 t) := by
  subst h1 h2 h3 h4 h5
  exact pe_cal C hr hg ha hdb he hpl
end
end DF
namespace DF
open Enc (enc)
open PySem PySem.Spec PyProof.Rows L2 Evl RT
section
variable {K : PySem.W.Frag} {ρ : Rho} {te ta tb tl : TE} {i j : Int}
theorem v_eqI (ha : VD K ta ρ (.int i)) (hb : VD K tb ρ (.int j)) : VD K (tOp (rEqD K) ta tb) ρ (.bool (decide (i = j))) := v_eq (α := Int) (x := i) (y := j) ha hb
theorem v_neI (ha : VD K ta ρ (.int i)) (hb : VD K tb ρ (.int j)) : VD K (tOp (rNeD K) ta tb) ρ (.bool (!decide (i = j))) := v_ne (α := Int) (x := i) (y := j) ha hb
end
theorem isNum_bit {x : Int} (h : x = 0 ∨ x = 1) : isNum (enc x) 0 1 = true := by
  show (decide ((0 : Int) ≤ x) && decide (x ≤ 1)) = true
  rw [decide_eq_true (by omega), decide_eq_true (by omega)]; rfl
theorem Good.pos {c : Cl} (g : Good c) : 0 < c.length := by have := g.len; omega
theorem Good.row {c : Cl} (g : Good c) {row : List Int} (h : row ∈ c) : 1 ≤ row.length ∧ row.length ≤ 60 := by rw [g.rows row h]; exact g.wide
theorem Good.is {c : Cl} (g : Good c) : isCloth (enc c) = true := by
  show isCloth (.list (c.map enc)) = true
  rw [isCloth_eq, Bool.and_eq_true, Bool.and_eq_true]
  refine ⟨decide_eq_true (by rw [List.length_map]; exact g.len), ?_, ?_⟩
  · rw [List.all_eq_true]
    intro x hx
    obtain ⟨row, hr, rfl⟩ := List.mem_map.mp hx
    show isRow (.list (row.map enc)) 1 = true
    rw [isRow_eq, Bool.and_eq_true]
    refine ⟨decide_eq_true (by rw [List.length_map]; exact g.row hr), ?_⟩
    rw [List.all_eq_true]
    intro y hy
    obtain ⟨v, hv, rfl⟩ := List.mem_map.mp hy
    exact isNum_bit (g.bits row hr v hv)
  · rw [List.all_eq_true]
    intro x hx
    obtain ⟨row, hr, rfl⟩ := List.mem_map.mp hx
    have h0 : (c.map enc).headD .none = enc (c.getD 0 default) := by
      cases c with
      | nil => cases hr
      | cons a r => rfl
    rw [h0]
    refine decide_eq_true ?_
    show (row.map enc).length = ((c.getD 0 default).map enc).length
    rw [List.length_map, List.length_map]
    exact g.rows row hr
theorem Good.at_ {c : Cl} (g : Good c) {k : Nat} (h : k < c.length) : c.getD k default ∈ c := by
  rw [List.getD_eq_getElem?_getD, List.getElem?_eq_getElem h]
  exact List.getElem_mem h
theorem Good.bit {c : Cl} (g : Good c) {row : List Int} (h : row ∈ c) (j : Nat) : row.getD j default = 0 ∨ row.getD j default = 1 := by
  rw [List.getD_eq_getElem?_getD]
  by_cases hj : j < row.length
  · rw [List.getElem?_eq_getElem hj]
    exact g.bits row h _ (List.getElem_mem hj)
  · rw [List.getElem?_eq_none (by omega)]
    exact .inl rfl
end DF
namespace DF
open Enc (enc)
/-! what a script draws -/
def cellAt (ns : List Int) (k : Nat) : Int := ns.getD k 0
def mixed (c : Int) (k : Nat) : Int := ((((c % 1000000007 + 17) * 48271 % 2147483647 + (k : Int)) * ((k : Int) * (k : Int) + 16807) % 2147483629) * 69621 % 2147483647) / 7
end DF
namespace DF
open Enc (enc)
theorem rev_range (row : List Int) : ((List.range row.length).map fun k => 1 - row.getD (row.length - 1 - k) default) = row.reverse.map fun one => 1 - one := by
  apply List.ext_getElem?
  intro i
  rw [List.getElem?_map, List.getElem?_map]
  by_cases h : i < row.length
  · rw [List.getElem?_range h, List.getElem?_reverse h, List.getElem?_eq_getElem (show row.length - 1 - i < row.length by omega)]
    simp only [Option.map_some]
    rw [List.getD_eq_getElem?_getD, List.getElem?_eq_getElem (show row.length - 1 - i < row.length by omega)]
    rfl
  · rw [List.getElem?_eq_none (by simpa using h), List.getElem?_eq_none (by simpa using h)]
    rfl
end DF

namespace DF
open Enc (enc)
open PySem PySem.Spec PyProof.Rows L2 Evl RT
/-- the same slots but one -/
structure But (j : Nat) (σ σ' : L2.St) : Prop where
  len : σ'.length = σ.length
  at_ : ∀ a : Nat, a ≠ j → σ'[a]? = σ[a]?
theorem But.refl (j : Nat) (σ : L2.St) : But j σ σ := ⟨rfl, fun _ _ => rfl⟩
theorem But.set {j : Nat} {σ σ' : L2.St} (b : But j σ σ') (x : Option V) : But j σ (σ'.set j x) := ⟨by rw [List.length_set, b.len], fun a h => by rw [List.getElem?_set_ne (Ne.symm h)]; exact b.at_ a h⟩
theorem But.env {K : PySem.W.Frag} {H : Hp} {σ σ' : L2.St} {ρ : Rho} {j : Nat} (b : But j σ σ') (n : Env K H σ ρ) : Env K H σ' (ρ.set j none) := ⟨by rw [b.len, n.1, List.length_set], fun a z h => by
  by_cases e : j = a
  · subst e
    by_cases hi : j < ρ.length
    · rw [List.getElem?_set_self hi] at h; cases h
    · rw [List.getElem?_eq_none (by simpa using hi)] at h; cases h
  · rw [List.getElem?_set_ne e] at h
    rw [b.at_ a (Ne.symm e)]
    exact n.2 a z h⟩
section
variable {K : PySem.W.Frag} {ρ : Rho} {te ta tb tl : TE} {tt : TT} {d : PyData} {z : Ent} {b : Bool} {H H0 H' H1 : Hp} {σ : L2.St} {D : Ends} {t u : TS} {p : Addr} {acc : List PyData}
/-- what the slots tell of H0 is known of every heap that holds H0 -/
theorem Env.of {ρ : Rho} (n : Env K H0 σ ρ) (g : Grown H0 H p acc) : Env K H σ ρ := n.mono g.ex
/-- for x in range(m): xs.append(e) -/
theorem s_growR {m : Int} {i j : Nat} (f : Nat → PyData) (hij : i ≠ j) (hl : VD K tl ρ (.int m)) (hm : -100000 ≤ m ∧ m ≤ 10000) (hz : acc.length ≤ 10000) (hi : σ[i]? = some (some (.ref p))) (g : Grown H0 H p acc) (n : Env K H0 σ ρ)
    (he : ∀ k : Nat, (k : Int) < m → VN K te ((ρ.set j none).set j (some (.d (.int (k : Int))))) (f k))
    (done : ∀ σ' H', But j σ σ' → Grown H0 H' p (acc ++ (List.range m.toNat).map f) → D.nx σ' H') : tFor (iRng1 (tCons tl tNil)) (gName j) (tDrop (tBM K "list" rAppend (tVar i) (tCons te tNil))) D σ H :=
  hl σ H (n.of g) _ fun v H1 e1 r1 => by
    cases Tp.int_inv r1
    refine ⟨m, rfl, by omega, by omega, ?_⟩
    refine for_range (lo := 0) (n := m.toNat) (fun k σ' H' => But j σ σ' ∧ Grown H0 H' p (acc ++ ((List.range m.toNat).take k).map f)) ⟨But.refl j σ, by simpa using g.mono e1⟩ (fun k σ' H' hk pv => ?_) (fun σ' H' pv => ?_)
    · obtain ⟨bt, g'⟩ := pv
      have e0 : (0 : Int) + (k : Int) = (k : Int) := Int.zero_add _
      rw [e0]
      have n' := (bt.env n).of g'
      refine s_push (ρ := (ρ.set j none).set j (some (.d (.int (k : Int))))) (d := f k) (by rw [List.getElem?_set_ne (Ne.symm hij), bt.at_ i hij]; exact hi) g' (by rw [List.length_append, List.length_map, List.length_take, List.length_range]; omega) (n'.set j (z := .d (.int (k : Int))) (.int _)) (he k (by omega)) fun H2 _ g2 => ?_
      refine ⟨bt.set _, ?_⟩
      rw [List.append_assoc] at g2
      rw [range_take hk, List.map_append, List.take_range]
      rw [List.take_range] at g2
      exact g2
    · obtain ⟨bt, g'⟩ := pv
      rw [List.take_of_length_le (by simp)] at g'
      exact done σ' H' bt g'
/-- for x in ys: xs.append(e) -/
theorem s_growL {ds : List PyData} {i j : Nat} (f : PyData → PyData) (hij : i ≠ j) (hl : VS K tl ρ (.list ds)) (hz : acc.length + ds.length ≤ 20000) (hi : σ[i]? = some (some (.ref p))) (g : Grown H0 H p acc) (n : Env K H0 σ ρ)
    (he : ∀ x ∈ ds, VN K te ((ρ.set j none).set j (some (.d x))) (f x))
    (done : ∀ σ' H', But j σ σ' → Grown H0 H' p (acc ++ ds.map f) → D.nx σ' H') : tFor (iList K tl) (gName j) (tDrop (tBM K "list" rAppend (tVar i) (tCons te tNil))) D σ H :=
  hl σ H0 H n g.ex _ fun v H1 e1 r1 => by
    obtain ⟨a, xs, rfl, ea, t'⟩ := Tp.lst_inv r1
    have g1 := g.mono e1
    refine ⟨a, rfl, ⟨xs, SqL.of (g1.ex _ _ ea)⟩, ?_⟩
    refine for_list (xs := xs) (fun k σ' H' => But j σ σ' ∧ Grown H0 H' p (acc ++ (ds.take k).map f)) ⟨But.refl j σ, by simpa using g1⟩ (fun k σ' H' _ pv => SqL.of (pv.2.ex _ _ ea)) (fun k x σ' H' hx pv => ?_) (fun σ' H' pv => ?_)
    · obtain ⟨bt, g'⟩ := pv
      obtain ⟨d, hd, td⟩ := t'.getV hx
      have hm : d ∈ ds := List.mem_of_getElem? hd
      have hk : k < ds.length := (List.getElem?_eq_some_iff.mp hd).1
      have n' := (bt.env n).of g'
      refine s_push (ρ := (ρ.set j none).set j (some (.d d))) (d := f d) (by rw [List.getElem?_set_ne (Ne.symm hij), bt.at_ i hij]; exact hi) g' (by rw [List.length_append, List.length_map, List.length_take]; omega) (n'.set j (z := .d d) (td.mono g'.ex)) (he d hm) fun H2 _ g2 => ?_
      refine ⟨bt.set _, ?_⟩
      rw [List.append_assoc] at g2
      rw [List.take_add_one, hd, List.map_append]
      exact g2
    · obtain ⟨bt, g'⟩ := pv
      rw [t'.len, List.take_length] at g'
      exact done σ' H' bt g'
/-- xs = [] -/
theorem s_empty {i : Nat} (k : ∀ p, H p = none → Grown H (upd H p (.lst [])) p [] → D.nx (σ.set i (some (.ref p))) (upd H p (.lst []))) : tAsg (tLst tNil) (gName i) D σ H :=
  ⟨Nat.zero_le _, fun p hp => k p hp (grown_start hp (Ex.new hp) upd_same)⟩
theorem New.put {H0 H1 H : Hp} {v : V} {vs : List V} {d : PyData} {ds : List PyData} {G : List Addr} (h : ∃ F, Own H v d F ∧ (∀ a ∈ F, H0 a = none) ∧ ∀ a ∈ F, a ∉ G) (o : OwnAll H vs ds G) (f : ∀ a ∈ G, H0 a = none) :
    ∃ F, OwnAll H (v :: vs) (d :: ds) F ∧ ∀ a ∈ F, H0 a = none := by
  obtain ⟨F, o1, f1, dj⟩ := h
  exact ⟨F ++ G, .cons o1 o dj, fun a ha => (List.mem_append.mp ha).elim (f1 a) (f a)⟩
/-- three of one's own, made one after another -/
theorem own3 {H0 H1 H2 H3 : Hp} {u v w : V} {a b c : PyData} (e0 : Ex H0 H1) (e1 : Ex H1 H2) (e2 : Ex H2 H3) (h1 : New H0 H1 u a) (h2 : New H1 H2 v b) (h3 : New H2 H3 w c) :
    ∃ F G L, Own H3 u a F ∧ Own H3 v b G ∧ Own H3 w c L ∧ (∀ x ∈ F, H0 x = none) ∧ (∀ x ∈ G, H0 x = none) ∧ (∀ x ∈ L, H0 x = none) ∧ (∀ x ∈ F, x ∉ G) ∧ (∀ x ∈ F, x ∉ L) ∧ (∀ x ∈ G, x ∉ L) := by
  obtain ⟨F, o1, f1⟩ := h1
  obtain ⟨G, o2, f2⟩ := h2
  obtain ⟨L, o3, f3⟩ := h3
  refine ⟨F, G, L, o1.mono (e1.trans e2), o2.mono e2, o3, f1, fun x hx => fresh_back e0 (f2 x hx), fun x hx => fresh_back (e0.trans e1) (f3 x hx), fun x hx hg => ?_, fun x hx hl => ?_, fun x hx hl => ?_⟩
  · obtain ⟨xs, q⟩ := o1.at_ x hx
    rw [f2 x hg] at q; cases q
  · obtain ⟨xs, q⟩ := o1.at_ x hx
    have := f3 x hl
    rw [e1 _ _ q] at this; cases this
  · obtain ⟨xs, q⟩ := o2.at_ x hx
    rw [f3 x hl] at q; cases q
end

/-! ### drafts -/
structure Dr where
  th : List Int
  ti : Cl
  tr : List Int
  deriving DecidableEq
@[reducible] instance : Enc Dr where
  enc := fun d => .tuple [enc d.th, enc d.ti, enc d.tr]
  eqv_enc := fun x y => by
    obtain ⟨a, b, c⟩ := x
    obtain ⟨a', b', c'⟩ := y
    simp only [PyData.eqv, PyData.eqvAll, Bool.and_eq_true, and_true, Dr.mk.injEq]
    exact and_congr (Enc.eqv_enc a a') (and_congr (Enc.eqv_enc b b') (Enc.eqv_enc c c'))
  lay := fun x => by simp only [PyData.canLay0, PyData.canLayAll0, Bool.and_eq_true]; exact ⟨Enc.lay x.th, Enc.lay x.ti, Enc.lay x.tr, trivial⟩
  deep := 4
  depth := fun x => by
    have h1 := Enc.depth x.th
    have h2 := Enc.depth x.ti
    have h3 := Enc.depth x.tr
    have e1 : Enc.deep (List Int) = 2 := rfl
    have e2 : Enc.deep Cl = 3 := rfl
    simp only [PyData.depth, PyData.depthAll] at *
    omega
def shaftsOf (ns : List Int) (k : Nat) : Int := if cellAt ns (k + 4) % 8 = 1 then 1 + cellAt ns k % 60 else 1 + cellAt ns k % 5
def treadlesOf (ns : List Int) (k : Nat) : Int := if cellAt ns (k + 4) % 8 = 2 then 1 + cellAt ns (k + 1) % 60 else 1 + cellAt ns (k + 1) % 5
def warpsOf (ns : List Int) (k : Nat) : Int := if cellAt ns (k + 4) % 8 = 3 then 10 + cellAt ns (k + 2) % 16 else if cellAt ns (k + 4) % 8 = 1 then 60 - cellAt ns (k + 2) % 31 else 1 + cellAt ns (k + 2) % 9
def weftsOf (ns : List Int) (k : Nat) : Int := if cellAt ns (k + 4) % 8 = 3 then 10 + cellAt ns (k + 3) % 16 else if cellAt ns (k + 4) % 8 = 2 then 60 - cellAt ns (k + 3) % 31 else 1 + cellAt ns (k + 3) % 9
theorem shafts_b (ns : List Int) (k : Nat) : 1 ≤ shaftsOf ns k ∧ shaftsOf ns k ≤ 60 := by unfold shaftsOf; split <;> omega
theorem treadles_b (ns : List Int) (k : Nat) : 1 ≤ treadlesOf ns k ∧ treadlesOf ns k ≤ 60 := by unfold treadlesOf; split <;> omega
theorem warps_b (ns : List Int) (k : Nat) : 1 ≤ warpsOf ns k ∧ warpsOf ns k ≤ 60 := by unfold warpsOf; split <;> first | omega | (split <;> omega)
theorem wefts_b (ns : List Int) (k : Nat) : 1 ≤ weftsOf ns k ∧ weftsOf ns k ≤ 60 := by unfold weftsOf; split <;> first | omega | (split <;> omega)
def draftBy (ns : List Int) (k : Nat) : Dr where
  th := (List.range (warpsOf ns k).toNat).map fun i => mixed (cellAt ns (k + 5)) i % shaftsOf ns k
  ti := (List.range (shaftsOf ns k).toNat).map fun s => (List.range (treadlesOf ns k).toNat).map fun i => mixed (cellAt ns (k + 7)) (61 * s + i) % 2
  tr := (List.range (weftsOf ns k).toNat).map fun i => mixed (cellAt ns (k + 6)) i % treadlesOf ns k
/-- a draft -/
structure GoodD (d : Dr) : Prop where
  ti : Good d.ti
  th : 1 ≤ d.th.length ∧ d.th.length ≤ 60
  tr : 1 ≤ d.tr.length ∧ d.tr.length ≤ 60
  sh : ∀ s ∈ d.th, 0 ≤ s ∧ s < d.ti.length
  tl : ∀ t ∈ d.tr, 0 ≤ t ∧ t < (d.ti.getD 0 default).length
def woven (d : Dr) : Cl := d.tr.map fun t => d.th.map fun s => (d.ti.getD s.toNat default).getD t.toNat default
theorem getD_map {α β : Type} [Inhabited β] (f : α → β) (xs : List α) (i : Nat) (h : i < xs.length) : (xs.map f).getD i default = f xs[i] := by
  rw [List.getD_eq_getElem?_getD, List.getElem?_map, List.getElem?_eq_getElem h]
  rfl
theorem draftBy_good (ns : List Int) (k : Nat) : GoodD (draftBy ns k) := by
  have h1 := shafts_b ns k
  have h2 := treadles_b ns k
  have h3 := warps_b ns k
  have h4 := wefts_b ns k
  have w0 : ((draftBy ns k).ti.getD 0 default).length = (treadlesOf ns k).toNat := by
    unfold draftBy
    simp only []
    rw [getD_map _ _ _ (by rw [List.length_range]; omega)]
    simp
  have tl : (draftBy ns k).ti.length = (shaftsOf ns k).toNat := by simp [draftBy]
  refine ⟨⟨?_, ?_, ?_, ?_⟩, ?_, ?_, ?_, ?_⟩
  · rw [tl]; omega
  · intro row hr
    rw [w0]
    obtain ⟨s, _, rfl⟩ := List.mem_map.mp hr
    simp
  · rw [w0]; omega
  · intro row hr x hx
    obtain ⟨s, _, rfl⟩ := List.mem_map.mp hr
    obtain ⟨i, _, rfl⟩ := List.mem_map.mp hx
    omega
  · show 1 ≤ (List.map _ (List.range (warpsOf ns k).toNat)).length ∧ (List.map _ (List.range (warpsOf ns k).toNat)).length ≤ 60
    rw [List.length_map, List.length_range]; omega
  · show 1 ≤ (List.map _ (List.range (weftsOf ns k).toNat)).length ∧ (List.map _ (List.range (weftsOf ns k).toNat)).length ≤ 60
    rw [List.length_map, List.length_range]; omega
  · intro s hs
    rw [tl]
    obtain ⟨i, _, rfl⟩ := List.mem_map.mp hs
    have a := Int.emod_nonneg (mixed (cellAt ns (k + 5)) i) (show shaftsOf ns k ≠ 0 by omega)
    have b := Int.emod_lt_of_pos (mixed (cellAt ns (k + 5)) i) (show 0 < shaftsOf ns k by omega)
    omega
  · intro t ht
    rw [w0]
    obtain ⟨i, _, rfl⟩ := List.mem_map.mp ht
    have a := Int.emod_nonneg (mixed (cellAt ns (k + 6)) i) (show treadlesOf ns k ≠ 0 by omega)
    have b := Int.emod_lt_of_pos (mixed (cellAt ns (k + 6)) i) (show 0 < treadlesOf ns k by omega)
    omega
theorem woven_good {d : Dr} (g : GoodD d) : Good (woven d) := by
  have h0 : ((woven d).getD 0 default).length = d.th.length := by
    unfold woven
    rw [getD_map _ _ _ (by have := g.tr; omega)]
    simp
  refine ⟨by show 1 ≤ (List.map _ d.tr).length ∧ (List.map _ d.tr).length ≤ 60; rw [List.length_map]; exact g.tr, fun row hr => ?_, by rw [h0]; exact g.th, fun row hr x hx => ?_⟩
  · rw [h0]
    obtain ⟨t, _, rfl⟩ := List.mem_map.mp hr
    simp
  · obtain ⟨t, ht, rfl⟩ := List.mem_map.mp hr
    obtain ⟨s, hs, rfl⟩ := List.mem_map.mp hx
    have := g.sh s hs
    exact g.ti.bit (g.ti.at_ (k := s.toNat) (by omega)) t.toNat
end DF
namespace DF
open Enc (enc)
open PySem PySem.Spec PyProof.Rows L2 Evl RT
section
variable {K : PySem.W.Frag} {ρ : Rho} {te ta tb tl : TE} {tt : TT} {d : PyData} {z : Ent} {b : Bool} {H H0 H' H1 : Hp} {σ : L2.St} {D : Ends} {t u : TS} {p : Addr} {acc : List PyData}
theorem q_setN {i : Nat} (h : VN K te ρ d) (n : Env K H σ ρ) (k : ∀ v H', Ex H H' → New H H' v d → Env K H' (σ.set i (some v)) (ρ.set i (some (.d d))) → u D (σ.set i (some v)) H') : tSeq (tAsg te (gName i)) u D σ H :=
  h σ H n _ fun v H' e w => k v H' e w ((n.mono e).set i (z := .d d) w.tp)
theorem q_setV {i : Nat} (h : VE K te ρ z) (n : Env K H σ ρ) (k : ∀ v H', Ex H H' → Rep K H' v z → Env K H' (σ.set i (some v)) (ρ.set i (some z)) → u D (σ.set i (some v)) H') : tSeq (tAsg te (gName i)) u D σ H :=
  h σ H n _ fun v H' e w => k v H' e w ((n.mono e).set i w)
theorem q_empty {i : Nat} (k : ∀ p, H p = none → Grown H (upd H p (.lst [])) p [] → u D (σ.set i (some (.ref p))) (upd H p (.lst []))) : tSeq (tAsg (tLst tNil) (gName i)) u D σ H :=
  s_empty (D := { D with nx := u D }) k
theorem q_growR {m : Int} {i j : Nat} (f : Nat → PyData) (hij : i ≠ j) (hl : VD K tl ρ (.int m)) (hm : -100000 ≤ m ∧ m ≤ 10000) (hz : acc.length ≤ 10000) (hi : σ[i]? = some (some (.ref p))) (g : Grown H0 H p acc) (n : Env K H0 σ ρ)
    (he : ∀ k : Nat, (k : Int) < m → VN K te ((ρ.set j none).set j (some (.d (.int (k : Int))))) (f k))
    (done : ∀ σ' H', But j σ σ' → Grown H0 H' p (acc ++ (List.range m.toNat).map f) → u D σ' H') : tSeq (tFor (iRng1 (tCons tl tNil)) (gName j) (tDrop (tBM K "list" rAppend (tVar i) (tCons te tNil)))) u D σ H :=
  s_growR (D := { D with nx := u D }) f hij hl hm hz hi g n he done
theorem q_growL {ds : List PyData} {i j : Nat} (f : PyData → PyData) (hij : i ≠ j) (hl : VS K tl ρ (.list ds)) (hz : acc.length + ds.length ≤ 20000) (hi : σ[i]? = some (some (.ref p))) (g : Grown H0 H p acc) (n : Env K H0 σ ρ)
    (he : ∀ x ∈ ds, VN K te ((ρ.set j none).set j (some (.d x))) (f x))
    (done : ∀ σ' H', But j σ σ' → Grown H0 H' p (acc ++ ds.map f) → u D σ' H') : tSeq (tFor (iList K tl) (gName j) (tDrop (tBM K "list" rAppend (tVar i) (tCons te tNil)))) u D σ H :=
  s_growL (D := { D with nx := u D }) f hij hl hz hi g n he done
theorem s_retTup3 {i j l : Nat} {x y w : V} {a b c : PyData} (h1 : σ[i]? = some (some x)) (h2 : σ[j]? = some (some y)) (h3 : σ[l]? = some (some w)) (o : ∃ F, OwnAll H [x, y, w] [a, b, c] F ∧ ∀ x ∈ F, H0 x = none)
    (k : ∀ v H', Ex H H' → New H0 H' v (.tuple [a, b, c]) → D.rt v H') : tRet (tTup (tCons (tVar i) (tCons (tVar j) (tCons (tVar l) tNil)))) D σ H := by
  obtain ⟨F, o, f⟩ := o
  exact ⟨x, h1, y, h2, w, h3, (show 3 ≤ sizeLine by decide), fun q hq => k _ _ (Ex.new hq) ⟨F, .tup upd_same (o.mono (Ex.new hq)), f⟩⟩
theorem s_retVar {i : Nat} {x : V} (h1 : σ[i]? = some (some x)) (k : D.rt x H) : tRet (tVar i) D σ H := ⟨x, h1, k⟩
end
end DF
namespace DF
open Enc (enc)
open PySem PySem.Spec PyProof.Rows L2 Evl RT
/-- the same slots but some -/
structure Buts (js : List Nat) (σ σ' : L2.St) : Prop where
  len : σ'.length = σ.length
  at_ : ∀ a : Nat, a ∉ js → σ'[a]? = σ[a]?
theorem Buts.refl (js : List Nat) (σ : L2.St) : Buts js σ σ := ⟨rfl, fun _ _ => rfl⟩
theorem Buts.set {js : List Nat} {j : Nat} {σ σ' : L2.St} (b : Buts js σ σ') (x : Option V) (h : j ∈ js) : Buts js σ (σ'.set j x) := ⟨by rw [List.length_set, b.len], fun a ha => by rw [List.getElem?_set_ne (fun e : j = a => ha (by rw [← e]; exact h))]; exact b.at_ a ha⟩
theorem Buts.but {js : List Nat} {j : Nat} {σ σ' σ2 : L2.St} (b : Buts js σ σ') (c : But j σ' σ2) (h : j ∈ js) : Buts js σ σ2 := ⟨by rw [c.len, b.len], fun a ha => by rw [c.at_ a (fun e : a = j => ha (by rw [e]; exact h))]; exact b.at_ a ha⟩
theorem Buts.trans {js : List Nat} {σ σ' σ2 : L2.St} (b : Buts js σ σ') (c : Buts js σ' σ2) : Buts js σ σ2 := ⟨by rw [c.len, b.len], fun a ha => by rw [c.at_ a ha]; exact b.at_ a ha⟩
theorem wipeR_len (ρ : Rho) : ∀ js : List Nat, (wipeR ρ js).length = ρ.length
  | [] => rfl
  | j :: js => by show ((wipeR ρ js).set j none).length = _; rw [List.length_set, wipeR_len ρ js]
theorem wipeR_some {ρ : Rho} {a : Nat} {z : Ent} : ∀ {js : List Nat}, (wipeR ρ js)[a]? = some (some z) → ρ[a]? = some (some z) ∧ a ∉ js
  | [], h => ⟨h, fun z => nomatch z⟩
  | j :: js, h => by
    have h : ((wipeR ρ js).set j none)[a]? = some (some z) := h
    by_cases e : j = a
    · subst e
      by_cases hi : j < (wipeR ρ js).length
      · rw [List.getElem?_set_self hi] at h; cases h
      · rw [List.getElem?_eq_none (by simpa using hi)] at h; cases h
    · rw [List.getElem?_set_ne e] at h
      obtain ⟨h1, h2⟩ := wipeR_some h
      exact ⟨h1, fun m => (List.mem_cons.mp m).elim (fun q => e q.symm) h2⟩
theorem Buts.env {K : PySem.W.Frag} {H : Hp} {σ σ' : L2.St} {ρ : Rho} {js : List Nat} (b : Buts js σ σ') (n : Env K H σ ρ) : Env K H σ' (wipeR ρ js) := ⟨by rw [b.len, n.1, wipeR_len], fun a z h => by
  obtain ⟨h1, h2⟩ := wipeR_some h
  rw [b.at_ a h2]
  exact n.2 a z h1⟩
section
variable {K : PySem.W.Frag} {ρ : Rho} {te ta tb tl : TE} {tt : TT} {d : PyData} {z : Ent} {b : Bool} {H H0 H' H1 : Hp} {σ : L2.St} {D : Ends} {t u : TS} {p : Addr} {acc : List PyData}
/-- a loop over a list whose turns each put one behind the list at p -/
theorem s_loopL {ds : List PyData} {j : Nat} {js : List Nat} (f : PyData → PyData) (hj : j ∈ js) (hl : VS K tl ρ (.list ds)) (g : Grown H0 H p acc) (n : Env K H0 σ ρ)
    (body : ∀ x ∈ ds, ∀ (v : V) (pre : List PyData) (σ' : L2.St) (H' : Hp) (D' : Ends), pre.length ≤ acc.length + ds.length → Buts js σ σ' → Grown H0 H' p pre → Tp H0 v x → Env K H0 (σ'.set j (some v)) ((wipeR ρ js).set j (some (.d x))) → D'.rt = D.rt →
      (∀ σ2 H2, Buts js σ σ2 → Grown H0 H2 p (pre ++ [f x]) → D'.nx σ2 H2) → t D' (σ'.set j (some v)) H')
    (done : ∀ σ' H', Buts js σ σ' → Grown H0 H' p (acc ++ ds.map f) → D.nx σ' H') : tFor (iList K tl) (gName j) t D σ H :=
  hl σ H0 H n g.ex _ fun v H1 e1 r1 => by
    obtain ⟨a, xs, rfl, ea, t'⟩ := Tp.lst_inv r1
    have g1 := g.mono e1
    refine ⟨a, rfl, ⟨xs, SqL.of (g1.ex _ _ ea)⟩, ?_⟩
    refine for_list (xs := xs) (fun k σ' H' => Buts js σ σ' ∧ Grown H0 H' p (acc ++ (ds.take k).map f)) ⟨Buts.refl js σ, by simpa using g1⟩ (fun k σ' H' _ pv => SqL.of (pv.2.ex _ _ ea)) (fun k x σ' H' hx pv => ?_) (fun σ' H' pv => ?_)
    · obtain ⟨bt, g'⟩ := pv
      obtain ⟨d, hd, td⟩ := t'.getV hx
      have hm : d ∈ ds := List.mem_of_getElem? hd
      have hk : k < ds.length := (List.getElem?_eq_some_iff.mp hd).1
      refine body d hm x (acc ++ (ds.take k).map f) σ' H' _ (by rw [List.length_append, List.length_map, List.length_take]; omega) bt g' td ((bt.env n).set j (z := .d d) td) rfl fun σ2 H2 b2 g2 => ?_
      refine ⟨b2, ?_⟩
      rw [List.append_assoc] at g2
      rw [List.take_add_one, hd, List.map_append]
      exact g2
    · obtain ⟨bt, g'⟩ := pv
      rw [t'.len, List.take_length] at g'
      exact done σ' H' bt g'
theorem q_loopL {ds : List PyData} {j : Nat} {js : List Nat} (f : PyData → PyData) (hj : j ∈ js) (hl : VS K tl ρ (.list ds)) (g : Grown H0 H p acc) (n : Env K H0 σ ρ)
    (body : ∀ x ∈ ds, ∀ (v : V) (pre : List PyData) (σ' : L2.St) (H' : Hp) (D' : Ends), pre.length ≤ acc.length + ds.length → Buts js σ σ' → Grown H0 H' p pre → Tp H0 v x → Env K H0 (σ'.set j (some v)) ((wipeR ρ js).set j (some (.d x))) → D'.rt = D.rt →
      (∀ σ2 H2, Buts js σ σ2 → Grown H0 H2 p (pre ++ [f x]) → D'.nx σ2 H2) → t D' (σ'.set j (some v)) H')
    (done : ∀ σ' H', Buts js σ σ' → Grown H0 H' p (acc ++ ds.map f) → u D σ' H') : tSeq (tFor (iList K tl) (gName j) t) u D σ H :=
  s_loopL (D := { D with nx := u D }) f hj hl g n body done
/-- xs.append(v), v a value of one's own in a slot -/
theorem s_pushV {i l : Nat} {v : V} (hi : σ[i]? = some (some (.ref p))) (hl : σ[l]? = some (some v)) (g : Grown H0 H1 p acc) (e : Ex H1 H) (w : New H1 H v d) (hz : acc.length < 100000)
    (k : ∀ H', Grown H0 H' p (acc ++ [d]) → D.nx σ H') : tDrop (tBM K "list" rAppend (tVar i) (tCons (tVar l) tNil)) D σ H := by
  obtain ⟨vs, hv, hl', g'⟩ := g.push e w
  exact ⟨.ref p, hi, .inl ⟨rfl, vs, SqL.of hv⟩, v, hl, p, vs, v, rfl, rfl, hv, sz_lt (by rw [hl']; exact hz), k _ g'⟩
end
end DF
namespace DF
open Enc (enc)
open PySem PySem.Spec PyProof.Rows L2 Evl RT
theorem findR_none {f : Nat → Option PyData} {ρ : Rho} : ∀ {l : List Nat}, (∀ i ∈ l, f i = none) → findR f ρ l = .nx ρ
  | [], _ => rfl
  | i :: r, h => by
    unfold findR
    rw [h i List.mem_cons_self]
    exact findR_none fun j hj => h j (List.mem_cons_of_mem _ hj)
theorem findR_some {f : Nat → Option PyData} {ρ : Rho} {d : PyData} : ∀ {l : List Nat}, (∀ i ∈ l, f i = none ∨ f i = some d) → (∃ i ∈ l, f i = some d) → findR f ρ l = .ret d
  | [], _, h => by obtain ⟨i, hi, _⟩ := h; cases hi
  | i :: r, h, hs => by
    unfold findR
    rcases h i List.mem_cons_self with q | q
    · rw [q]
      obtain ⟨j, hj, hf⟩ := hs
      rcases List.mem_cons.mp hj with rfl | hj
      · rw [q] at hf; cases hf
      · exact findR_some (fun k hk => h k (List.mem_cons_of_mem _ hk)) ⟨j, hj, hf⟩
    · rw [q]
theorem getD_ext {α : Type} [Inhabited α] {xs ys : List α} (hl : xs.length = ys.length) (h : ∀ i : Nat, i < ys.length → xs.getD i default = ys.getD i default) : xs = ys := by
  apply List.ext_getElem hl
  intro i h1 h2
  have := h i h2
  rw [List.getD_eq_getElem?_getD, List.getD_eq_getElem?_getD, List.getElem?_eq_getElem h1, List.getElem?_eq_getElem h2] at this
  exact this
theorem isI_list_enc {α : Type} [Enc α] (xs : List α) : isI "list" (enc xs) = true := isI_list_list
section
variable {K : PySem.W.Frag} {ρ : Rho} {te ta tb tl : TE} {tt : TT}
/-- all([isinstance(one, int) and not isinstance(one, bool) for one in xs]) -/
theorem v_allInts {xs : List Int} {j : Nat} {vs : List Nat} (hl : VD K tl ρ (enc xs)) (hz : xs.length ≤ 10000) (hj : j ∈ vs) (hv : ∀ z : Ent, ((wipeR ρ vs).set j (some z))[j]? = some (some z)) :
    VD K (tCB (rAll K) (tCons (tLc (iList K tl) (gName j) tYes (tAndV (tCB (rIsi K) (tCons (tVar j) (tCons (tC (.ty "int")) tNil))) (tNotV (tCB (rIsi K) (tCons (tVar j) (tCons (tC (.ty "bool")) tNil))))) vs) tNil)) ρ (.bool true) := by
  refine VE.eq (v_all (bs := xs.map fun _ => true) (VN.toD (n_lc (fun _ : Int => true) hl hz hj fun x _ => VD.toN (VE.eq (v_and (v_isi (v_var (hv _)) kit_int) fun _ => v_not (v_isi (v_var (hv _)) kit_bool)) ?_) rfl))) ?_
  · show Ent.d (.bool (isI "int" (.int x) && !isI "bool" (.int x))) = _
    rw [isI_int_int, isI_bool_int]; rfl
  · congr 2
    simp
end
end DF
namespace DF
open Enc (enc)
open PySem PySem.Spec PyProof.Rows L2 Evl RT
section
variable {K : PySem.W.Frag} {ρ ρ' : Rho} {t u : TS} {o : Out}
theorem findR_or (f : Nat → Option PyData) (ρ : Rho) : ∀ l : List Nat, ((∀ i ∈ l, f i = none) ∧ findR f ρ l = .nx ρ) ∨ ∃ i ∈ l, ∃ d, f i = some d ∧ findR f ρ l = .ret d
  | [] => .inl ⟨fun _ h => (by cases h), rfl⟩
  | i :: r => by
    cases h : f i with
    | some d => exact .inr ⟨i, List.mem_cons_self, d, h, by unfold findR; rw [h]⟩
    | none =>
      rcases findR_or f ρ r with ⟨h1, h2⟩ | ⟨j, hj, d, h1, h2⟩
      · exact .inl ⟨fun k hk => (List.mem_cons.mp hk).elim (fun e => e ▸ h) (h1 k), by unfold findR; rw [h]; exact h2⟩
      · exact .inr ⟨j, List.mem_cons_of_mem _ hj, d, h1, by unfold findR; rw [h]; exact h2⟩
theorem r_seqFind {f : Nat → Option PyData} {l : List Nat} (h1 : RD K t ρ (findR f ρ' l)) (h2 : (∀ i ∈ l, f i = none) → RD K u ρ' o) (h3 : ∀ i ∈ l, ∀ d, f i = some d → o = .ret d) : RD K (tSeq t u) ρ o := by
  rcases findR_or f ρ' l with ⟨a, b⟩ | ⟨i, hi, d, a, b⟩
  · rw [b] at h1
    exact r_seq h1 (h2 a)
  · rw [b] at h1
    rw [h3 i hi d a]
    exact r_seqR h1
theorem findD_or {α : Type} (f : α → Option PyData) (ρ : Rho) : ∀ l : List α, ((∀ i ∈ l, f i = none) ∧ findD f ρ l = .nx ρ) ∨ ∃ i ∈ l, ∃ d, f i = some d ∧ findD f ρ l = .ret d
  | [] => .inl ⟨fun _ h => (by cases h), rfl⟩
  | i :: r => by
    cases h : f i with
    | some d => exact .inr ⟨i, List.mem_cons_self, d, h, by unfold findD; rw [h]⟩
    | none =>
      rcases findD_or f ρ r with ⟨h1, h2⟩ | ⟨j, hj, d, h1, h2⟩
      · exact .inl ⟨fun k hk => (List.mem_cons.mp hk).elim (fun e => e ▸ h) (h1 k), by unfold findD; rw [h]; exact h2⟩
      · exact .inr ⟨j, List.mem_cons_of_mem _ hj, d, h1, by unfold findD; rw [h]; exact h2⟩
theorem r_seqFindD {f : PyData → Option PyData} {l : List PyData} (h1 : RD K t ρ (findD f ρ' l)) (h2 : (∀ i ∈ l, f i = none) → RD K u ρ' o) (h3 : ∀ i ∈ l, ∀ d, f i = some d → o = .ret d) : RD K (tSeq t u) ρ o := by
  rcases findD_or f ρ' l with ⟨a, b⟩ | ⟨i, hi, d, a, b⟩
  · rw [b] at h1
    exact r_seq h1 (h2 a)
  · rw [b] at h1
    rw [h3 i hi d a]
    exact r_seqR h1
end
end DF

namespace DF
open Enc (enc)
open PySem PySem.Spec PyProof.Rows L2 Evl RT

/-! ### rows of ints, each at its place -/
structure RowsAt (H : Hp) (F : List Addr) (c : Cl) : Prop where
  nd : F.Nodup
  len : F.length = c.length
  at_ : ∀ (i : Nat) (a : Addr) (row : List Int), F[i]? = some a → c[i]? = some row → H a = some (.lst (row.map V.int))
/-- a cloth's list at a, its rows at F -/
structure CAt (H : Hp) (a : Addr) (F : List Addr) (c : Cl) : Prop where
  lst : H a = some (.lst (F.map V.ref))
  rows : RowsAt H F c
  out : a ∉ F
theorem RowsAt.mono {H H' : Hp} {F : List Addr} {c : Cl} (e : Ex H H') (r : RowsAt H F c) : RowsAt H' F c := ⟨r.nd, r.len, fun i a row h1 h2 => e _ _ (r.at_ i a row h1 h2)⟩
theorem CAt.mono {H H' : Hp} {a : Addr} {F : List Addr} {c : Cl} (e : Ex H H') (r : CAt H a F c) : CAt H' a F c := ⟨e _ _ r.lst, r.rows.mono e, r.out⟩
theorem tp_ints {H : Hp} : ∀ ns : List Int, TpAll H (ns.map V.int) (ns.map enc)
  | [] => .nil
  | n :: ns => .cons (.int n) (tp_ints ns)
theorem Tp.ints {H : Hp} {a : Addr} {row : List Int} (h : H a = some (.lst (row.map V.int))) : Tp H (.ref a) (enc row) := .lst h (tp_ints row)
theorem RowsAt.tp {H : Hp} : ∀ {F : List Addr} {c : Cl}, RowsAt H F c → TpAll H (F.map V.ref) (c.map enc)
  | [], [], _ => .nil
  | [], _ :: _, r => by have := r.len; cases this
  | _ :: _, [], r => by have := r.len; cases this
  | a :: F, row :: c, r => .cons (Tp.ints (r.at_ 0 a row rfl rfl)) (RowsAt.tp (F := F) (c := c) ⟨(List.nodup_cons.mp r.nd).2, by have := r.len; simpa using this, fun i b z h1 h2 => r.at_ (i + 1) b z h1 h2⟩)
theorem CAt.tp {H : Hp} {a : Addr} {F : List Addr} {c : Cl} (h : CAt H a F c) : Tp H (.ref a) (enc c) := .lst h.lst h.rows.tp
theorem own_int {H : Hp} {v : V} {n : Int} {F : List Addr} (h : Own H v (.int n) F) : v = .int n ∧ F = [] := by
  cases h
  exact ⟨rfl, rfl⟩
theorem own_ints {H : Hp} : ∀ {ns : List Int} {vs : List V} {F : List Addr}, OwnAll H vs (ns.map enc) F → vs = ns.map V.int ∧ F = []
  | [], _, _, h => by
    cases h
    exact ⟨rfl, rfl⟩
  | n :: ns, _, _, h => by
    cases h with
    | cons h t _ =>
      obtain ⟨rfl, rfl⟩ := own_int h
      obtain ⟨rfl, rfl⟩ := own_ints t
      exact ⟨rfl, rfl⟩
theorem own_rows {H : Hp} : ∀ {c : Cl} {vs : List V} {F : List Addr}, OwnAll H vs (c.map enc) F → vs = F.map V.ref ∧ RowsAt H F c
  | [], _, _, .nil => ⟨rfl, List.nodup_nil, rfl, fun i a row h => by simp at h⟩
  | row :: c, _, _, .cons (F := A) (G := B) h t dj => by
    obtain ⟨a, xs, G, e1, e2, ha, t', na⟩ := h.lst_inv
    obtain ⟨e3, e4⟩ := own_ints t'
    subst e1 e2 e3 e4
    obtain ⟨e5, r⟩ := own_rows t
    subst e5
    refine ⟨rfl, ?_, ?_, fun i b z h1 h2 => ?_⟩
    · exact List.nodup_cons.mpr ⟨dj a List.mem_cons_self, r.nd⟩
    · show B.length + 1 = c.length + 1
      rw [r.len]
    · cases i with
      | zero => cases h1; cases h2; exact ha
      | succ i => exact r.at_ i b z h1 h2
theorem New.cat {H0 H : Hp} {v : V} {c : Cl} (h : New H0 H v (enc c)) : ∃ a F, v = .ref a ∧ CAt H a F c ∧ H0 a = none ∧ ∀ x ∈ F, H0 x = none := by
  obtain ⟨G, o, f⟩ := h
  obtain ⟨a, xs, F, rfl, rfl, ha, t, na⟩ := o.lst_inv
  obtain ⟨e, r⟩ := own_rows t
  subst e
  exact ⟨a, F, rfl, ⟨ha, r, na⟩, f a List.mem_cons_self, fun x hx => f x (List.mem_cons_of_mem _ hx)⟩
/-- all but what stands at F is as it was -/
def Off (F : List Addr) (H H' : Hp) : Prop := ∀ a, a ∉ F → H' a = H a
theorem Off.refl (F : List Addr) (H : Hp) : Off F H H := fun _ _ => rfl
theorem Off.upd {F : List Addr} {H H' : Hp} {a : Addr} {o : HO} (h : Off F H H') (m : a ∈ F) : Off F H (upd H' a o) := fun b hb => by rw [upd_ne (fun e : b = a => hb (e ▸ m))]; exact h b hb
theorem Off.ex {F : List Addr} {H0 H H' : Hp} (h : Off F H H') (e : Ex H0 H) (f : ∀ a ∈ F, H0 a = none) : Ex H0 H' := fun a o q => by
  rw [h a (fun m => by rw [f a m] at q; cases q)]
  exact e a o q
theorem Off.mono {F G : List Addr} {H H' : Hp} (h : Off F H H') (s : ∀ a ∈ F, a ∈ G) : Off G H H' := fun a n => h a fun m => n (s a m)
theorem Off.trans {F : List Addr} {H H1 H2 : Hp} (a : Off F H H1) (b : Off F H1 H2) : Off F H H2 := fun x n => (b x n).trans (a x n)
theorem RowsAt.off {F G : List Addr} {H H' : Hp} {c : Cl} (r : RowsAt H G c) (h : Off F H H') (dj : ∀ a ∈ G, a ∉ F) : RowsAt H' G c := ⟨r.nd, r.len, fun i a row h1 h2 => by rw [h a (dj a (List.mem_of_getElem? h1))]; exact r.at_ i a row h1 h2⟩
theorem CAt.off {F G : List Addr} {H H' : Hp} {c : Cl} {a : Addr} (r : CAt H a G c) (h : Off F H H') (na : a ∉ F) (dj : ∀ x ∈ G, x ∉ F) : CAt H' a G c := ⟨by rw [h a na]; exact r.lst, r.rows.off h dj, r.out⟩
/-- one row is changed -/
theorem RowsAt.set {F : List Addr} {H : Hp} {c : Cl} (r : RowsAt H F c) {i : Nat} {a : Addr} (ha : F[i]? = some a) (row : List Int) : RowsAt (upd H a (.lst (row.map V.int))) F (c.set i row) := by
  refine ⟨r.nd, by rw [List.length_set]; exact r.len, fun j b z h1 h2 => ?_⟩
  by_cases e : i = j
  · subst e
    rw [ha] at h1; cases h1
    have hi : i < c.length := by
      have := (List.getElem?_eq_some_iff.mp ha).1
      rw [r.len] at this; exact this
    rw [List.getElem?_set_self hi] at h2; cases h2
    exact upd_same
  · rw [List.getElem?_set_ne e] at h2
    have : b ≠ a := fun q => e (nd_ix r.nd ha (by rw [← q]; exact h1))
    rw [upd_ne this]
    exact r.at_ j b z h1 h2
theorem RowsAt.append {F G : List Addr} {H : Hp} {c e : Cl} (r : RowsAt H F c) (s : RowsAt H G e) (dj : ∀ a ∈ F, a ∉ G) : RowsAt H (F ++ G) (c ++ e) := by
  refine ⟨List.nodup_append.mpr ⟨r.nd, s.nd, fun a ha b hb q => dj a ha (q ▸ hb)⟩, by rw [List.length_append, List.length_append, r.len, s.len], fun i a row h1 h2 => ?_⟩
  by_cases h : i < F.length
  · rw [List.getElem?_append_left h] at h1
    rw [List.getElem?_append_left (by rw [← r.len]; exact h)] at h2
    exact r.at_ i a row h1 h2
  · rw [List.getElem?_append_right (by omega)] at h1
    rw [List.getElem?_append_right (by rw [← r.len]; omega)] at h2
    rw [r.len] at h1
    exact s.at_ _ a row h1 h2
theorem RowsAt.left {F G : List Addr} {H : Hp} {c e : Cl} (r : RowsAt H (F ++ G) (c ++ e)) (hl : F.length = c.length) : RowsAt H F c := by
  refine ⟨(List.nodup_append.mp r.nd).1, hl, fun i a row h1 h2 => r.at_ i a row ?_ ?_⟩
  · rw [List.getElem?_append_left (List.getElem?_eq_some_iff.mp h1).1]; exact h1
  · rw [List.getElem?_append_left (List.getElem?_eq_some_iff.mp h2).1]; exact h2
theorem RowsAt.right {F G : List Addr} {H : Hp} {c e : Cl} (r : RowsAt H (F ++ G) (c ++ e)) (hl : F.length = c.length) : RowsAt H G e := by
  refine ⟨(List.nodup_append.mp r.nd).2.1, by have := r.len; rw [List.length_append, List.length_append] at this; omega, fun i a row h1 h2 => r.at_ (F.length + i) a row ?_ ?_⟩
  · rw [List.getElem?_append_right (by omega)]; simpa using h1
  · rw [List.getElem?_append_right (by omega)]; simpa [hl] using h2
section
variable {K : PySem.W.Frag} {ρ : Rho} {te ta tb tl : TE} {tt : TT} {d : PyData} {z : Ent} {b : Bool} {H H0 H' H1 : Hp} {σ : L2.St} {D : Ends} {t u : TS} {p : Addr}
/-- the turns of a loop over a list of rows, each of which changes its row -/
theorem for_rows {F : List Addr} {c : Cl} {j : Nat} (g : List Int → List Int) (hp : H p = some (.lst (F.map V.ref))) (pF : p ∉ F) (r : RowsAt H F c)
    (turn : ∀ row ∈ c, ∀ (a : Addr) (σ' : L2.St) (H' : Hp) (D' : Ends), a ∈ F → H' a = some (.lst (row.map V.int)) → But j σ σ' → Off F H H' → D'.rt = D.rt →
      (∀ σ2, But j σ σ2 → D'.nx σ2 (upd H' a (.lst ((g row).map V.int)))) → t D' (σ'.set j (some (.ref a))) H')
    (done : ∀ σ' H', But j σ σ' → RowsAt H' F (c.map g) → Off F H H' → D.nx σ' H') :
    ∃ W : Nat → Nat → L2.St → Hp → Prop, (∃ m, W 0 m σ H) ∧ ∀ i m σ H, W i m σ H →
      ((Itl K p).stop i H ∧ D.nx σ H) ∨ ((Itl K p).go i H ∧ ∃ N : L2.St → Hp → Prop, (∀ σ' H', N σ' H' → ∃ m', m' < m ∧ W (i + 1) m' σ' H') ∧ ∀ x H', (Itl K p).yld i H x H' → gName j x σ H' fun σ2 H2 => t { D with nx := N, ct := N, bk := D.nx } σ2 H2) := by
  refine for_list (xs := F.map V.ref) (fun i σ' H' => But j σ σ' ∧ RowsAt H' F ((c.take i).map g ++ c.drop i) ∧ Off F H H') ⟨But.refl j σ, by simpa using r, Off.refl F H⟩ (fun i σ' H' _ pv => SqL.of (by rw [pv.2.2 p pF]; exact hp)) (fun i x σ' H' hx pv => ?_) (fun σ' H' pv => ?_)
  · obtain ⟨bt, r', off⟩ := pv
    rw [List.getElem?_map] at hx
    cases ha : F[i]? with
    | none => rw [ha] at hx; cases hx
    | some a =>
      rw [ha] at hx
      cases hx
      have hi : i < c.length := by
        have := (List.getElem?_eq_some_iff.mp ha).1
        rw [r.len] at this; exact this
      have hc : c[i]? = some c[i] := List.getElem?_eq_getElem hi
      have hm : ((c.take i).map g ++ c.drop i)[i]? = some c[i] := by
        have e1 : ((c.take i).map g).length = i := by rw [List.length_map, List.length_take, Nat.min_eq_left (Nat.le_of_lt hi)]
        rw [List.getElem?_append_right (by rw [e1]; exact Nat.le_refl i), e1, Nat.sub_self, List.getElem?_drop, Nat.add_zero]
        exact hc
      have ha' := r'.at_ i a _ ha hm
      refine turn c[i] (List.getElem_mem hi) a σ' H' _ (List.mem_of_getElem? ha) ha' bt off rfl fun σ2 b2 => ⟨b2, ?_, off.upd (List.mem_of_getElem? ha)⟩
      have := r'.set ha (g c[i])
      have e : ((c.take i).map g ++ c.drop i).set i (g c[i]) = (c.take (i + 1)).map g ++ c.drop (i + 1) := by
        have e1 : ((c.take i).map g).length = i := by rw [List.length_map, List.length_take, Nat.min_eq_left (Nat.le_of_lt hi)]
        rw [List.set_append_right _ _ (by rw [e1]; exact Nat.le_refl i), e1, Nat.sub_self, List.drop_eq_getElem_cons hi, List.take_add_one, hc, List.map_append, List.append_assoc]
        rfl
      rw [e] at this
      exact this
  · obtain ⟨bt, r', off⟩ := pv
    have hl : (F.map V.ref).length = c.length := by rw [List.length_map, r.len]
    rw [hl, List.take_length, List.drop_length, List.append_nil] at r'
    exact done σ' H' bt r' off
/-- row.append(7): one row longer -/
theorem s_app7 {a : Addr} {row : List Int} {k : Int} {i : Nat} (hi : σ[i]? = some (some (.ref a))) (ha : H a = some (.lst (row.map V.int))) (hz : row.length ≤ 10000) (n : D.nx σ (upd H a (.lst ((row ++ [k]).map V.int)))) :
    tDrop (tBM K "list" rAppend (tVar i) (tCons (tC (.int k)) tNil)) D σ H :=
  ⟨.ref a, hi, .inl ⟨rfl, _, SqL.of ha⟩, a, _, .int k, rfl, rfl, ha, sz_lt (by rw [List.length_map]; omega), by rw [List.map_append] at n; exact n⟩
/-- row.pop(): one row shorter -/
theorem s_pop {a : Addr} {row : List Int} {i : Nat} (hi : σ[i]? = some (some (.ref a))) (ha : H a = some (.lst (row.map V.int))) (hz : row ≠ []) (n : D.nx σ (upd H a (.lst (row.dropLast.map V.int)))) :
    tDrop (tBM0 K "list" rPop (tVar i)) D σ H := by
  have hl : 0 < row.length := List.length_pos_iff.mpr hz
  refine ⟨.ref a, hi, .inl ⟨rfl, _, SqL.of ha⟩, a, _, .int (row[row.length - 1]), rfl, rfl, ha, ?_, ?_⟩
  · rw [List.length_map, List.getElem?_map, List.getElem?_eq_getElem (by omega)]
    rfl
  · rw [List.map_dropLast] at n
    exact n
/-- tests whose answer is known -/
theorem q_ifF (hc : VT K tt ρ b) (hb : b = false) (n : Env K H σ ρ) (k : ∀ H', Ex H H' → u D σ H') : tSeq (tIfS tt t tNext) u D σ H := hc σ H n _ fun H' e => by
  subst hb
  exact k H' e
theorem s_ifF (hc : VT K tt ρ b) (hb : b = false) (n : Env K H σ ρ) (k : ∀ H', Ex H H' → D.nx σ H') : tIfS tt t tNext D σ H := hc σ H n _ fun H' e => by
  subst hb
  exact k H' e
theorem q_ifT (hc : VT K tt ρ b) (hb : b = true) (n : Env K H σ ρ) (k : ∀ H', Ex H H' → tSeq t u D σ H') : tSeq (tIfS tt t tNext) u D σ H := hc σ H n _ fun H' e => by
  subst hb
  exact k H' e
theorem s_retV (h : VE K te ρ z) (n : Env K H σ ρ) (k : ∀ v H', Ex H H' → Rep K H' v z → D.rt v H') : tRet te D σ H := h σ H n _ fun v H' e w => k v H' e w
theorem s_loopR1 {m : Int} {j : Nat} {js : List Nat} (hj : j ∈ js) (hl : VD K tl ρ (.int m)) (hm : -100000 ≤ m ∧ m ≤ 1000000) (n : Env K H σ ρ)
    (turn : ∀ k : Nat, (k : Int) < m → ∀ (σ' : L2.St) (H' : Hp) (D' : Ends), Buts js σ σ' → Ex H H' → Env K H' (σ'.set j (some (.int (k : Int)))) ((wipeR ρ js).set j (some (.d (.int (k : Int))))) → D'.rt = D.rt → (∀ σ2 H2, Buts js σ σ2 → Ex H H2 → D'.nx σ2 H2) → t D' (σ'.set j (some (.int (k : Int)))) H')
    (done : ∀ σ' H', Buts js σ σ' → Ex H H' → D.nx σ' H') : tFor (iRng1 (tCons tl tNil)) (gName j) t D σ H :=
  hl σ H n _ fun v H1 e1 r1 => by
    cases Tp.int_inv r1
    refine ⟨m, rfl, by omega, by omega, ?_⟩
    refine for_range (lo := 0) (n := m.toNat) (fun k σ' H' => Buts js σ σ' ∧ Ex H H') ⟨Buts.refl js σ, e1⟩ (fun k σ' H' hk pv => ?_) (fun σ' H' pv => done σ' H' pv.1 pv.2)
    obtain ⟨bt, e⟩ := pv
    have e0 : (0 : Int) + (k : Int) = (k : Int) := Int.zero_add _
    rw [e0]
    exact turn k (by omega) σ' H' _ bt e ((bt.env (n.mono e)).set j (z := .d (.int (k : Int))) (.int _)) rfl fun σ2 H2 b2 e2 => ⟨b2, e2⟩
end
end DF
namespace DF
open Enc (enc)
open PySem PySem.Spec PyProof.Rows L2 Evl RT
theorem Own.cat {H : Hp} {v : V} {c : Cl} {G : List Addr} (o : Own H v (enc c) G) : ∃ a F, v = .ref a ∧ G = a :: F ∧ CAt H a F c := by
  obtain ⟨a, xs, F, rfl, rfl, ha, t, na⟩ := o.lst_inv
  obtain ⟨e, r⟩ := own_rows t
  subst e
  exact ⟨a, F, rfl, rfl, ha, r, na⟩
theorem Env.add {K : PySem.W.Frag} {H : Hp} {σ : L2.St} {ρ : Rho} {v : V} {z : Ent} (i : Nat) (n : Env K H σ ρ) (h : σ[i]? = some (some v)) (r : Rep K H v z) : Env K H σ (ρ.set i (some z)) := by
  have h2 := n.set i r
  have : σ.set i (some v) = σ := by
    apply List.ext_getElem?
    intro j
    by_cases e : i = j
    · subst e
      rw [h]
      exact List.getElem?_set_self (List.getElem?_eq_some_iff.mp h).1
    · rw [List.getElem?_set_ne e]
  rw [this] at h2
  exact h2
section
variable {K : PySem.W.Frag} {ρ : Rho} {te ta tb tl : TE} {H H0 H' H1 : Hp} {σ : L2.St} {D : Ends} {t u : TS}
theorem q_loopR1 {m : Int} {j : Nat} {js : List Nat} (hj : j ∈ js) (hl : VD K tl ρ (.int m)) (hm : -100000 ≤ m ∧ m ≤ 1000000) (n : Env K H σ ρ)
    (turn : ∀ k : Nat, (k : Int) < m → ∀ (σ' : L2.St) (H' : Hp) (D' : Ends), Buts js σ σ' → Ex H H' → Env K H' (σ'.set j (some (.int (k : Int)))) ((wipeR ρ js).set j (some (.d (.int (k : Int))))) → D'.rt = D.rt → (∀ σ2 H2, Buts js σ σ2 → Ex H H2 → D'.nx σ2 H2) → t D' (σ'.set j (some (.int (k : Int)))) H')
    (done : ∀ σ' H', Buts js σ σ' → Ex H H' → u D σ' H') : tSeq (tFor (iRng1 (tCons tl tNil)) (gName j) t) u D σ H := s_loopR1 (D := { D with nx := u D }) hj hl hm n turn done
end
/-- what a law's def promises: it tells True -/
def spLaw (K : PySem.W.Frag) : Sp := fun vs H Q _ => ∃ (a : Addr) (ns : List Int), vs = [.ref a] ∧ SqL K H a (ns.map V.int) ∧ ∀ H', Q (.bl true) H'
end DF

namespace DF
open Enc (enc)
/-! ### cloths turned -/
theorem getD_lt {α : Type} [Inhabited α] {xs : List α} {i : Nat} (h : i < xs.length) : xs.getD i default = xs[i] := by
  rw [List.getD_eq_getElem?_getD, List.getElem?_eq_getElem h]
  rfl
theorem quarter_len (c : Cl) : (quarter c).length = (c.getD 0 default).length := by unfold quarter; simp
theorem quarter_at (c : Cl) {k : Nat} (h : k < (c.getD 0 default).length) : (quarter c).getD k default = c.map fun row => 1 - row.getD k default := by
  unfold quarter
  rw [getD_map _ _ _ (by simpa using h)]
  simp [warpOf]
theorem quarter_good {c : Cl} (g : Good c) : Good (quarter c) := by
  have h0 := quarter_at c (k := 0) (by have := g.wide; omega)
  have e0 : ((quarter c).getD 0 default).length = c.length := by rw [h0]; simp
  refine ⟨by rw [quarter_len]; exact g.wide, fun row hr => ?_, by rw [e0]; exact g.len, fun row hr x hx => ?_⟩
  · rw [e0]
    obtain ⟨k, _, rfl⟩ := List.mem_map.mp hr
    simp [warpOf]
  · obtain ⟨k, _, rfl⟩ := List.mem_map.mp hr
    obtain ⟨y, hy, rfl⟩ := List.mem_map.mp hx
    obtain ⟨r, hr', rfl⟩ := List.mem_map.mp hy
    have := g.bit hr' k
    omega
theorem quarter_quarter {c : Cl} (g : Good c) : quarter (quarter c) = c := by
  have h0 := quarter_at c (k := 0) (by have := g.wide; omega)
  have e0 : ((quarter c).getD 0 default).length = c.length := by rw [h0]; simp
  refine getD_ext (by rw [quarter_len, e0]) fun i hi => ?_
  rw [quarter_at _ (by rw [e0]; exact hi)]
  have hrow := g.rows _ (g.at_ hi)
  refine getD_ext (by rw [List.length_map, quarter_len, hrow]) fun j hj => ?_
  have hj' : j < (quarter c).length := by rw [quarter_len]; rw [hrow] at hj; exact hj
  rw [getD_map _ _ _ hj', ← getD_lt hj', quarter_at c (by rw [hrow] at hj; exact hj), getD_map _ _ _ hi, ← getD_lt hi]
  omega
theorem over_good {c : Cl} (g : Good c) : Good (over c) := by
  have hp := g.pos
  have e0 : ((over c).getD 0 default).length = (c.getD 0 default).length := by
    unfold over
    rw [getD_map _ _ _ hp, ← getD_lt hp]
    simp
  refine ⟨by unfold over; rw [List.length_map]; exact g.len, fun row hr => ?_, by rw [e0]; exact g.wide, fun row hr x hx => ?_⟩
  · rw [e0]
    obtain ⟨r, h, rfl⟩ := List.mem_map.mp hr
    rw [List.length_map, List.length_reverse]
    exact g.rows r h
  · obtain ⟨r, h, rfl⟩ := List.mem_map.mp hr
    obtain ⟨y, hy, rfl⟩ := List.mem_map.mp hx
    have := g.bits r h y (List.mem_reverse.mp hy)
    omega
theorem over_over (c : Cl) : over (over c) = c := by
  unfold over
  rw [List.map_map]
  have : ∀ row : List Int, ((fun row : List Int => row.reverse.map fun one => 1 - one) ∘ fun row => row.reverse.map fun one => 1 - one) row = row := fun row => by
    show List.map _ (List.reverse (List.map _ (List.reverse row))) = row
    rw [← List.map_reverse, List.reverse_reverse, List.map_map]
    have e : ((fun one : Int => 1 - one) ∘ fun one => 1 - one) = id := by
      funext x
      show 1 - (1 - x) = x
      omega
    rw [e, List.map_id]
  rw [List.map_congr_left fun a _ => this a]
  simp
theorem drop_last7 (c : Cl) (k : Int) : (c.map fun row => row ++ [k]).map List.dropLast = c := by
  rw [List.map_map]
  have : ∀ row : List Int, (List.dropLast ∘ fun row => row ++ [k]) row = row := fun row => by simp
  rw [List.map_congr_left fun a _ => this a]
  simp
end DF

namespace DF
open Enc (enc)
open PySem PySem.Spec PyProof.Rows L2 Evl RT
/-! ### drafts -/
def isDraft (d : PyData) : Bool := match d with
  | .tuple [a, b, c] => isCloth b && (isRow a ((lenD b : Int) - 1) && isRow c ((lenD (match b with | .list (r :: _) => r | _ => .none) : Int) - 1))
  | _ => false
theorem isDraft_eq {a b c : PyData} : isDraft (.tuple [a, b, c]) = (isCloth b && (isRow a ((lenD b : Int) - 1) && isRow c ((lenD (match b with | .list (r :: _) => r | _ => .none) : Int) - 1))) := rfl
theorem isDraft_no {d : PyData} (h : isI "tuple" d = false) : isDraft d = false := by
  cases d with
  | tuple ds => rw [isI_tuple_tuple] at h; cases h
  | _ => rfl
theorem isDraft_len {ds : List PyData} (h : ds.length ≠ 3) : isDraft (.tuple ds) = false := by
  match ds, h with
  | [], _ => rfl
  | [_], _ => rfl
  | [_, _], _ => rfl
  | [_, _, _], h => exact absurd rfl h
  | _ :: _ :: _ :: _ :: _, _ => rfl
theorem isCloth_cons {d : PyData} (h : isCloth d = true) : ∃ e0 dr, d = .list (.list e0 :: dr) := by
  cases d with
  | list ds =>
    obtain ⟨h1, h2, h3⟩ := isCloth_rows h
    cases ds with
    | nil => simp at h1
    | cons a r =>
      obtain ⟨e0, rfl, _⟩ := isRow_list (h2 a List.mem_cons_self)
      exact ⟨e0, r, rfl⟩
  | _ => simp [isCloth] at h
theorem isRow_enc {xs : List Int} {hi : Int} (h1 : 1 ≤ xs.length ∧ xs.length ≤ 60) (h2 : ∀ x ∈ xs, 0 ≤ x ∧ x ≤ hi) : isRow (enc xs) hi = true := by
  show isRow (.list (xs.map enc)) hi = true
  rw [isRow_eq, Bool.and_eq_true]
  refine ⟨decide_eq_true (by rw [List.length_map]; exact h1), ?_⟩
  rw [List.all_eq_true]
  intro y hy
  obtain ⟨v, hv, rfl⟩ := List.mem_map.mp hy
  have := h2 v hv
  show (decide ((0 : Int) ≤ v) && decide (v ≤ hi)) = true
  rw [decide_eq_true this.1, decide_eq_true this.2]; rfl
theorem GoodD.is {d : Dr} (g : GoodD d) : isDraft (enc d) = true := by
  show isDraft (.tuple [enc d.th, enc d.ti, enc d.tr]) = true
  rw [isDraft_eq, Bool.and_eq_true, Bool.and_eq_true]
  have h1 : lenD (enc d.ti) = d.ti.length := by show (d.ti.map enc).length = _; rw [List.length_map]
  have h2 : lenD (match (enc d.ti : PyData) with | .list (r :: _) => r | _ => .none) = (d.ti.getD 0 default).length := by
    have := g.ti.pos
    obtain ⟨th, ti, tr⟩ := d
    cases ti with
    | nil => simp at this
    | cons r c =>
      show (r.map enc).length = r.length
      rw [List.length_map]
  refine ⟨g.ti.is, isRow_enc g.th fun s hs => ?_, isRow_enc g.tr fun t ht => ?_⟩
  · rw [h1]
    have := g.sh s hs
    omega
  · rw [h2]
    have := g.tl t ht
    omega
section
variable {K : PySem.W.Frag} {ρ : Rho} {te ta tb tl : TE} {d : Dr}
theorem v_th (ha : VD K ta ρ (enc d)) : VD K (tOp (rIx K) ta (tC (.int 0))) ρ (enc d.th) := v_ixT (ds := [enc d.th, enc d.ti, enc d.tr]) ha v_int rfl
theorem v_ti (ha : VD K ta ρ (enc d)) : VD K (tOp (rIx K) ta (tC (.int 1))) ρ (enc d.ti) := v_ixT (ds := [enc d.th, enc d.ti, enc d.tr]) ha v_int rfl
theorem v_tr (ha : VD K ta ρ (enc d)) : VD K (tOp (rIx K) ta (tC (.int 2))) ρ (enc d.tr) := v_ixT (ds := [enc d.th, enc d.ti, enc d.tr]) ha v_int rfl
end
/-- a draft's objects -/
structure DAt (H : Hp) (t a b c : Addr) (F : List Addr) (d : Dr) : Prop where
  tup : H t = some (.tup [.ref a, .ref b, .ref c])
  th : H a = some (.lst (d.th.map V.int))
  ti : CAt H b F d.ti
  tr : H c = some (.lst (d.tr.map V.int))
theorem DAt.tp {H : Hp} {t a b c : Addr} {F : List Addr} {d : Dr} (h : DAt H t a b c F d) : Tp H (.ref t) (enc d) := .tup h.tup (.cons (Tp.ints h.th) (.cons h.ti.tp (.cons (Tp.ints h.tr) .nil)))
theorem DAt.mono {H H' : Hp} {t a b c : Addr} {F : List Addr} {d : Dr} (e : Ex H H') (h : DAt H t a b c F d) : DAt H' t a b c F d := ⟨e _ _ h.tup, e _ _ h.th, h.ti.mono e, e _ _ h.tr⟩
theorem own_intList {H : Hp} {v : V} {ns : List Int} {F : List Addr} (h : Own H v (enc ns) F) : ∃ a, v = .ref a ∧ F = [a] ∧ H a = some (.lst (ns.map V.int)) := by
  obtain ⟨a, xs, G, e1, e2, ha, t', na⟩ := h.lst_inv
  obtain ⟨e3, e4⟩ := own_ints t'
  subst e1 e2 e3 e4
  exact ⟨a, rfl, rfl, ha⟩
theorem Own.dat {H : Hp} {v : V} {d : Dr} {G : List Addr} (o : Own H v (enc d) G) : ∃ t a b c F, v = .ref t ∧ DAt H t a b c F d ∧ (∀ x, x ∈ G ↔ x = a ∨ x = b ∨ x = c ∨ x ∈ F) ∧ a ≠ b ∧ a ≠ c ∧ b ≠ c ∧ a ∉ F ∧ c ∉ F := by
  obtain ⟨t, xs, rfl, ht, o⟩ := Own.tup_inv (ds := [enc d.th, enc d.ti, enc d.tr]) o
  cases o with
  | cons o1 o2 j1 =>
    cases o2 with
    | cons o2 o3 j2 =>
      cases o3 with
      | cons o3 o4 j3 =>
        cases o4
        obtain ⟨a, rfl, rfl, ha⟩ := own_intList o1
        obtain ⟨b, F, rfl, rfl, hb⟩ := Own.cat o2
        obtain ⟨c, rfl, rfl, hc⟩ := own_intList o3
        have k1 := j1 a List.mem_cons_self
        have k2 := fun x hx => j2 x hx
        simp only [List.append_nil, List.mem_append, List.mem_cons, List.not_mem_nil, or_false, not_or] at k1 k2
        refine ⟨t, a, b, c, F, rfl, ⟨ht, ha, hb, hc⟩, fun x => ?_, k1.1.1, k1.2, k2 b (.inl rfl), k1.1.2, fun hm => k2 c (.inr hm) rfl⟩
        simp only [List.append_nil, List.mem_append, List.mem_cons, List.not_mem_nil, or_false]
        constructor
        · rintro (h | ((h | h) | h))
          · exact .inl h
          · exact .inr (.inl h)
          · exact .inr (.inr (.inr h))
          · exact .inr (.inr (.inl h))
        · rintro (h | h | h | h)
          · exact .inl h
          · exact .inr (.inl (.inl h))
          · exact .inr (.inr h)
          · exact .inr (.inl (.inr h))
theorem New.dat {H0 H : Hp} {v : V} {d : Dr} (o : New H0 H v (enc d)) : ∃ t a b c F, v = .ref t ∧ DAt H t a b c F d ∧ H0 a = none ∧ H0 b = none ∧ H0 c = none ∧ (∀ x ∈ F, H0 x = none) ∧ a ≠ b ∧ a ≠ c ∧ b ≠ c ∧ a ∉ F ∧ c ∉ F := by
  obtain ⟨G, o, f⟩ := o
  obtain ⟨t, a, b, c, F, e, h1, h2, h3, h4, h5, h6, h7⟩ := o.dat
  exact ⟨t, a, b, c, F, e, h1, f a ((h2 a).mpr (.inl rfl)), f b ((h2 b).mpr (.inr (.inl rfl))), f c ((h2 c).mpr (.inr (.inr (.inl rfl)))), fun x hx => f x ((h2 x).mpr (.inr (.inr (.inr hx)))), h3, h4, h5, h6, h7⟩
end DF
namespace DF
open Enc (enc)
open PySem PySem.Spec PyProof.Rows L2 Evl RT
/-- a value told without a change -/
def Val (te : TE) (σ : L2.St) (H : Hp) (v : V) : Prop := ∀ Q : VK, Q v H → te σ H Q
section
variable {K : PySem.W.Frag} {ρ : Rho} {te ta tb tl to ti : TE} {z : Ent} {H H0 H' H1 : Hp} {σ : L2.St} {D : Ends} {t u : TS} {v w : V} {a p : Addr} {xs : List V} {i : Int} {g : TG}
theorem val_var {k : Nat} (h : σ[k]? = some (some v)) : Val (tVar k) σ H v := fun Q q => ⟨v, h, q⟩
theorem val_c : Val (tC v) σ H v := fun Q q => q
theorem val_ixL (ha : Val ta σ H (.ref p)) (hb : Val tb σ H (.int i)) (h : H p = some (.lst xs)) (e : atI xs i = some v) : Val (tOp (rIx K) ta tb) σ H v := fun Q q =>
  ha _ (hb _ (.inl ⟨p, xs, i, v, rfl, rfl, SqL.of h, e, q⟩))
theorem val_ixT (ha : Val ta σ H (.ref p)) (hb : Val tb σ H (.int i)) (h : H p = some (.tup xs)) (e : atI xs i = some v) : Val (tOp (rIx K) ta tb) σ H v := fun Q q =>
  ha _ (hb _ (.inr (.inl ⟨p, xs, i, v, rfl, rfl, SqT.of h, e, q⟩)))
/-- x[i] = e -/
theorem q_setAt {k : Nat} {n : Int} {row : List Int} (h : VD K te ρ (.int n)) (m : Env K H σ ρ) (ho : ∀ H', Ex H H' → Val to σ H' (.ref p)) (hi : ∀ H', Ex H H' → Val ti σ H' (.int (k : Int))) (hp : H p = some (.lst (row.map V.int))) (hk : k < row.length)
    (q : ∀ H', Ex H H' → u D σ (upd H' p (.lst ((row.set k n).map V.int)))) : tSeq (tAsg te (gSub to ti rSetL)) u D σ H :=
  h σ H m _ fun v H' e r => by
    cases Tp.int_inv r
    refine ho H' e _ (hi H' e _ ⟨p, _, (k : Int), k, rfl, rfl, e _ _ hp, ixN_nat (by rw [List.length_map]; exact hk), ?_⟩)
    have := q H' e
    rw [List.map_set] at this
    exact this
theorem s_setAt {k : Nat} {n : Int} {row : List Int} (h : VD K te ρ (.int n)) (m : Env K H σ ρ) (ho : ∀ H', Ex H H' → Val to σ H' (.ref p)) (hi : ∀ H', Ex H H' → Val ti σ H' (.int (k : Int))) (hp : H p = some (.lst (row.map V.int))) (hk : k < row.length)
    (q : ∀ H', Ex H H' → D.nx σ (upd H' p (.lst ((row.set k n).map V.int)))) : tAsg te (gSub to ti rSetL) D σ H :=
  h σ H m _ fun v H' e r => by
    cases Tp.int_inv r
    refine ho H' e _ (hi H' e _ ⟨p, _, (k : Int), k, rfl, rfl, e _ _ hp, ixN_nat (by rw [List.length_map]; exact hk), ?_⟩)
    have := q H' e
    rw [List.map_set] at this
    exact this
/-- x.reverse(), x.clear(), x.append(k) of a list of ints -/
theorem q_reverse {row : List Int} (ho : Val to σ H (.ref p)) (hp : H p = some (.lst (row.map V.int))) (q : u D σ (upd H p (.lst (row.reverse.map V.int)))) : tSeq (tDrop (tBM0 K "list" rReverse to)) u D σ H :=
  ho _ ⟨.inl ⟨rfl, _, SqL.of hp⟩, p, _, rfl, rfl, hp, by rw [List.map_reverse] at q; exact q⟩
theorem s_clear (ho : Val to σ H (.ref p)) (hp : H p = some (.lst xs)) (q : D.nx σ (upd H p (.lst []))) : tDrop (tBM0 K "list" rClear to) D σ H :=
  ho _ ⟨.inl ⟨rfl, _, SqL.of hp⟩, p, _, rfl, rfl, hp, q⟩
theorem q_clear (ho : Val to σ H (.ref p)) (hp : H p = some (.lst xs)) (q : u D σ (upd H p (.lst []))) : tSeq (tDrop (tBM0 K "list" rClear to)) u D σ H := s_clear (D := { D with nx := u D }) ho hp q
theorem s_appI {n : Int} {row : List Int} (ho : Val to σ H (.ref p)) (hp : H p = some (.lst (row.map V.int))) (hz : row.length ≤ 10000) (q : D.nx σ (upd H p (.lst ((row ++ [n]).map V.int)))) : tDrop (tBM K "list" rAppend to (tCons (tC (.int n)) tNil)) D σ H :=
  ho _ ⟨.inl ⟨rfl, _, SqL.of hp⟩, p, _, .int n, rfl, rfl, hp, sz_lt (by rw [List.length_map]; omega), by rw [List.map_append] at q; exact q⟩
theorem q_appI {n : Int} {row : List Int} (ho : Val to σ H (.ref p)) (hp : H p = some (.lst (row.map V.int))) (hz : row.length ≤ 10000) (q : u D σ (upd H p (.lst ((row ++ [n]).map V.int)))) : tSeq (tDrop (tBM K "list" rAppend to (tCons (tC (.int n)) tNil))) u D σ H := s_appI (D := { D with nx := u D }) ho hp hz q
/-- x.append([]) -/
theorem q_appE (ho : ∀ H', Ex H H' → Val to σ H' (.ref p)) (hp : H p = some (.lst xs)) (hz : xs.length ≤ 10000) (q : ∀ p2, H p2 = none → u D σ (upd (upd H p2 (.lst [])) p (.lst (xs ++ [.ref p2])))) : tSeq (tDrop (tBM K "list" rAppend to (tCons (tLst tNil) tNil))) u D σ H :=
  ho H (Ex.refl H) _ ⟨.inl ⟨rfl, _, SqL.of hp⟩, Nat.zero_le _, fun p2 hp2 => ⟨p, _, .ref p2, rfl, rfl, Ex.new hp2 _ _ hp, sz_lt (by omega), q p2 hp2⟩⟩
theorem RowsAt.some {F : List Addr} {c : Cl} (r : RowsAt H F c) {a : Addr} (h : a ∈ F) : ∃ o, H a = Option.some o := by
  obtain ⟨i, hi, he⟩ := List.getElem_of_mem h
  exact ⟨_, r.at_ i a _ (by rw [List.getElem?_eq_getElem hi, he]) (List.getElem?_eq_getElem (by rw [← r.len]; exact hi))⟩
theorem CAt.some {a : Addr} {F : List Addr} {c : Cl} (r : CAt H a F c) {x : Addr} (h : x = a ∨ x ∈ F) : ∃ o, H x = Option.some o := by
  rcases h with rfl | h
  · exact ⟨_, r.lst⟩
  · exact r.rows.some h
theorem off_one {o : HO} : Off [a] H (upd H a o) := fun b hb => upd_ne fun e => hb (by rw [e]; exact List.mem_cons_self)
/-- the row at its place -/
theorem CAt.row {F : List Addr} {c : Cl} (C : CAt H a F c) {k : Nat} (h : k < c.length) : ∃ r, F[k]? = Option.some r ∧ r ∈ F ∧ H r = Option.some (.lst ((c.getD k default).map V.int)) ∧ atI (F.map V.ref) (k : Int) = Option.some (.ref r) := by
  have hk : k < F.length := by rw [C.rows.len]; exact h
  refine ⟨F[k], List.getElem?_eq_getElem hk, List.getElem_mem hk, ?_, atI_nat (by rw [List.getElem?_map, List.getElem?_eq_getElem hk]; rfl)⟩
  rw [getD_lt h]
  exact C.rows.at_ k _ _ (List.getElem?_eq_getElem hk) (List.getElem?_eq_getElem h)
/-- a row is changed at one place -/
theorem CAt.set {F : List Addr} {c : Cl} (C : CAt H a F c) {k : Nat} {r : Addr} (hr : F[k]? = Option.some r) (row : List Int) : CAt (upd H r (.lst (row.map V.int))) a F (c.set k row) :=
  ⟨by rw [upd_ne (fun e => C.out (by rw [e]; exact List.mem_of_getElem? hr))]; exact C.lst, C.rows.set hr row, C.out⟩
end
end DF

namespace DF
open Enc (enc)
open PySem PySem.Spec PyProof.Rows L2 Evl RT
section
variable {K : PySem.W.Frag} {ρ : Rho} {te ta tb tc tl to ti : TE} {tt : TT} {z : Ent} {H H0 H' H1 : Hp} {σ : L2.St} {D : Ends} {t u : TS} {v w : V} {a p : Addr} {xs : List V} {i : Int} {g : TG} {d : PyData} {acc : List PyData}
/-! ### slices -/
theorem v_slD {ds : List PyData} {tlo thi : TO} {lo hi : Option Int} (ha : VD K ta ρ (.list ds)) (h1 : ∀ σ H, Env K H σ ρ → ∀ Q : Option Int → Hp → Prop, (∀ H', Ex H H' → Q lo H') → tlo σ H Q) (h2 : ∀ σ H, Env K H σ ρ → ∀ Q : Option Int → Hp → Prop, (∀ H', Ex H H' → Q hi H') → thi σ H Q) :
    VD K (tSl (rSlL K) ta tlo thi) ρ (.list ((ds.drop (HT.sIx ds.length 0 lo)).take (HT.sIx ds.length ds.length hi - HT.sIx ds.length 0 lo))) := fun σ H n Q q =>
  ha σ H n _ fun v H1 e1 r => h1 σ H1 (n.mono e1) _ fun H2 e2 => h2 σ H2 (n.mono (e1.trans e2)) _ fun H3 e3 => by
    obtain ⟨a, xs, rfl, ea, t⟩ := Tp.lst_inv r
    refine ⟨a, xs, rfl, SqL.of (e3 _ _ (e2 _ _ ea)), fun p hp => q _ _ (((e1.trans e2).trans e3).trans (Ex.new hp)) (.lst upd_same ((t.cut lo hi).mono ((e2.trans e3).trans (Ex.new hp))))⟩
theorem o_none : ∀ σ H, Env K H σ ρ → ∀ Q : Option Int → Hp → Prop, (∀ H', Ex H H' → Q none H') → tNoPart σ H Q := fun _ H _ Q q => q H (Ex.refl H)
theorem o_some (h : VD K te ρ (.int i)) : ∀ σ H, Env K H σ ρ → ∀ Q : Option Int → Hp → Prop, (∀ H', Ex H H' → Q (some i) H') → tPart te σ H Q := fun σ H n Q q => h σ H n _ fun v H' e r => by
  cases Tp.int_inv r
  exact ⟨i, rfl, q H' e⟩
theorem sl_to {α : Type} (xs : List α) (k : Nat) : (xs.drop (HT.sIx xs.length 0 none)).take (HT.sIx xs.length xs.length (some (k : Int)) - HT.sIx xs.length 0 none) = xs.take k := by
  rw [HT.sIx_none, HT.sIx_nat, Nat.sub_zero, List.drop_zero]
  by_cases h : k ≤ xs.length
  · rw [Nat.min_eq_left h]
  · rw [Nat.min_eq_right (by omega), List.take_length, List.take_of_length_le (by omega)]
theorem sl_from {α : Type} (xs : List α) (k : Nat) : (xs.drop (HT.sIx xs.length 0 (some (k : Int)))).take (HT.sIx xs.length xs.length none - HT.sIx xs.length 0 (some (k : Int))) = xs.drop k := by
  rw [HT.sIx_none, HT.sIx_nat]
  by_cases h : k ≤ xs.length
  · rw [Nat.min_eq_left h, List.take_of_length_le (by simp)]
  · rw [Nat.min_eq_right (by omega), Nat.sub_self, List.take_zero, List.drop_of_length_le (by omega)]
/-- xs[:k], xs[k:] -/
theorem v_slTo {α : Type} [Enc α] {xs : List α} (k : Nat) (ha : VD K ta ρ (enc xs)) (hb : VD K tb ρ (.int i)) (e : i = (k : Int)) : VD K (tSl (rSlL K) ta tNoPart (tPart tb)) ρ (enc (xs.take k)) := by
  subst e
  exact (v_slD ha o_none (o_some hb)).eq (by rw [sl_to, ← List.map_take]; rfl)
theorem v_slFrom {α : Type} [Enc α] {xs : List α} (k : Nat) (ha : VD K ta ρ (enc xs)) (hb : VD K tb ρ (.int i)) (e : i = (k : Int)) : VD K (tSl (rSlL K) ta (tPart tb) tNoPart) ρ (enc (xs.drop k)) := by
  subst e
  exact (v_slD ha (o_some hb) o_none).eq (by rw [sl_from, ← List.map_drop]; rfl)
/-! ### loops over a range whose turns grow a list of one's own -/
theorem s_loopRA {m : Int} {j : Nat} {js : List Nat} (ac : Nat → List PyData) (h0 : ac 0 = acc) (hj : j ∈ js) (hl : VD K tl ρ (.int m)) (hm : -100000 ≤ m ∧ m ≤ 1000000) (g : Grown H0 H p acc) (n : Env K H0 σ ρ)
    (body : ∀ k : Nat, (k : Int) < m → ∀ (σ' : L2.St) (H' : Hp) (D' : Ends), Buts js σ σ' → Grown H0 H' p (ac k) → Env K H0 (σ'.set j (some (.int (k : Int)))) ((wipeR ρ js).set j (some (.d (.int (k : Int))))) → D'.rt = D.rt →
      (∀ σ2 H2, Buts js σ σ2 → Grown H0 H2 p (ac (k + 1)) → D'.nx σ2 H2) → t D' (σ'.set j (some (.int (k : Int)))) H')
    (done : ∀ σ' H', Buts js σ σ' → Grown H0 H' p (ac m.toNat) → D.nx σ' H') : tFor (iRng1 (tCons tl tNil)) (gName j) t D σ H :=
  hl σ H (n.of g) _ fun v H1 e1 r1 => by
    cases Tp.int_inv r1
    refine ⟨m, rfl, by omega, by omega, ?_⟩
    refine for_range (lo := 0) (n := m.toNat) (fun k σ' H' => Buts js σ σ' ∧ Grown H0 H' p (ac k)) ⟨Buts.refl js σ, by rw [h0]; exact g.mono e1⟩ (fun k σ' H' hk pv => ?_) (fun σ' H' pv => done σ' H' pv.1 pv.2)
    have e0 : (0 : Int) + (k : Int) = (k : Int) := Int.zero_add _
    rw [e0]
    exact body k (by omega) σ' H' _ pv.1 pv.2 ((pv.1.env n).set j (z := .d (.int (k : Int))) (.int _)) rfl fun σ2 H2 b2 g2 => ⟨b2, g2⟩
theorem q_loopRA {m : Int} {j : Nat} {js : List Nat} (ac : Nat → List PyData) (h0 : ac 0 = acc) (hj : j ∈ js) (hl : VD K tl ρ (.int m)) (hm : -100000 ≤ m ∧ m ≤ 1000000) (g : Grown H0 H p acc) (n : Env K H0 σ ρ)
    (body : ∀ k : Nat, (k : Int) < m → ∀ (σ' : L2.St) (H' : Hp) (D' : Ends), Buts js σ σ' → Grown H0 H' p (ac k) → Env K H0 (σ'.set j (some (.int (k : Int)))) ((wipeR ρ js).set j (some (.d (.int (k : Int))))) → D'.rt = D.rt →
      (∀ σ2 H2, Buts js σ σ2 → Grown H0 H2 p (ac (k + 1)) → D'.nx σ2 H2) → t D' (σ'.set j (some (.int (k : Int)))) H')
    (done : ∀ σ' H', Buts js σ σ' → Grown H0 H' p (ac m.toNat) → u D σ' H') : tSeq (tFor (iRng1 (tCons tl tNil)) (gName j) t) u D σ H := s_loopRA (D := { D with nx := u D }) ac h0 hj hl hm g n body done
/-- an if whose answer is known, at the end of a block -/
theorem s_ifT {b : Bool} (hc : VT K tt ρ b) (hb : b = true) (n : Env K H σ ρ) (k : ∀ H', Ex H H' → t D σ H') : tIfS tt t u D σ H := hc σ H n _ fun H' e => by
  subst hb
  exact k H' e
theorem New.ints {H0 H : Hp} {v : V} {ns : List Int} (h : New H0 H v (enc ns)) : ∃ a, v = .ref a ∧ H a = some (.lst (ns.map V.int)) ∧ H0 a = none := by
  obtain ⟨F, o, f⟩ := h
  obtain ⟨a, rfl, rfl, ha⟩ := own_intList o
  exact ⟨a, rfl, ha, f a List.mem_cons_self⟩
end
/-! ### first threads -/
def firstK (c : Cl) (k : Nat) : Bool := !decide (c.getD k default ∈ c.take k)
def firstPlaces (c : Cl) : List Int := ((List.range c.length).filter (firstK c)).map fun k : Nat => (k : Int)
def columns (c : Cl) : Cl := (List.range (c.getD 0 default).length).map fun k => warpOf c k
def placeBetween (a b : List Int) : Option Nat := (List.range a.length).find? fun k => !decide (a.getD k default = b.getD k default)
def encO : Option Nat → PyData
  | none => .none
  | some k => .int (k : Int)
theorem columns_len (c : Cl) : (columns c).length = (c.getD 0 default).length := by unfold columns; simp
theorem columns_at (c : Cl) {k : Nat} (h : k < (c.getD 0 default).length) : (columns c).getD k default = warpOf c k := by
  unfold columns
  rw [getD_map _ _ _ (by simpa using h)]
  simp
theorem columns_row {c : Cl} {row : List Int} (h : row ∈ columns c) : row.length = c.length := by
  obtain ⟨k, _, rfl⟩ := List.mem_map.mp h
  simp [warpOf]
/-- of each row of the first k there is a first one -/
theorem first_of (c : Cl) (k : Nat) : ∀ i : Nat, i < k → i < c.length → ∃ j, j ≤ i ∧ firstK c j = true ∧ c.getD j default = c.getD i default := by
  intro i
  induction i using Nat.strongRecOn with
  | _ i ih =>
    intro hi hc
    cases h : firstK c i with
    | true => exact ⟨i, Nat.le_refl i, h, rfl⟩
    | false =>
      unfold firstK at h
      have hm : c.getD i default ∈ c.take i := by simpa using h
      obtain ⟨j, hj, e⟩ := List.getElem_of_mem hm
      have hj' : j < i := by rw [List.length_take] at hj; omega
      obtain ⟨l, h1, h2, h3⟩ := ih j hj' (by omega) (by omega)
      refine ⟨l, by omega, h2, ?_⟩
      rw [h3, getD_lt (by omega), ← e, List.getElem_take]
theorem firsts_any (c : Cl) {k : Nat} (h : k < c.length) : ((((List.range k).filter (firstK c)).map fun i : Nat => (i : Int)).any fun a => decide (c.getD a.toNat default = c.getD k default)) = decide (c.getD k default ∈ c.take k) := by
  rw [Bool.eq_iff_iff]
  simp only [List.any_eq_true, List.mem_map, List.mem_filter, List.mem_range, decide_eq_true_eq]
  constructor
  · rintro ⟨a, ⟨i, ⟨hi, _⟩, rfl⟩, e⟩
    rw [Int.toNat_natCast] at e
    rw [← e, getD_lt (by omega), ← List.getElem_take (h := by rw [List.length_take]; omega) (j := k)]
    exact List.getElem_mem _
  · intro hm
    obtain ⟨i, hi, e⟩ := List.getElem_of_mem hm
    have hik : i < k := by rw [List.length_take] at hi; omega
    obtain ⟨j, h1, h2, h3⟩ := first_of c k i hik (by omega)
    refine ⟨(j : Int), ⟨j, ⟨by omega, h2⟩, rfl⟩, ?_⟩
    rw [Int.toNat_natCast, h3, getD_lt (by omega), ← e, List.getElem_take]
end DF
namespace DF
open Enc (enc)
open PySem PySem.Spec PyProof.Rows L2 Evl RT
section
variable {K : PySem.W.Frag} {ρ ρ' : Rho} {t u : TS} {o : Out}
theorem findR_first (f : Nat → Option PyData) (ρ : Rho) : ∀ l : List Nat, ((∀ i ∈ l, f i = none) ∧ findR f ρ l = .nx ρ) ∨ ∃ (k i : Nat) (d : PyData), l[k]? = some i ∧ (∀ j i' : Nat, j < k → l[j]? = some i' → f i' = none) ∧ f i = some d ∧ findR f ρ l = .ret d
  | [] => .inl ⟨fun _ h => (by cases h), rfl⟩
  | i :: r => by
    cases h : f i with
    | some d => exact .inr ⟨0, i, d, rfl, fun j _ hj => absurd hj (Nat.not_lt_zero j), h, by unfold findR; rw [h]⟩
    | none =>
      rcases findR_first f ρ r with ⟨h1, h2⟩ | ⟨k, j, d, h1, h2, h3, h4⟩
      · exact .inl ⟨fun k hk => (List.mem_cons.mp hk).elim (fun e => e ▸ h) (h1 k), by unfold findR; rw [h]; exact h2⟩
      · refine .inr ⟨k + 1, j, d, by simpa using h1, fun a i' ha hi' => ?_, h3, by unfold findR; rw [h]; exact h4⟩
        cases a with
        | zero => simp at hi'; subst hi'; exact h
        | succ a => exact h2 a i' (by omega) (by simpa using hi')
/-- a search over range(n): the first turn that returns -/
theorem r_seqFirst {f : Nat → Option PyData} {n : Nat} (h1 : RD K t ρ (findR f ρ' (List.range n))) (h2 : (∀ i < n, f i = none) → RD K u ρ' o) (h3 : ∀ i < n, ∀ d, (∀ j < i, f j = none) → f i = some d → o = .ret d) : RD K (tSeq t u) ρ o := by
  rcases findR_first f ρ' (List.range n) with ⟨a, b⟩ | ⟨k, i, d, hk, hf, hd, b⟩
  · rw [b] at h1
    exact r_seq h1 (h2 fun i hi => a i (List.mem_range.mpr hi))
  · rw [b] at h1
    obtain ⟨hl, e⟩ := List.getElem?_eq_some_iff.mp hk
    rw [List.length_range] at hl
    rw [List.getElem_range] at e
    subst e
    rw [h3 k hl d (fun j hj => hf j j hj (List.getElem?_range (by omega))) hd]
    exact r_seqR h1
end
theorem placeBetween_none {a b : List Int} (h : ∀ k < a.length, a.getD k default = b.getD k default) : placeBetween a b = none := by
  unfold placeBetween
  rw [List.find?_eq_none]
  intro k hk
  rw [decide_eq_true (h k (List.mem_range.mp hk))]
  decide
theorem find_filter {α : Type} {p : α → Bool} : ∀ {l : List α} {x : α}, l.find? p = some x → ∃ r, l.filter p = x :: r
  | [], _, h => by simp at h
  | a :: l, x, h => by
    rw [List.find?_cons] at h
    rw [List.filter_cons]
    cases hp : p a with
    | true => rw [hp] at h; cases h; exact ⟨_, by rw [if_pos rfl]⟩
    | false =>
      rw [hp] at h
      obtain ⟨r, e⟩ := find_filter h
      exact ⟨r, by rw [if_neg (by decide)]; exact e⟩
theorem find_range {p : Nat → Bool} : ∀ {n i : Nat}, i < n → p i = true → (∀ j < i, p j = false) → (List.range n).find? p = some i := by
  intro n
  induction n with
  | zero => intro i h; omega
  | succ n ih =>
    intro i hi hp hn
    rw [List.range_succ, List.find?_append]
    by_cases h : i < n
    · rw [ih h hp hn]; rfl
    · have e : i = n := by omega
      subst e
      rw [List.find?_eq_none.mpr fun j hj => by rw [hn j (List.mem_range.mp hj)]; decide]
      simp [hp]
theorem placeBetween_some {a b : List Int} {i : Nat} (hi : i < a.length) (h : ¬ a.getD i default = b.getD i default) (hn : ∀ j < i, a.getD j default = b.getD j default) : placeBetween a b = some i := by
  unfold placeBetween
  exact find_range hi (by rw [decide_eq_false h]; rfl) fun j hj => by rw [decide_eq_true (hn j hj)]; rfl
end DF

namespace DF
open Enc (enc)
open PySem PySem.Spec PyProof.Rows L2 Evl RT
/-- the place of the first one that is it -/
def idxD {α : Type} [DecidableEq α] (xs : List α) (x : α) : Nat := xs.idxOf x
theorem idxOf_ne {α : Type} [DecidableEq α] : ∀ {xs : List α} {x : α} {m : Nat} (hm : m < xs.idxOf x) {hl : m < xs.length}, xs[m] ≠ x
  | [], x, m, hm, hl => by simp at hl
  | y :: ys, x, m, hm, hl => by
    rw [List.idxOf_cons] at hm
    by_cases h : y = x
    · rw [h] at hm; simp at hm
    · have hb : (y == x) = false := beq_eq_false_iff_ne.mpr h
      rw [hb] at hm
      cases m with
      | zero => exact h
      | succ m =>
        have hm' : m + 1 < ys.idxOf x + 1 := hm
        exact idxOf_ne (xs := ys) (x := x) (m := m) (by omega)
section
variable {K : PySem.W.Frag} {ρ : Rho} {te ta tb tc tl to ti : TE} {tt : TT} {z : Ent} {H H0 H' H1 : Hp} {σ : L2.St} {D : Ends} {t u : TS} {v w : V} {a p : Addr} {xs : List V} {i : Int} {g : TG} {d : PyData} {acc : List PyData}
/-- a comprehension whose items stand already -/
theorem v_lc {α β : Type} [Enc α] [Enc β] {xs : List α} {j : Nat} {vs : List Nat} (f : α → β) (hl : VD K tl ρ (enc xs)) (hz : xs.length ≤ 10000) (hj : j ∈ vs)
    (he : ∀ x ∈ xs, VS K te ((wipeR ρ vs).set j (some (.d (enc x)))) (enc (f x))) : VD K (tLc (iList K tl) (gName j) tYes te vs) ρ (enc (xs.map f)) := by
  refine fun σ H n Q q => hl σ H n _ fun v H1 e1 r1 => ?_
  obtain ⟨a, us, rfl, ea, t⟩ := Tp.lst_inv r1
  refine ⟨a, rfl, ⟨us, SqL.of ea⟩, fun D hD => ?_⟩
  refine lc_list (xs := us) (fun i H' => PvS H1 D ((xs.take i).map fun x => enc (f x)) H') (by simpa using PvS.start hD) (fun i H' _ pv => SqL.of (pv.1 _ _ ea)) (fun i x H' hx pv => ⟨wipe_back hj, ?_⟩) (fun H' pv => ?_)
  · obtain ⟨d, hd, td⟩ := t.getV hx
    rw [List.getElem?_map] at hd
    cases hxi : xs[i]? with
    | none => rw [hxi] at hd; cases hd
    | some y =>
      rw [hxi] at hd
      cases hd
      have hm : y ∈ xs := List.mem_of_getElem? hxi
      have hi : i < xs.length := (List.getElem?_eq_some_iff.mp hxi).1
      refine turnS hD pv (((n.mono e1).wipe vs).set j (z := .d (enc y)) td) t_yes (fun _ => he y hm) (by rw [List.length_map, List.length_take]; omega) (fun _ => ?_) (fun z => nomatch z)
      rw [List.take_add_one, hxi]
      simp
  · rw [t.len, List.length_map, List.take_length] at pv
    have w := pv.done
    rw [show (xs.map fun x => enc (f x)) = (xs.map f).map enc by rw [List.map_map]; rfl] at w
    exact q _ H' (e1.trans pv.1) w
/-- xs.index(x) -/
theorem v_index {α : Type} [Enc α] [DecidableEq α] {xs : List α} {x : α} (ha : VD K to ρ (enc xs)) (hb : VD K te ρ (enc x)) (hx : x ∈ xs) (h : Enc.deep α + 1 ≤ 64 := by decide) : VD K (tBM K "list" (rIndexD K) to (tCons te tNil)) ρ (.int ((idxD xs x : Nat) : Int)) := fun σ H n Q q =>
  ha σ H n _ fun u H1 e1 r1 => by
    obtain ⟨a, us, rfl, ea, t⟩ := Tp.lst_inv r1
    refine ⟨.inl ⟨rfl, us, SqL.of ea⟩, hb σ H1 (n.mono e1) _ fun v H2 e2 r2 => ?_⟩
    have hi : xs.idxOf x < xs.length := List.idxOf_lt_length_of_mem hx
    refine ⟨a, v, enc x, xs.map enc, xs.idxOf x, enc x, rfl, rfl, Tp.dp ((Tp.lst ea t : Tp H1 (.ref a) (enc xs)).mono e2) (Enc.lay xs), Tp.dp r2 (Enc.lay x), shaped_enc xs h, shaped_enc x (by omega), ?_, ?_, fun m z' hm hz => ?_, q _ H2 (e1.trans e2) (.int _)⟩
    · rw [List.getElem?_map, List.getElem?_eq_getElem hi, List.getElem_idxOf hi]
      rfl
    · exact (Enc.eqv_enc x x).mpr rfl
    · rw [List.getElem?_map, List.getElem?_eq_getElem (show m < xs.length by omega)] at hz
      cases hz
      cases q2 : PyData.eqv (enc xs[m]) (enc x) with
      | false => rfl
      | true =>
        have e := (Enc.eqv_enc _ _).mp q2
        exact absurd e (idxOf_ne hm)
/-- a def that tells data that may be another's -/
def spE (K : PySem.W.Frag) (R : List Ent → PyData → Prop) : Sp := fun vs H Q _ => ∃ zs r, RepAll K H vs zs ∧ R zs r ∧ ∀ v H', Ex H H' → Tp H' v r → Q v H'
theorem v_callE {R : List Ent → PyData → Prop} {E : XK} {ta : TA} {zs : List Ent} (ha : AE K ta ρ zs) (hR : R zs d) : VD K (tCall (spE K R) [] E ta) ρ d := fun σ H n Q q =>
  ha σ H n _ fun vs H1 e1 r1 => by
    show spE K R (vs ++ []) H1 Q E
    rw [List.append_nil]
    exact ⟨zs, d, r1, hR, fun v H' e2 w => q v H' (e1.trans e2) w⟩
/-- returned tuples: two slots of one's own and a new one; a slot between two new ones -/
theorem s_ret_vvn {i j : Nat} {x y : V} {a b c : PyData} {F : List Addr} (h1 : σ[i]? = some (some x)) (h2 : σ[j]? = some (some y)) (o : OwnAll H [x, y] [a, b] F) (f : ∀ x ∈ F, H0 x = none) (e : Ex H0 H) (n : Env K H σ ρ) (h : VN K te ρ c)
    (k : ∀ v H', Ex H H' → New H0 H' v (.tuple [a, b, c]) → D.rt v H') : tRet (tTup (tCons (tVar i) (tCons (tVar j) (tCons te tNil)))) D σ H :=
  ⟨x, h1, y, h2, h σ H n _ fun w H' e' ⟨G, oG, fG⟩ => ⟨(show 3 ≤ sizeLine by decide), fun q hq => by
    have al : OwnAll H' [x, y, w] [a, b, c] (F ++ G) := by
      have := OwnAll.append (OwnAll.cons oG .nil (fun _ _ z => nomatch z)) (o.mono e') (fun z hz hg => by
        rw [List.append_nil] at hg
        obtain ⟨xs, hx⟩ := o.at_ z hz
        rw [fG z hg] at hx
        cases hx)
      rw [List.append_nil] at this
      exact this
    exact k _ _ (e'.trans (Ex.new hq)) ⟨F ++ G, .tup upd_same (al.mono (Ex.new hq)), fun z hz => (List.mem_append.mp hz).elim (f z) fun h => fresh_back e (fG z h)⟩⟩⟩
theorem s_ret_nvn {j : Nat} {y : V} {a b c : PyData} {F : List Addr} (h2 : σ[j]? = some (some y)) (o : Own H y b F) (f : ∀ x ∈ F, H0 x = none) (e : Ex H0 H) (n : Env K H σ ρ) (ha : VN K ta ρ a) (h : VN K te ρ c)
    (k : ∀ v H', Ex H H' → New H0 H' v (.tuple [a, b, c]) → D.rt v H') : tRet (tTup (tCons ta (tCons (tVar j) (tCons te tNil)))) D σ H :=
  ha σ H n _ fun x H1 e1 ⟨A, oA, fA⟩ => ⟨y, h2, h σ H1 (n.mono e1) _ fun w H' e' ⟨G, oG, fG⟩ => ⟨(show 3 ≤ sizeLine by decide), fun q hq => by
    have o' := o.mono (e1.trans e')
    have oA' := oA.mono e'
    have al : OwnAll H' [x, y, w] [a, b, c] (A ++ (F ++ (G ++ []))) := .cons oA' (.cons o' (.cons oG .nil (fun _ _ z => nomatch z)) fun z hz hg => by
        rw [List.append_nil] at hg
        obtain ⟨xs, hx⟩ := o.at_ z hz
        have := fG z hg
        rw [e1 _ _ hx] at this
        cases this) fun z hz hg => by
      rw [List.append_nil] at hg
      rcases List.mem_append.mp hg with h | h
      · obtain ⟨xs, hx⟩ := o.at_ z h
        rw [fA z hz] at hx
        cases hx
      · obtain ⟨xs, hx⟩ := oA.at_ z hz
        rw [fG z h] at hx
        cases hx
    exact k _ _ ((e1.trans e').trans (Ex.new hq)) ⟨_, .tup upd_same (al.mono (Ex.new hq)), fun z hz => by
      rcases List.mem_append.mp hz with h | h
      · exact fresh_back e (fA z h)
      · rcases List.mem_append.mp h with h | h
        · exact f z h
        · rw [List.append_nil] at h
          exact fresh_back (e.trans e1) (fG z h)⟩⟩⟩
end
/-! ### the least draft -/
def heads (c : Cl) : Cl := ((List.range c.length).filter (firstK c)).map fun k => c.getD k default
def numbersOf (c : Cl) : List Int := c.map fun row => ((idxD (heads c) row : Nat) : Int)
def leastDraft (c : Cl) : Dr where
  th := numbersOf (columns c)
  ti := (firstPlaces (columns c)).map fun warp => (firstPlaces c).map fun weft => (c.getD weft.toNat default).getD warp.toNat default
  tr := numbersOf c
theorem mem_first {c : Cl} {k : Int} (h : k ∈ firstPlaces c) : 0 ≤ k ∧ k < c.length ∧ firstK c k.toNat = true := by
  obtain ⟨i, hi, rfl⟩ := List.mem_map.mp h
  obtain ⟨h1, h2⟩ := List.mem_filter.mp hi
  have := List.mem_range.mp h1
  exact ⟨by omega, by omega, by rw [Int.toNat_natCast]; exact h2⟩
theorem heads_eq (c : Cl) : heads c = (firstPlaces c).map fun k => c.getD k.toNat default := by
  unfold heads firstPlaces
  rw [List.map_map]
  apply List.map_congr_left
  intro k _
  show _ = c.getD ((k : Int)).toNat default
  rw [Int.toNat_natCast]
theorem mem_heads {c : Cl} {row : List Int} (h : row ∈ c) : row ∈ heads c := by
  obtain ⟨i, hi, e⟩ := List.getElem_of_mem h
  obtain ⟨j, h1, h2, h3⟩ := first_of c c.length i hi hi
  refine List.mem_map.mpr ⟨j, List.mem_filter.mpr ⟨List.mem_range.mpr (by omega), h2⟩, ?_⟩
  rw [h3, getD_lt hi, e]
theorem heads_sub {c : Cl} {row : List Int} (h : row ∈ heads c) : row ∈ c := by
  obtain ⟨k, hk, rfl⟩ := List.mem_map.mp h
  have := List.mem_range.mp (List.mem_filter.mp hk).1
  rw [getD_lt this]
  exact List.getElem_mem this
theorem heads_len (c : Cl) : (heads c).length = (firstPlaces c).length := by unfold heads firstPlaces; rw [List.length_map, List.length_map]
theorem firstPlaces_len (c : Cl) : (firstPlaces c).length ≤ c.length := by
  unfold firstPlaces
  rw [List.length_map]
  exact Nat.le_trans (List.length_filter_le _ _) (by simp)
end DF
namespace DF
open Enc (enc)
open PySem PySem.Spec PyProof.Rows L2 Evl RT
def headsK (c : Cl) (k : Nat) : Cl := ((List.range k).filter (firstK c)).map fun i => c.getD i default
theorem headsK_all (c : Cl) : headsK c c.length = heads c := rfl
theorem headsK_yes {c : Cl} {k : Nat} (h : firstK c k = true) : headsK c (k + 1) = headsK c k ++ [c.getD k default] := by
  unfold headsK
  rw [List.range_succ, List.filter_append, List.map_append]
  simp [h]
theorem headsK_no {c : Cl} {k : Nat} (h : firstK c k = false) : headsK c (k + 1) = headsK c k := by
  unfold headsK
  rw [List.range_succ, List.filter_append, List.map_append]
  simp [h]
theorem headsK_len (c : Cl) (k : Nat) : (headsK c k).length ≤ k := by
  unfold headsK
  rw [List.length_map]
  exact Nat.le_trans (List.length_filter_le _ _) (by simp)
theorem headsK_mem {c : Cl} {k : Nat} (hk : k ≤ c.length) {row : List Int} : row ∈ headsK c k ↔ row ∈ c.take k := by
  constructor
  · intro h
    obtain ⟨i, hi, rfl⟩ := List.mem_map.mp h
    have hi2 := List.mem_range.mp (List.mem_filter.mp hi).1
    rw [getD_lt (by omega), ← List.getElem_take (h := by rw [List.length_take]; omega) (j := k)]
    exact List.getElem_mem _
  · intro h
    obtain ⟨i, hi, e⟩ := List.getElem_of_mem h
    have hik : i < k := by rw [List.length_take] at hi; omega
    obtain ⟨j, h1, h2, h3⟩ := first_of c k i hik (by omega)
    refine List.mem_map.mpr ⟨j, List.mem_filter.mpr ⟨List.mem_range.mpr (by omega), h2⟩, ?_⟩
    rw [h3, getD_lt (by omega), ← e, List.getElem_take]
theorem headsK_pre (c : Cl) {k : Nat} : ∀ m : Nat, ∃ r, headsK c (k + m) = headsK c k ++ r
  | 0 => ⟨[], by simp⟩
  | m + 1 => by
    obtain ⟨r, e⟩ := headsK_pre c (k := k) m
    cases h : firstK c (k + m) with
    | true => exact ⟨r ++ [c.getD (k + m) default], by rw [← Nat.add_assoc, headsK_yes h, e, List.append_assoc]⟩
    | false => exact ⟨r, by rw [← Nat.add_assoc, headsK_no h, e]⟩
theorem idxD_pre {α : Type} [DecidableEq α] {xs r : List α} {x : α} (h : x ∈ xs) : idxD (xs ++ r) x = idxD xs x := by
  unfold idxD
  rw [List.idxOf_append]
  simp [h]
theorem headsK_in {c : Cl} {k : Nat} (hk : k < c.length) : c.getD k default ∈ headsK c (k + 1) := by
  rw [headsK_mem (by omega), getD_lt hk, ← List.getElem_take (h := by rw [List.length_take]; omega) (j := k + 1)]
  exact List.getElem_mem _
theorem headsK_idx {c : Cl} {k : Nat} (hk : k < c.length) : idxD (headsK c (k + 1)) (c.getD k default) = idxD (heads c) (c.getD k default) := by
  obtain ⟨r, e⟩ := headsK_pre c (k := k + 1) (c.length - (k + 1))
  rw [show k + 1 + (c.length - (k + 1)) = c.length by omega, headsK_all] at e
  rw [e, idxD_pre (headsK_in hk)]
theorem idxD_spec {α : Type} [DecidableEq α] {xs : List α} {k : Nat} (hk : k < xs.length) (hnot : xs[k] ∉ xs.take k) : idxD xs xs[k] = k := by
  unfold idxD
  have hi : xs.idxOf xs[k] < xs.length := List.idxOf_lt_length_of_mem (List.getElem_mem hk)
  have e := List.getElem_idxOf hi
  have hle : ¬ k < xs.idxOf xs[k] := fun q => idxOf_ne q (hl := hk) rfl
  refine Nat.le_antisymm (Nat.not_lt.mp hle) (Nat.not_lt.mp fun q => hnot ?_)
  have h2 : (xs.take k)[xs.idxOf xs[k]]'(by rw [List.length_take]; exact Nat.lt_min.mpr ⟨q, hi⟩) = xs[k] := by rw [List.getElem_take]; exact e
  exact h2 ▸ List.getElem_mem _
/-- the place of a first one -/
theorem idxD_first {c : Cl} {k : Nat} (hk : k < c.length) (h : firstK c k = true) : idxD c (c.getD k default) = k := by
  unfold firstK at h
  have hnot : c.getD k default ∉ c.take k := by simpa using h
  rw [getD_lt hk] at hnot ⊢
  exact idxD_spec hk hnot
end DF
namespace DF
open Enc (enc)
open PySem PySem.Spec PyProof.Rows L2 Evl RT
theorem Good.flip {c : Cl} (g : Good c) {k j : Nat} (hk : k < c.length) : Good (c.set k ((c.getD k default).set j (1 - (c.getD k default).getD j default))) := by
  have w0 : ((c.set k ((c.getD k default).set j (1 - (c.getD k default).getD j default))).getD 0 default).length = (c.getD 0 default).length := by
    by_cases h : k = 0
    · subst h
      rw [List.getD_eq_getElem?_getD, List.getElem?_set_self hk]
      simp
    · rw [List.getD_eq_getElem?_getD, List.getElem?_set_ne h, ← List.getD_eq_getElem?_getD]
  refine ⟨by rw [List.length_set]; exact g.len, fun row hr => ?_, by rw [w0]; exact g.wide, fun row hr x hx => ?_⟩
  · rw [w0]
    rcases List.mem_or_eq_of_mem_set hr with h | h
    · exact g.rows row h
    · rw [h, List.length_set]
      exact g.rows _ (g.at_ hk)
  · rcases List.mem_or_eq_of_mem_set hr with h | h
    · exact g.bits row h x hx
    · rw [h] at hx
      rcases List.mem_or_eq_of_mem_set hx with h2 | h2
      · exact g.bits _ (g.at_ hk) x h2
      · have := g.bit (g.at_ hk) j
        omega
section
variable {K : PySem.W.Frag} {ρ : Rho} {te ta tb tc tl to ti : TE} {tt : TT} {z : Ent} {H H0 H' H1 : Hp} {σ : L2.St} {D : Ends} {t u : TS} {v w : V} {a p : Addr} {xs : List V} {i : Int} {g : TG} {d : PyData} {acc : List PyData}
/-- for x in ys: xs.append(e), of plain data -/
theorem s_growLE {α β : Type} [Enc α] [Enc β] {ys : List α} {acc : List β} {i j : Nat} (f : α → β) (hij : i ≠ j) (hl : VS K tl ρ (enc ys)) (hz : acc.length + ys.length ≤ 20000) (hi : σ[i]? = some (some (.ref p))) (g : Grown H0 H p (acc.map enc)) (n : Env K H0 σ ρ)
    (he : ∀ x ∈ ys, VN K te ((ρ.set j none).set j (some (.d (enc x)))) (enc (f x)))
    (done : ∀ σ' H', But j σ σ' → Grown H0 H' p ((acc ++ ys.map f).map enc) → D.nx σ' H') : tFor (iList K tl) (gName j) (tDrop (tBM K "list" rAppend (tVar i) (tCons te tNil))) D σ H :=
  hl σ H0 H n g.ex _ fun v H1 e1 r1 => by
    obtain ⟨a, xs, rfl, ea, t'⟩ := Tp.lst_inv r1
    have g1 := g.mono e1
    refine ⟨a, rfl, ⟨xs, SqL.of (g1.ex _ _ ea)⟩, ?_⟩
    refine for_list (xs := xs) (fun k σ' H' => But j σ σ' ∧ Grown H0 H' p ((acc ++ (ys.take k).map f).map enc)) ⟨But.refl j σ, by simpa using g1⟩ (fun k σ' H' _ pv => SqL.of (pv.2.ex _ _ ea)) (fun k x σ' H' hx pv => ?_) (fun σ' H' pv => ?_)
    · obtain ⟨bt, g'⟩ := pv
      obtain ⟨d, hd, td⟩ := t'.getV hx
      rw [List.getElem?_map] at hd
      cases hyk : ys[k]? with
      | none => rw [hyk] at hd; cases hd
      | some y =>
        rw [hyk] at hd
        cases hd
        have hm : y ∈ ys := List.mem_of_getElem? hyk
        have hk : k < ys.length := (List.getElem?_eq_some_iff.mp hyk).1
        have n' := (bt.env n).of g'
        refine s_push (ρ := (ρ.set j none).set j (some (.d (enc y)))) (d := enc (f y)) (by rw [List.getElem?_set_ne (Ne.symm hij), bt.at_ i hij]; exact hi) g' (by rw [List.length_map, List.length_append, List.length_map, List.length_take]; omega) (n'.set j (z := .d (enc y)) (td.mono g'.ex)) (he y hm) fun H2 _ g2 => ?_
        refine ⟨bt.set _, ?_⟩
        rw [List.take_add_one, hyk]
        simpa using g2
    · obtain ⟨bt, g'⟩ := pv
      rw [t'.len, List.length_map, List.take_length] at g'
      exact done σ' H' bt g'
theorem q_growLE {α β : Type} [Enc α] [Enc β] {ys : List α} {acc : List β} {i j : Nat} (f : α → β) (hij : i ≠ j) (hl : VS K tl ρ (enc ys)) (hz : acc.length + ys.length ≤ 20000) (hi : σ[i]? = some (some (.ref p))) (g : Grown H0 H p (acc.map enc)) (n : Env K H0 σ ρ)
    (he : ∀ x ∈ ys, VN K te ((ρ.set j none).set j (some (.d (enc x)))) (enc (f x)))
    (done : ∀ σ' H', But j σ σ' → Grown H0 H' p ((acc ++ ys.map f).map enc) → u D σ' H') : tSeq (tFor (iList K tl) (gName j) (tDrop (tBM K "list" rAppend (tVar i) (tCons te tNil)))) u D σ H :=
  s_growLE (D := { D with nx := u D }) f hij hl hz hi g n he done
/-- a part of what the slots tell -/
theorem Env.only {ρ' : Rho} (n : Env K H σ ρ) (h : ρ'.length = ρ.length := by rfl) (s : ∀ (i : Nat) (z : Ent), ρ'[i]? = some (some z) → ρ[i]? = some (some z)) : Env K H σ ρ' := n.sub ⟨h, s⟩
end
theorem least_ti (c : Cl) : ((heads (columns c)).map fun col => (heads c).map fun row => col.getD (idxD c row) default) = (leastDraft c).ti := by
  unfold leastDraft
  simp only []
  rw [heads_eq, heads_eq, List.map_map]
  apply List.map_congr_left
  intro w hw
  show List.map _ (List.map _ _) = _
  rw [List.map_map]
  apply List.map_congr_left
  intro f hf
  have m1 := mem_first hw
  have m2 := mem_first hf
  show List.getD ((columns c).getD w.toNat default) (idxD c (c.getD f.toNat default)) default = _
  rw [idxD_first (by omega) m2.2.2, columns_at c (by have := m1.2.1; rw [columns_len] at this; omega)]
  unfold warpOf
  rw [getD_map _ _ _ (show f.toNat < c.length by omega), ← getD_lt]
end DF
namespace DF
theorem idxD_lt {α : Type} [DecidableEq α] {xs : List α} {x : α} (h : x ∈ xs) : idxD xs x < xs.length := List.idxOf_lt_length_of_mem h
end DF

namespace DF
open Enc (enc)
open PySem PySem.Spec PyProof.Rows L2 Evl RT
/-! ### the least draft weaves the cloth, and has the fewest -/
theorem getD_idxD {α : Type} [DecidableEq α] [Inhabited α] {xs : List α} {x : α} (h : x ∈ xs) : xs.getD (idxD xs x) default = x := by
  rw [getD_lt (idxD_lt h)]
  exact List.getElem_idxOf (idxD_lt h)
theorem range_getD (row : List Int) : ((List.range row.length).map fun k => row.getD k default) = row := by
  refine getD_ext (by simp) fun i hi => ?_
  rw [getD_map _ _ _ (by simpa using hi)]
  simp
theorem least_weaves {c : Cl} (g : Good c) : woven (leastDraft c) = c := by
  unfold woven
  rw [← least_ti]
  show (numbersOf c).map (fun t => (numbersOf (columns c)).map fun s => _) = c
  unfold numbersOf
  rw [List.map_map]
  have key : ∀ row ∈ c, (((columns c).map fun col => ((idxD (heads (columns c)) col : Nat) : Int)).map fun s => ((((heads (columns c)).map fun col => (heads c).map fun r => col.getD (idxD c r) default).getD s.toNat default).getD (((idxD (heads c) row : Nat) : Int)).toNat default)) = row := by
    intro row hr
    rw [List.map_map]
    unfold columns
    rw [List.map_map]
    have hw := g.rows row hr
    have : ∀ w ∈ List.range (c.getD 0 default).length, (((fun s : Int => ((((heads (columns c)).map fun col => (heads c).map fun r => col.getD (idxD c r) default).getD s.toNat default).getD (((idxD (heads c) row : Nat) : Int)).toNat default)) ∘ fun col => ((idxD (heads (columns c)) col : Nat) : Int)) ∘ fun k => warpOf c k) w = row.getD w default := by
      intro w hwm
      have hw2 := List.mem_range.mp hwm
      have hcol : warpOf c w ∈ columns c := List.mem_map.mpr ⟨w, hwm, rfl⟩
      show (((((heads (columns c)).map fun col => (heads c).map fun r => col.getD (idxD c r) default).getD ((((idxD (heads (columns c)) (warpOf c w)) : Nat) : Int)).toNat default).getD (((idxD (heads c) row : Nat) : Int)).toNat default)) = row.getD w default
      rw [Int.toNat_natCast, Int.toNat_natCast, getD_map _ _ _ (idxD_lt (mem_heads hcol)), ← getD_lt, getD_idxD (mem_heads hcol), getD_map _ _ _ (idxD_lt (mem_heads hr)), ← getD_lt, getD_idxD (mem_heads hr)]
      unfold warpOf
      rw [getD_map _ _ _ (idxD_lt hr), ← getD_lt, getD_idxD hr]
    have e := List.map_congr_left this
    unfold columns at e
    rw [e, ← hw]
    exact range_getD row
  have e2 : c.map (fun row => (((columns c).map fun col => ((idxD (heads (columns c)) col : Nat) : Int)).map fun s => ((((heads (columns c)).map fun col => (heads c).map fun r => col.getD (idxD c r) default).getD s.toNat default).getD (((idxD (heads c) row : Nat) : Int)).toNat default))) = c.map id := List.map_congr_left key
  rw [List.map_id] at e2
  exact e2
theorem firstPlaces_pos {c : Cl} (h : 0 < c.length) : 0 < (firstPlaces c).length := by
  have hm : c[0] ∈ heads c := mem_heads (List.getElem_mem h)
  rw [← heads_len]
  exact List.length_pos_of_mem hm
theorem least_good {c : Cl} (g : Good c) : GoodD (leastDraft c) := by
  have hc := g.pos
  have hw := g.wide
  have lc := columns_len c
  have p1 := firstPlaces_pos hc
  have p2 := firstPlaces_pos (c := columns c) (by omega)
  have f1 := firstPlaces_len (columns c)
  have f2 := firstPlaces_len c
  have z3 : (leastDraft c).ti.length = (firstPlaces (columns c)).length := by show (List.map _ _).length = _; rw [List.length_map]
  have z4 : ∀ row ∈ (leastDraft c).ti, row.length = (firstPlaces c).length := fun row hr => by
    obtain ⟨x, _, rfl⟩ := List.mem_map.mp hr
    rw [List.length_map]
  have z5 : ((leastDraft c).ti.getD 0 default).length = (firstPlaces c).length := z4 _ (by
    rw [getD_lt (by omega)]
    exact List.getElem_mem _)
  have g1 := g.len
  refine ⟨⟨by omega, fun row hr => by rw [z4 row hr, z5], by rw [z5]; omega, fun row hr x hx => ?_⟩, by show 1 ≤ (List.map _ _).length ∧ (List.map _ _).length ≤ 60; rw [List.length_map]; omega, by show 1 ≤ (List.map _ _).length ∧ (List.map _ _).length ≤ 60; rw [List.length_map]; omega, fun s hs => ?_, fun t ht => ?_⟩
  · obtain ⟨w, hw', rfl⟩ := List.mem_map.mp hr
    obtain ⟨f, hf, rfl⟩ := List.mem_map.mp hx
    have m := mem_first hf
    exact g.bit (g.at_ (k := f.toNat) (by omega)) _
  · obtain ⟨col, hcol, rfl⟩ := List.mem_map.mp hs
    have := idxD_lt (mem_heads hcol)
    rw [heads_len] at this
    omega
  · obtain ⟨row, hrow, rfl⟩ := List.mem_map.mp ht
    have := idxD_lt (mem_heads hrow)
    rw [heads_len] at this
    omega
theorem headsK_nodup (c : Cl) : ∀ k : Nat, k ≤ c.length → (headsK c k).Nodup
  | 0, _ => by unfold headsK; simp
  | k + 1, h => by
    have ih := headsK_nodup c k (by omega)
    cases hf : firstK c k with
    | true =>
      rw [headsK_yes hf]
      refine List.nodup_append.mpr ⟨ih, by simp, fun x hx y hy e => ?_⟩
      rw [List.mem_singleton] at hy
      subst hy e
      rw [headsK_mem (by omega)] at hx
      unfold firstK at hf
      simp at hf
      exact hf (by simpa using hx)
    | false => rw [headsK_no hf]; exact ih
theorem nodup_le {α : Type} [DecidableEq α] : ∀ {xs ys : List α}, xs.Nodup → (∀ x ∈ xs, x ∈ ys) → xs.length ≤ ys.length
  | [], _, _, _ => Nat.zero_le _
  | x :: xs, ys, hn, h => by
    have hx := h x List.mem_cons_self
    have hn' := List.nodup_cons.mp hn
    have := nodup_le (xs := xs) (ys := ys.erase x) hn'.2 fun y hy => (List.mem_erase_of_ne (fun e => hn'.1 (by rw [← e]; exact hy))).mpr (h y (List.mem_cons_of_mem _ hy))
    rw [List.length_erase_of_mem hx] at this
    have hp := List.length_pos_of_mem hx
    simp only [List.length_cons]
    omega
theorem woven_row0 {d : Dr} (g : GoodD d) : ((woven d).getD 0 default).length = d.th.length := by
  unfold woven
  rw [getD_map _ _ _ (by have := g.tr; omega)]
  simp
theorem woven_warp {d : Dr} {w : Nat} (hw : w < d.th.length) : warpOf (woven d) w = d.tr.map fun t => (d.ti.getD (d.th.getD w default).toNat default).getD t.toNat default := by
  unfold warpOf woven
  rw [List.map_map]
  apply List.map_congr_left
  intro t _
  show (List.map _ d.th).getD w default = _
  rw [getD_map _ _ _ hw, ← getD_lt]
/-- a draft has at least as many shafts and treadles -/
theorem few_warps {d : Dr} (g : GoodD d) : (firstPlaces (columns (woven d))).length ≤ d.ti.length := by
  rw [← heads_len]
  have h := nodup_le (xs := heads (columns (woven d))) (ys := (List.range d.ti.length).map fun s => d.tr.map fun t => (d.ti.getD s default).getD t.toNat default) (headsK_nodup _ _ (Nat.le_refl _)) fun x hx => by
    obtain ⟨w, hw, rfl⟩ := List.mem_map.mp (heads_sub hx)
    have hw2 := List.mem_range.mp hw
    rw [woven_row0 g] at hw2
    have hs := g.sh (d.th.getD w default) (by rw [getD_lt hw2]; exact List.getElem_mem hw2)
    exact List.mem_map.mpr ⟨(d.th.getD w default).toNat, List.mem_range.mpr (by omega), (woven_warp hw2).symm⟩
  simpa using h
theorem few_wefts {d : Dr} (g : GoodD d) : (firstPlaces (woven d)).length ≤ (d.ti.getD 0 default).length := by
  rw [← heads_len]
  have h := nodup_le (xs := heads (woven d)) (ys := (List.range (d.ti.getD 0 default).length).map fun t => d.th.map fun s => (d.ti.getD s.toNat default).getD t default) (headsK_nodup _ _ (Nat.le_refl _)) fun x hx => by
    obtain ⟨t, ht, rfl⟩ := List.mem_map.mp (heads_sub hx)
    have := g.tl t ht
    exact List.mem_map.mpr ⟨t.toNat, List.mem_range.mpr (by omega), rfl⟩
  simpa using h
/-- first ones are unlike -/
theorem first_lt {c : Cl} {i j : Nat} (hij : i < j) (hj : j < (firstPlaces c).length) : (firstPlaces c).getD i default < (firstPlaces c).getD j default := by
  have hp : (firstPlaces c).Pairwise (· < ·) := by
    unfold firstPlaces
    rw [List.pairwise_map]
    exact (List.pairwise_lt_range.filter _).imp fun h => by omega
  rw [getD_lt (by omega), getD_lt hj]
  exact List.pairwise_iff_getElem.mp hp i j (by omega) hj hij
theorem first_ne {c : Cl} {i j : Nat} (hij : i < j) (hj : j < (firstPlaces c).length) : c.getD ((firstPlaces c).getD i default).toNat default ≠ c.getD ((firstPlaces c).getD j default).toNat default := by
  have hl := first_lt hij hj
  have mi := mem_first (c := c) (k := (firstPlaces c).getD i default) (by rw [getD_lt (by omega)]; exact List.getElem_mem _)
  have mj := mem_first (c := c) (k := (firstPlaces c).getD j default) (by rw [getD_lt hj]; exact List.getElem_mem _)
  intro e
  have h := mj.2.2
  unfold firstK at h
  have hnot : c.getD ((firstPlaces c).getD j default).toNat default ∉ c.take ((firstPlaces c).getD j default).toNat := by simpa using h
  apply hnot
  rw [← e]
  generalize (firstPlaces c).getD i default = x at *
  generalize (firstPlaces c).getD j default = y at *
  have hx : x.toNat < c.length := by omega
  have hxy : x.toNat < y.toNat := by omega
  rw [getD_lt hx, ← List.getElem_take (h := by rw [List.length_take]; exact Nat.lt_min.mpr ⟨hxy, hx⟩) (j := y.toNat)]
  exact List.getElem_mem _
theorem placeBetween_is {a b : List Int} (hl : a.length = b.length) (hn : a ≠ b) : ∃ i, placeBetween a b = some i ∧ i < a.length ∧ a.getD i default ≠ b.getD i default := by
  cases hP : placeBetween a b with
  | none =>
    exfalso
    unfold placeBetween at hP
    rw [List.find?_eq_none] at hP
    refine hn (getD_ext hl fun i hi => ?_)
    have := hP i (List.mem_range.mpr (by omega))
    simpa using this
  | some i =>
    unfold placeBetween at hP
    have h1 := List.find?_some hP
    have h2 := List.mem_of_find?_eq_some hP
    exact ⟨i, rfl, List.mem_range.mp h2, by simpa using h1⟩
end DF
namespace DF
open Enc (enc)
open PySem PySem.Spec PyProof.Rows L2 Evl RT
section
variable {K : PySem.W.Frag} {ρ : Rho} {tl : TE} {t : TS}
theorem wipeR_sub (ρ : Rho) (js : List Nat) : Sub (wipeR ρ js) ρ := ⟨wipeR_len ρ js, fun _ _ h => (wipeR_some h).1⟩
/-- a loop over range(m), each turn of which goes on and changes slots that are forgotten -/
theorem r_forAll {m : Int} {j : Nat} {js : List Nat} (ρt : Nat → Rho) (hl : VD K tl ρ (.int m)) (hm : -100000 ≤ m ∧ m ≤ 1000000)
    (hb : ∀ i : Nat, (i : Int) < m → RD K t ((wipeR ρ js).set j (some (.d (.int (i : Int))))) (.nx (ρt i)) ∧ Sub (wipeR ρ js) (ρt i)) :
    RD K (tFor (iRng1 (tCons tl tNil)) (gName j) t) ρ (.nx (wipeR ρ js)) := fun D σ H n q =>
  hl σ H n _ fun v H1 e1 r1 => by
    cases Tp.int_inv r1
    refine ⟨m, rfl, by omega, by omega, ?_⟩
    refine for_range (lo := 0) (n := m.toNat) (fun i σ' H' => Ex H H' ∧ Env K H' σ' (wipeR ρ js)) ⟨e1, (n.mono e1).sub (wipeR_sub ρ js)⟩ (fun i σ' H' hi pv => ?_) (fun σ' H' pv => q σ' H' pv.1 pv.2)
    obtain ⟨e, n'⟩ := pv
    have e0 : (0 : Int) + (i : Int) = (i : Int) := Int.zero_add _
    rw [e0]
    obtain ⟨h1, h2⟩ := hb i (by omega)
    exact h1 _ _ H' (n'.set j (z := .d (.int (i : Int))) (.int _)) fun σ2 H2 e2 n2 => ⟨e.trans e2, n2.sub h2⟩
end
end DF

namespace DF
open Enc (enc)
open PySem PySem.Spec PyProof.Rows L2 Evl RT
/-! ### drafts turned -/
def dQuarter (d : Dr) : Dr := ⟨d.tr, quarter d.ti, d.th⟩
def dOver (d : Dr) : Dr := ⟨d.th.reverse, d.ti.map fun row : List Int => row.map fun one => 1 - one, d.tr⟩
theorem dQuarter_good {d : Dr} (g : GoodD d) : GoodD (dQuarter d) := by
  have e0 : ((quarter d.ti).getD 0 default).length = d.ti.length := by
    rw [quarter_at d.ti (k := 0) (by have := g.ti.wide; omega)]; simp
  refine ⟨quarter_good g.ti, g.tr, g.th, fun s hs => ?_, fun t ht => ?_⟩
  · show 0 ≤ s ∧ s < (quarter d.ti).length
    rw [quarter_len]
    exact g.tl s hs
  · show 0 ≤ t ∧ t < ((quarter d.ti).getD 0 default).length
    rw [e0]
    exact g.sh t ht
theorem flip_row0 {c : Cl} (h : 0 < c.length) : ((c.map fun row : List Int => row.map fun one => 1 - one).getD 0 default).length = (c.getD 0 default).length := by
  rw [getD_map _ _ _ h, ← getD_lt h]; simp
theorem dOver_good {d : Dr} (g : GoodD d) : GoodD (dOver d) := by
  have hp := g.ti.pos
  have e0 := flip_row0 hp
  refine ⟨⟨by show 1 ≤ (List.map _ d.ti).length ∧ (List.map _ d.ti).length ≤ 60; rw [List.length_map]; exact g.ti.len, fun row hr => ?_, by show 1 ≤ (List.getD (d.ti.map fun row : List Int => row.map fun one => 1 - one) 0 default).length ∧ (List.getD (d.ti.map fun row : List Int => row.map fun one => 1 - one) 0 default).length ≤ 60; rw [e0]; exact g.ti.wide, fun row hr x hx => ?_⟩, by show 1 ≤ d.th.reverse.length ∧ d.th.reverse.length ≤ 60; rw [List.length_reverse]; exact g.th, g.tr, fun s hs => ?_, fun t ht => ?_⟩
  · show row.length = (List.getD (d.ti.map fun row : List Int => row.map fun one => 1 - one) 0 default).length
    rw [e0]
    obtain ⟨r, h, rfl⟩ := List.mem_map.mp hr
    rw [List.length_map]
    exact g.ti.rows r h
  · obtain ⟨r, h, rfl⟩ := List.mem_map.mp hr
    obtain ⟨y, hy, rfl⟩ := List.mem_map.mp hx
    have := g.ti.bits r h y hy
    omega
  · show 0 ≤ s ∧ s < (List.map _ d.ti).length
    rw [List.length_map]
    exact g.sh s (List.mem_reverse.mp hs)
  · show 0 ≤ t ∧ t < (List.getD (d.ti.map fun row : List Int => row.map fun one => 1 - one) 0 default).length
    rw [e0]
    exact g.tl t ht
theorem dQuarter_two {d : Dr} (g : GoodD d) : dQuarter (dQuarter d) = d := by
  unfold dQuarter
  simp only [quarter_quarter g.ti]
theorem dOver_two (d : Dr) : dOver (dOver d) = d := by
  unfold dOver
  obtain ⟨th, ti, tr⟩ := d
  simp only [List.reverse_reverse, List.map_map]
  have : ∀ row : List Int, ((fun row : List Int => row.map fun one => 1 - one) ∘ fun row : List Int => row.map fun one => 1 - one) row = row := fun row => by
    show List.map _ (List.map _ row) = row
    rw [List.map_map]
    have e : ((fun one : Int => 1 - one) ∘ fun one => 1 - one) = id := by
      funext x
      show 1 - (1 - x) = x
      omega
    rw [e, List.map_id]
  rw [List.map_congr_left fun a _ => this a]
  simp
theorem woven_quarter {d : Dr} (g : GoodD d) : woven (dQuarter d) = quarter (woven d) := by
  have w0 := woven_row0 g
  refine getD_ext (by rw [quarter_len, w0]; simp [woven, dQuarter]) fun w hw => ?_
  rw [quarter_len, w0] at hw
  rw [quarter_at _ (by rw [w0]; exact hw)]
  unfold woven
  rw [getD_map _ _ _ (show w < (dQuarter d).tr.length from hw), List.map_map]
  show List.map (fun s : Int => ((quarter d.ti).getD s.toNat default).getD ((d.th[w] : Int)).toNat default) d.tr = _
  apply List.map_congr_left
  intro t ht
  have h1 := g.tl t ht
  have h2 := g.sh d.th[w] (List.getElem_mem hw)
  rw [quarter_at _ (by omega), getD_map _ _ _ (show (d.th[w]).toNat < d.ti.length by omega), ← getD_lt]
  show _ = 1 - (List.map _ d.th).getD w default
  rw [getD_map _ _ _ hw]
theorem woven_over {d : Dr} (g : GoodD d) : woven (dOver d) = over (woven d) := by
  unfold woven over
  rw [List.map_map]
  apply List.map_congr_left
  intro t ht
  show List.map _ d.th.reverse = List.map _ (List.map _ d.th).reverse
  rw [← List.map_reverse, List.map_map]
  apply List.map_congr_left
  intro s hs
  have h1 := g.tl t ht
  have h2 := g.sh s (List.mem_reverse.mp hs)
  have h3 := g.ti.rows _ (g.ti.at_ (k := s.toNat) (by omega))
  show ((d.ti.map fun row : List Int => row.map fun one => 1 - one).getD s.toNat default).getD t.toNat default = 1 - (d.ti.getD s.toNat default).getD t.toNat default
  rw [getD_map _ _ _ (show s.toNat < d.ti.length by omega), ← getD_lt, getD_map _ _ _ (show t.toNat < (d.ti.getD s.toNat default).length by omega), ← getD_lt]
/-! ### a draft's objects that change -/
structure DSep (a b c : Addr) (F : List Addr) : Prop where
  ab : a ≠ b
  ac : a ≠ c
  bc : b ≠ c
  aF : a ∉ F
  cF : c ∉ F
theorem DAt.tne {H : Hp} {t a b c : Addr} {F : List Addr} {d : Dr} (h : DAt H t a b c F d) {x : Addr} {l : List V} (hx : H x = some (.lst l)) : t ≠ x := fun e => by
  rw [← e, h.tup] at hx
  cases hx
theorem DAt.setTh {H : Hp} {t a b c : Addr} {F : List Addr} {d : Dr} (h : DAt H t a b c F d) (s : DSep a b c F) (th : List Int) : DAt (upd H a (.lst (th.map V.int))) t a b c F ⟨th, d.ti, d.tr⟩ :=
  ⟨by rw [upd_ne (h.tne h.th)]; exact h.tup, upd_same, h.ti.off off_one (fun hm => s.ab (List.mem_singleton.mp hm).symm) fun x hx hm => s.aF (by rw [← List.mem_singleton.mp hm]; exact hx), by
    show upd H a _ c = _
    rw [upd_ne s.ac.symm]; exact h.tr⟩
theorem DAt.setTr {H : Hp} {t a b c : Addr} {F : List Addr} {d : Dr} (h : DAt H t a b c F d) (s : DSep a b c F) (tr : List Int) : DAt (upd H c (.lst (tr.map V.int))) t a b c F ⟨d.th, d.ti, tr⟩ :=
  ⟨by rw [upd_ne (h.tne h.tr)]; exact h.tup, by
    show upd H c _ a = _
    rw [upd_ne s.ac]; exact h.th, h.ti.off off_one (fun hm => s.bc (List.mem_singleton.mp hm)) fun x hx hm => s.cF (by rw [← List.mem_singleton.mp hm]; exact hx), upd_same⟩
theorem DAt.off {H H' : Hp} {t a b c : Addr} {F G : List Addr} {d : Dr} (h : DAt H t a b c F d) (o : Off G H H') (lists : ∀ x ∈ G, ∃ l, H x = some (.lst l)) (ha : a ∉ G) (hb : b ∉ G) (hc : c ∉ G) (hF : ∀ x ∈ F, x ∉ G) : DAt H' t a b c F d :=
  ⟨by rw [o t (fun hm => by obtain ⟨l, hl⟩ := lists t hm; exact h.tne hl rfl)]; exact h.tup, by rw [o a ha]; exact h.th, h.ti.off o hb hF, by rw [o c hc]; exact h.tr⟩
theorem rows_lists {H : Hp} {F : List Addr} {c : Cl} (r : RowsAt H F c) : ∀ x ∈ F, ∃ l, H x = some (.lst l) := fun x hx => by
  obtain ⟨i, hi, he⟩ := List.getElem_of_mem hx
  exact ⟨_, r.at_ i x _ (by rw [List.getElem?_eq_getElem hi, he]) (List.getElem?_eq_getElem (by rw [← r.len]; exact hi))⟩
theorem DAt.setTi {H H' : Hp} {t a b c : Addr} {F G : List Addr} {d : Dr} {ti : Cl} (h : DAt H t a b c F d) (o : Off G H H') (lists : ∀ x ∈ G, ∃ l, H x = some (.lst l)) (ha : a ∉ G) (hb : b ∉ G) (hc : c ∉ G) (r : RowsAt H' F ti) : DAt H' t a b c F ⟨d.th, ti, d.tr⟩ :=
  ⟨by rw [o t (fun hm => by obtain ⟨l, hl⟩ := lists t hm; exact h.tne hl rfl)]; exact h.tup, by rw [o a ha]; exact h.th, ⟨by rw [o b hb]; exact h.ti.lst, r, h.ti.out⟩, by rw [o c hc]; exact h.tr⟩
/-- two drafts of one's own, apart -/
theorem own2D {H0 H1 H2 H3 : Hp} {u v : V} {d e : Dr} (e0 : Ex H0 H1) (e1 : Ex H1 H2) (h1 : New H0 H1 u (enc d)) (h2 : New H1 H2 v (enc e)) :
    ∃ t a b c F t' a' b' c' F', u = .ref t ∧ v = .ref t' ∧ DAt H2 t a b c F d ∧ DAt H2 t' a' b' c' F' e ∧ DSep a b c F ∧ DSep a' b' c' F' ∧
      (∀ x, x = a ∨ x = b ∨ x = c ∨ x ∈ F → H0 x = none ∧ x ≠ a' ∧ x ≠ b' ∧ x ≠ c' ∧ x ∉ F') ∧ (∀ x, x = a' ∨ x = b' ∨ x = c' ∨ x ∈ F' → H0 x = none ∧ x ≠ a ∧ x ≠ b ∧ x ≠ c ∧ x ∉ F) := by
  obtain ⟨t, a, b, c, F, rfl, D, f1, f2, f3, f4, d1, d2, d3, d4, d5⟩ := h1.dat
  obtain ⟨t', a', b', c', F', rfl, D', f1', f2', f3', f4', d1', d2', d3', d4', d5'⟩ := h2.dat
  have s1 : ∀ x, x = a ∨ x = b ∨ x = c ∨ x ∈ F → ∃ o, H1 x = some o := fun x hx => by
    rcases hx with rfl | rfl | rfl | hx
    · exact ⟨_, D.th⟩
    · exact ⟨_, D.ti.lst⟩
    · exact ⟨_, D.tr⟩
    · exact D.ti.rows.some hx
  have n2 : ∀ x, x = a' ∨ x = b' ∨ x = c' ∨ x ∈ F' → H1 x = none := fun x hx => by
    rcases hx with rfl | rfl | rfl | hx
    · exact f1'
    · exact f2'
    · exact f3'
    · exact f4' x hx
  have n0 : ∀ x, x = a ∨ x = b ∨ x = c ∨ x ∈ F → H0 x = none := fun x hx => by
    rcases hx with rfl | rfl | rfl | hx
    · exact f1
    · exact f2
    · exact f3
    · exact f4 x hx
  have ne : ∀ x y, (x = a ∨ x = b ∨ x = c ∨ x ∈ F) → (y = a' ∨ y = b' ∨ y = c' ∨ y ∈ F') → x ≠ y := fun x y hx hy q => by
    obtain ⟨o, ho⟩ := s1 x hx
    rw [q, n2 y hy] at ho
    cases ho
  refine ⟨t, a, b, c, F, t', a', b', c', F', rfl, rfl, D.mono e1, D', ⟨d1, d2, d3, d4, d5⟩, ⟨d1', d2', d3', d4', d5'⟩, fun x hx => ⟨n0 x hx, ne x a' hx (.inl rfl), ne x b' hx (.inr (.inl rfl)), ne x c' hx (.inr (.inr (.inl rfl))), fun h => ne x x hx (.inr (.inr (.inr h))) rfl⟩, fun x hx => ⟨fresh_back e0 (n2 x hx), fun q => ne a x (.inl rfl) hx q.symm, fun q => ne b x (.inr (.inl rfl)) hx q.symm, fun q => ne c x (.inr (.inr (.inl rfl))) hx q.symm, fun h => ne x x (.inr (.inr (.inr h))) hx rfl⟩⟩
section
variable {K : PySem.W.Frag} {ρ : Rho} {te ta tb tc tl to ti : TE} {tt : TT} {z : Ent} {H H0 H' H1 : Hp} {σ : L2.St} {D : Ends} {t u : TS} {v w : V} {a p : Addr} {xs : List V} {i : Int} {g : TG} {d : PyData} {acc : List PyData}
/-- a list of one's own, told by an expression, that a loop grows -/
theorem s_growLEV {α β : Type} [Enc α] [Enc β] {ys : List α} {acc : List β} {j : Nat} (I : Hp → Prop) (f : α → β) (hto : ∀ σ' H', But j σ σ' → I H' → Val to σ' H' (.ref p)) (kE : ∀ H1 H2, I H1 → Ex H1 H2 → I H2) (kU : ∀ H1 o, I H1 → I (upd H1 p o))
    (hl : VS K tl ρ (enc ys)) (hz : acc.length + ys.length ≤ 20000) (hI : I H) (g : Grown H0 H p (acc.map enc)) (n : Env K H0 σ ρ)
    (he : ∀ x ∈ ys, VN K te ((ρ.set j none).set j (some (.d (enc x)))) (enc (f x)))
    (done : ∀ σ' H', But j σ σ' → I H' → Grown H0 H' p ((acc ++ ys.map f).map enc) → D.nx σ' H') : tFor (iList K tl) (gName j) (tDrop (tBM K "list" rAppend to (tCons te tNil))) D σ H :=
  hl σ H0 H n g.ex _ fun v H1 e1 r1 => by
    obtain ⟨a, xs, rfl, ea, t'⟩ := Tp.lst_inv r1
    have g1 := g.mono e1
    refine ⟨a, rfl, ⟨xs, SqL.of (g1.ex _ _ ea)⟩, ?_⟩
    refine for_list (xs := xs) (fun k σ' H' => But j σ σ' ∧ I H' ∧ Grown H0 H' p ((acc ++ (ys.take k).map f).map enc)) ⟨But.refl j σ, kE _ _ hI e1, by simpa using g1⟩ (fun k σ' H' _ pv => SqL.of (pv.2.2.ex _ _ ea)) (fun k x σ' H' hx pv => ?_) (fun σ' H' pv => ?_)
    · obtain ⟨bt, hI', g'⟩ := pv
      obtain ⟨d, hd, td⟩ := t'.getV hx
      rw [List.getElem?_map] at hd
      cases hyk : ys[k]? with
      | none => rw [hyk] at hd; cases hd
      | some y =>
        rw [hyk] at hd
        cases hd
        have hm : y ∈ ys := List.mem_of_getElem? hyk
        have n' := (bt.env n).of g'
        obtain ⟨h0, e0, vs, F, hv, o, nD, fr⟩ := id g'
        refine hto _ H' (bt.set _) hI' _ ⟨.inl ⟨rfl, vs, SqL.of hv⟩, ?_⟩
        refine he y hm _ H' (n'.set j (z := .d (enc y)) (td.mono g'.ex)) _ fun w H2 e2 nw => ?_
        obtain ⟨vs', hv', hl', g2⟩ := g'.push e2 nw
        refine ⟨p, vs', w, rfl, rfl, hv', sz_lt (by rw [hl', List.length_map, List.length_append, List.length_map, List.length_take]; have := (List.getElem?_eq_some_iff.mp hyk).1; omega), bt.set _, kU _ _ (kE _ _ hI' e2), ?_⟩
        rw [List.take_add_one, hyk]
        simpa using g2
    · obtain ⟨bt, hI', g'⟩ := pv
      rw [t'.len, List.length_map, List.take_length] at g'
      exact done σ' H' bt hI' g'
/-- x = (a, [], c) -/
theorem q_setTupE {k : Nat} {a c : PyData} (h1 : VD K ta ρ a) (h3 : VD K tc ρ c) (n : Env K H σ ρ)
    (q : ∀ (x y : V) (p t : Addr) (H1 H' : Hp), Ex H H1 → Tp H1 x a → H1 p = none → Grown H1 H' p [] → t ≠ p → H' t = some (.tup [x, .ref p, y]) → Tp H' y c → Env K H1 σ ρ → u D (σ.set k (some (.ref t))) H') : tSeq (tAsg (tTup (tCons ta (tCons (tLst tNil) (tCons tc tNil)))) (gName k)) u D σ H :=
  h1 σ H n _ fun x H1 e1 r1 => ⟨Nat.zero_le _, fun p hp => h3 σ _ (n.mono (e1.trans (Ex.new hp))) _ fun y H2 e2 r3 => ⟨(show 3 ≤ sizeLine by decide), fun t ht => by
    have gr := grown_start hp (Ex.new (o := .lst []) hp) upd_same
    have hp2 := e2 _ _ (upd_same (H := H1) (a := p) (o := .lst []))
    refine q x y p t H1 _ e1 r1 hp ((gr.mono e2).mono (Ex.new ht)) (fun e => ?_) upd_same (r3.mono (Ex.new ht)) (n.mono e1)
    rw [← e, ht] at hp2
    cases hp2⟩⟩
end
end DF
namespace DF
open Enc (enc)
open PySem PySem.Spec PyProof.Rows L2 Evl RT
section
variable {K : PySem.W.Frag} {ρ : Rho} {te : TE} {z : Ent} {H : Hp} {σ : L2.St} {D : Ends}
theorem s_setV {i : Nat} (h : VE K te ρ z) (n : Env K H σ ρ) (k : ∀ v H', Ex H H' → Rep K H' v z → Env K H' (σ.set i (some v)) (ρ.set i (some z)) → D.nx (σ.set i (some v)) H') : tAsg te (gName i) D σ H :=
  h σ H n _ fun v H' e w => k v H' e w ((n.mono e).set i w)
end
end DF

namespace DF
open Enc (enc)
open PySem PySem.Spec PyProof.Rows L2 Evl RT
section
variable {K : PySem.W.Frag} {ρ : Rho} {te ta tb tc tl to ti : TE} {tt : TT} {z : Ent} {H H0 H' H1 : Hp} {σ : L2.St} {D : Ends} {t u : TS} {v w : V} {a p : Addr} {xs : List V} {i : Int} {g : TG} {d : PyData} {acc : List PyData}
theorem q_growLEV {α β : Type} [Enc α] [Enc β] {ys : List α} {acc : List β} {j : Nat} (I : Hp → Prop) (f : α → β) (hto : ∀ σ' H', But j σ σ' → I H' → Val to σ' H' (.ref p)) (kE : ∀ H1 H2, I H1 → Ex H1 H2 → I H2) (kU : ∀ H1 o, I H1 → I (upd H1 p o))
    (hl : VS K tl ρ (enc ys)) (hz : acc.length + ys.length ≤ 20000) (hI : I H) (g : Grown H0 H p (acc.map enc)) (n : Env K H0 σ ρ)
    (he : ∀ x ∈ ys, VN K te ((ρ.set j none).set j (some (.d (enc x)))) (enc (f x)))
    (done : ∀ σ' H', But j σ σ' → I H' → Grown H0 H' p ((acc ++ ys.map f).map enc) → u D σ' H') : tSeq (tFor (iList K tl) (gName j) (tDrop (tBM K "list" rAppend to (tCons te tNil)))) u D σ H :=
  s_growLEV (D := { D with nx := u D }) I f hto kE kU hl hz hI g n he done
/-- x = (a, [], c), c a value that stands already -/
theorem q_setTupS {k : Nat} {a c : PyData} (h1 : VD K ta ρ a) (h3 : VS K tc ρ c) (n : Env K H σ ρ)
    (q : ∀ (x y : V) (p t : Addr) (H1 H' : Hp), Ex H H1 → Tp H1 x a → H1 p = none → Grown H1 H' p [] → t ≠ p → H' t = some (.tup [x, .ref p, y]) → Tp H1 y c → Env K H1 σ ρ → u D (σ.set k (some (.ref t))) H') : tSeq (tAsg (tTup (tCons ta (tCons (tLst tNil) (tCons tc tNil)))) (gName k)) u D σ H :=
  h1 σ H n _ fun x H1 e1 r1 => ⟨Nat.zero_le _, fun p hp => h3 σ H1 _ (n.mono e1) (Ex.new hp) _ fun y H2 e2 r3 => ⟨(show 3 ≤ sizeLine by decide), fun t ht => by
    have gr := grown_start hp (Ex.new (o := .lst []) hp) upd_same
    have hp2 := e2 _ _ (upd_same (H := H1) (a := p) (o := .lst []))
    refine q x y p t H1 _ e1 r1 hp ((gr.mono e2).mono (Ex.new ht)) (fun e => ?_) upd_same r3 (n.mono e1)
    rw [← e, ht] at hp2
    cases hp2⟩⟩
end
theorem mod_both {a b : Int} (ha : 0 < a) (hb : 0 < b) : 0 < (if a < b then a else b) ∧ (if a < b then a else b) ≤ a ∧ (if a < b then a else b) ≤ b := by
  split <;> omega
end DF

namespace HotL
open PySem PySem.Spec PyProof.Rows HotX
section
variable {prog : Program} {w : World} {A : Around} {E : Value → Shared → Prop} {s : Shared}
theorem pyNext_list_end_hot {it l x1 : Addr} {i : Nat} {items} {Q : Option Value → Shared → Prop} (hot : HotAt A x1 s.heap) (hne : x1 ≠ it)
    (hit : s.heap.IsListIter it l i) (hl : s.heap.IsList l items) (hx : items[i]? = none)
    (hQ : ∀ h', Heap.ExtBut it s.heap h' → Q none { s with heap := h' }) : wpAny (model prog w) A (pyNext (.ref it)) Q E s := by
  obtain ⟨o, ho, hc, hd⟩ := id hit
  obtain ⟨ol, hol, _, nl, hdl⟩ := hl
  obtain ⟨hh, o1, vs1, h1, d1, c1⟩ := hot
  unfold pyNext
  refine wpAny_bind (wpAny_attempt (wpAny_callSpecial?_slot (name := Str.ofString "__next__") hit.typeIs slot_listiter_next
    (wpAny_call_entry slot_listiter_next hit.typeIs entry_listiter_next ?_ (args_listiter_next _))))
  show wpAny _ _ (field (.ref it) 0 >>= _) _ _ s
  refine wpAny_bind (wpAny_field ho hd (x := .ref l) rfl ?_)
  show wpAny _ _ (if (Value.ref l == Value.none) = true then _ else _) _ _ s
  rw [if_neg (show ¬ ((Value.ref l == Value.none) = true) from Bool.false_ne_true)]
  show wpAny _ _ (field (.ref it) 1 >>= _) _ _ s
  refine wpAny_bind (wpAny_field ho hd (x := .int i 0) rfl ?_)
  show wpAny _ _ (seqItems? (.ref l) >>= _) _ _ s
  refine wpAny_bind (wpAny_seqItems hol hdl ?_)
  simp only [Int.toNat_natCast, hx]
  refine wpAny_bind (wpAny_rule (wpAny_bind (wpAny_setField ho hd (by simp) ?_)))
  show wpAny _ _ (newExc (.type "StopIteration") [] >>= _) _ _ _
  refine wpAny_bind ?_
  simp only [newExc, newTuple]
  refine wpAny_bind (wpAny_newObj_type ?_ (by size_fits))
  refine wpAny_bind (m := firstArgMember _ _) (wpAny_of_eq (a := Value.none) (by first | rfl | (simp only [firstArgMember]; rfl)) ?_)
  refine wpAny_newObj_type ?_ (by size_fits)
  have h1' := (Heap.get?_update_other s.heap (Obj.mapFields (·.setIfInBounds 0 Value.none)) (Ne.symm hne)).trans h1
  refine raiseNew_hot ⟨hh, o1, vs1, Heap.get?_push_of_some _ (Heap.get?_push_of_some _ h1'), d1, c1⟩ (Nat.ne_of_lt (Heap.lt_size (Heap.get?_push_of_some _ h1'))) (Heap.get?_push_size _ rfl) rfl (by first | (simp; done) | (simp; omega) | (simp only [Array.size_append]; simp; omega)) ?_
  refine wpAny_bind (wpAny_isInstance (T := "StopIteration") (b := true) ⟨_, Heap.get?_update_self _ (Heap.get?_push_size _ rfl) rfl, rfl⟩ isSubtype_stop ?_)
  refine wpAny_pure (hQ _ fun b o hb e => ?_)
  have e' := (((Heap.SameBut.update ..).extBut (a := it) (h := s.heap)) : Heap.ExtBut it s.heap (s.heap.update it (Obj.mapFields (·.setIfInBounds 0 Value.none)))) b o hb e
  rw [Heap.get?_update_other _ _ (Nat.ne_of_gt (Heap.lt_size (Heap.get?_push_of_some _ e')))]
  exact Heap.get?_push_of_some _ (Heap.get?_push_of_some _ e')
theorem walks_listH {x1 I ax : Addr} (hh : A.handled = some (.ref x1)) (hne : ax ≠ I) (hx1 : x1 ≠ I) (items : Array Value) :
    Walks prog w A I [I, ax, x1] [I] items.size (fun i v => items[i]? = some v) (fun i h => h.IsListIter I ax i ∧ h.IsList ax items ∧ HotAt A x1 h) where
  sub := fun b hb => by simp at hb; simp [hb]
  frame := fun _ _ _ st hk => ⟨st.1.at fun o e => hk I (by simp) o e, st.2.1.at fun o e => hk ax (by simp) o e, by
    obtain ⟨h0, o, vs, h1, d1, c1⟩ := st.2.2
    exact ⟨h0, o, vs, hk x1 (by simp) _ h1, d1, c1⟩⟩
  item := fun i s Q E hi st hQ => by
    refine wpAny_pyNext_list_item st.1 st.2.1 (x := items[i]) (by simp [hi]) fun h' hit' hs' => ?_
    refine hQ _ h' s.toks (by simp [hi]) ⟨hit', st.2.1.extBut hs'.extBut hne, ?_⟩ fun b o hb e => hs'.extBut b o (fun h => hb (by simp [h])) e
    obtain ⟨h0, o, vs, h1, d1, c1⟩ := st.2.2
    exact ⟨h0, o, vs, hs'.extBut _ _ hx1 h1, d1, c1⟩
  done := fun s Q E st hQ => pyNext_list_end_hot st.2.2 hx1 st.1 st.2.1 (by simp) fun h' he' => hQ h' s.toks fun b o hb e => he' b o (fun h => hb (by simp [h])) e
  self := fun _ _ _ _ st hQ => wpAny_pyIter_listiter st.1 hQ
end
open L2
theorem cr_anyH {X : Cx} {K : PySem.W.Frag} (hc : L2H.HotC X) (h : X.K = K := by rfl) : CallR X (.builtin "any") (rAny K) := by
  subst h
  intro pins s σ H vs us Q I r h
  obtain ⟨a, bs, rfl, hs, q⟩ := h
  obtain ⟨its, rv, hl, _⟩ := I.list hs
  rw [Vals.ref1 r]
  have hb := rv.bls
  obtain ⟨x1, hh, o1, vs1, h1, d1, c1⟩ := hc.at I
  refine call_any_walk (iter_any hl.isList fun s₂ e2 st hne => ?_)
  subst e2
  refine ⟨_, _, _, _, _, _, _, rfl, walks_listH (A := X.A.in1) (x1 := x1) hh hne (Nat.ne_of_lt (Heap.lt_size h1)) its.toArray, ⟨st.1, st.2, hh, o1, vs1, Heap.get?_push_of_some _ h1, d1, c1⟩, truth_bools hb, fun h' tk hk => ?_⟩
  refine ⟨.bl _, H, I.kept fun b o eo => hk b o (fun hmem => ?_) (Heap.get?_push_of_some _ eo), ?_, q⟩
  · rcases List.mem_cons.mp hmem with e1 | hmem
    · exact absurd (e1 ▸ Heap.lt_size eo) (Nat.lt_irrefl _)
    · cases hmem
  · show Value.bool _ = Value.bool _
    rw [← L2.any_range, hb, List.size_toArray, List.length_map]
end HotL
namespace DF
open Enc (enc)
open PySem PySem.Spec PyProof.Rows L2 Evl RT
/-! ### own errors -/
/-- the error's class at C, named x, the others beside it, over one base class at L -/
structure FitX (K : PySem.W.Frag) (mg : Str → Option Value) (x x1 x2 x3 : Str) (L C a1 a2 a3 : Addr) : Prop where
  gL : mg "LoomError" = some (.ref L)
  g : mg x = some (.ref C)
  g1 : mg x1 = some (.ref a1)
  g2 : mg x2 = some (.ref a2)
  g3 : mg x3 = some (.ref a3)
  gV : mg "ValueError" = none
  ex : PySem.W.excIn K C [.type "ValueError", .type "Exception", .type "BaseException", .type "object"] "ValueError.__new__" = true
  kp : PySem.W.keepIn K (.ref C) = true
  sb : PySem.W.subIn K (.ref C) (.type "BaseException") = some true
  ty : PySem.W.typeIn K (.ref C) = some (.type "type")
  lb : PySem.W.subIn K (.ref L) (.type "BaseException") = some true
  ld : PySem.W.hasDictIn K L = true
  lt : PySem.W.typeIn K (.ref L) = some (.type "type")
  up : PySem.W.subIn K (.ref C) (.ref L) = some true
  i0 : PySem.W.kitOne K (.ref C) (.ref C) = some true
  i1 : PySem.W.kitOne K (.ref C) (.ref a1) = some false
  i2 : PySem.W.kitOne K (.ref C) (.ref a2) = some false
  i3 : PySem.W.kitOne K (.ref C) (.ref a3) = some false
  iV : PySem.W.kitOne K (.ref C) (.type "ValueError") = some true
  ec : ExcC K C
theorem FitX.caught {K : PySem.W.Frag} {mg : Str → Option Value} {x x1 x2 x3 : Str} {L C a1 a2 a3 : Addr} (e : FitX K mg x x1 x2 x3 L C a1 a2 a3) : PySem.W.exmOne K (.ref C) (.ref L) = some true := PySem.W.exm_ref e.lb e.ld e.lt e.up
/-- a def that tells data of its own, or raises an error of the class at C -/
def spX (K : PySem.W.Frag) (R : List Ent → PyData → Prop) (S : List Ent → Addr → Prop) : Sp := fun vs H Q E =>
  ∃ zs, RepAll K H vs zs ∧ ((∃ r, R zs r ∧ ∀ v H', Ex H H' → New H H' v r → Q v H') ∨ ∃ C, S zs C ∧ ∀ H', Ex H H' → E (.ref C) none H')
section
variable {P : Program} {w : World} {K : PySem.W.Frag} {mg : Str → Option Value} {base : Heap}
theorem okXN {x qual : Str} {st : Stmt} {f : Addr} {fd : FuncData} {N ps : List Str} {k : Nat} {sp : Sp} (F : Fun K x qual st f fd) (S : FnScope N ps (defScope st)) (len : ∀ vs H Q E, sp vs H Q E → vs.length = ps.length)
    (hbody : ∀ (cdv : Value) (A : Around) (outer : List PySem.Env) (s : Shared) (H : Hp) (vs : List V) (Q : VK) (E : XK), Room k (A.deeper (envOfC qual (defScope st) s.heap.objs.size f cdv)) → sp vs H Q E →
      ∃ t, PSs (cxOf (L2N.CX P w) P w K mg base N qual (defScope st) f cdv A outer s H E) (defBody st) t ∧ t { nx := fun _ H' => Q .non H', rt := Q } (start N vs) H) : FnOk P w K mg base (L2N.CX P w) (k + 1) f fd ps sp := by
  obtain ⟨oc, od, kV, doc, pm, an, cdv, ct, osl, rfl, lk, hcd⟩ := F.ex
  exact fn_of lk hcd S len fun A outer s H vs Q E hr hsp => hbody cdv A outer s H vs Q E hr hsp
theorem takes0N {X : Cx} : L2N.Takes X (fun _ _ _ _ => False) := fun _ _ x => by
  obtain ⟨_, _, _, _, _, _, _, _, _, _, _, _, _, _, _, _, z⟩ := x
  exact z.elim
theorem hot_of {X : Cx} {a : Addr} {oe : Obj} {cls : Value} {d : Option Addr} {pn : List (Addr × Obj)} (hz : L2N.Zn cls d oe) (hf : ∃ vs, oe.data = .fields vs) : L2H.HotC (X.suite a ((a, oe) :: pn)) := by
  obtain ⟨vs, hv⟩ := hf
  exact ⟨(a, oe), ⟨rfl, vs, hv, hz.2.2 vs hv⟩, List.mem_cons_self⟩
theorem cal_spX {x : Str} {st : Stmt} {N ps : List Str} {k : Nat} {sp : Sp} (D : Dfn K mg x st ps) (S : FnScope N ps (defScope st)) (len : ∀ vs H Q E, sp vs H Q E → vs.length = ps.length)
    (hbody : ∀ (f : Addr) (cdv : Value) (A : Around) (outer : List PySem.Env) (s : Shared) (H : Hp) (vs : List V) (Q : VK) (E : XK), Room k (A.deeper (envOfC x (defScope st) s.heap.objs.size f cdv)) → sp vs H Q E →
      ∃ t, PSs (cxOf (L2N.CX P w) P w K mg base N x (defScope st) f cdv A outer s H E) (defBody st) t ∧ t { nx := fun _ H' => Q .non H', rt := Q } (start N vs) H) : Cal P w K mg base (L2N.CX P w) (k + 1) x ps sp := by
  obtain ⟨f, fd, hm, F, b⟩ := D
  exact ⟨f, fd, hm, okXN F S len (hbody f), F.kp, b⟩
theorem pe_calX {X : Cx} (P : Program) (w : World) (mg : Str → Option Value) (base : Heap) {W : WX} {k : Nat} {x : Str} {ps : List Str} {sp : Sp} {p pos : Pos} {e : Expr} {es : List Expr} {t : TA} (C : Cal P w K mg base (L2N.CX P w) k x ps sp) (hr : Room k X.A) (tk : L2N.Takes X W) (hg : Gl X x) (ha : PA X (e :: es) t)
    (h1 : X.prog = P := by rfl) (h2 : X.w = w := by rfl) (h3 : X.K = K := by rfl) (h4 : X.mg = mg := by rfl) (h5 : X.base = base := by rfl)
    (hdb : (x == ("__debug__" : Str)) = false := by decide) (he : starEach (e :: es) X.env = (false, eval e X.env) :: starEach es X.env := by rfl) (hpl : (backTo pos (starEach es X.env)).any (·.1) = false := by rfl) :
    PE X (.Call (.Name x p) (e :: es) [] pos) (tCallS sp (WE W) t) := by
  subst h1 h2 h3 h4 h5
  obtain ⟨f, fd, hm, F, kp, b⟩ := C
  exact pe_callS F hr hg hm kp b (fun σ => L2N.passAt tk σ) ha hdb he hpl
/-- isinstance(e, X), e the error that the suite holds -/
def rIsX (K : PySem.W.Frag) (a : Addr) (cls : Value) (d : Option Addr) : List V → Hp → VK → Prop := fun xs H Q => ∃ D, cls = .ref D ∧ d = none ∧ ExcC K D ∧ rIsE K D a xs H Q
theorem call_isX {X : Cx} {a : Addr} {oe : Obj} {cls : Value} {d : Option Addr} {pn : List (Addr × Obj)} (hz : L2N.Zn cls d oe) (hf : ∃ vs, oe.data = .fields vs) (h : X.K = K := by rfl) : CallR (X.suite a ((a, oe) :: pn)) (.builtin "isinstance") (rIsX K a cls d) := by
  subst h
  intro pins s σ H xs us Q I r hh
  obtain ⟨D, rfl, rfl, C, q⟩ := hh
  exact call_isE C hz.zc hf pins s σ H xs us Q I r q
end
section
variable {K : PySem.W.Frag} {ρ : Rho} {te ta tb tc tl to ti : TE} {tt : TT} {z : Ent} {H H0 H' H1 : Hp} {σ : L2.St} {D : Ends} {t u : TS} {v w : V} {a p : Addr} {xs : List V} {i : Int} {g : TG} {d : PyData} {acc : List PyData} {b : Bool}
theorem New.lst1 {H2 : Hp} (w : New H H2 v d) (hp : H2 p = none) (e : Ex H H2) : New H (upd H2 p (.lst [v])) (.ref p) (.list [d]) := by
  obtain ⟨F, o, f⟩ := w
  have o1 := OwnAll.cons (o.mono (Ex.new (o := .lst [v]) hp)) .nil fun a _ z => nomatch z
  rw [List.append_nil] at o1
  refine ⟨p :: F, .lst upd_same o1 fun z => ?_, fun a ha => ?_⟩
  · obtain ⟨xs, hx⟩ := o.at_ p z
    rw [hp] at hx
    cases hx
  · rcases List.mem_cons.mp ha with rfl | ha
    · exact fresh_back e hp
    · exact f a ha
theorem v_isX {a C c : Addr} (hv : VE K ta ρ (.is (.ref a))) (ec : ExcC K C) (e : PySem.W.kitOne K (.ref C) (.ref c) = some b) : VD K (tCB (rIsX K a (.ref C) none) (tCons ta (tCons (tC (.ref c)) tNil))) ρ (.bool b) := fun σ H m Q q =>
  hv σ H m _ fun v H1 e1 r => by
    cases r
    exact ⟨C, rfl, rfl, ec, .ref c, .ref c, b, rfl, fun u h => h, e, q _ H1 e1 (.bl _)⟩
theorem v_isXT {a C : Addr} {T : String} (hv : VE K ta ρ (.is (.ref a))) (ec : ExcC K C) (e : PySem.W.kitOne K (.ref C) (.type T) = some b) : VD K (tCB (rIsX K a (.ref C) none) (tCons ta (tCons (tC (.ty T)) tNil))) ρ (.bool b) := fun σ H m Q q =>
  hv σ H m _ fun v H1 e1 r => by
    cases r
    exact ⟨C, rfl, rfl, ec, .ty T, .type T, b, rfl, fun u h => h, e, q _ H1 e1 (.bl _)⟩
/-- a call that may raise, told for its own sake -/
theorem q_callX {R : List Ent → PyData → Prop} {S : List Ent → Addr → Prop} {E : L2.St → XK} {ta : TA} {zs : List Ent} (ha : AE K ta ρ zs) (n : Env K H σ ρ) (h : (∃ d, R zs d ∧ ∀ H', Ex H H' → u D σ H') ∨ ∃ C, S zs C ∧ ∀ H', Ex H H' → E σ (.ref C) none H') :
    tSeq (tDrop (tCallS (spX K R S) E ta)) u D σ H := ha σ H n _ fun vs H1 e1 r1 => ⟨zs, r1, h.elim (fun ⟨d, hR, k⟩ => .inl ⟨d, hR, fun v H' e2 _ => k H' (e1.trans e2)⟩) fun ⟨C, hS, k⟩ => .inr ⟨C, hS, fun H' e2 => k H' (e1.trans e2)⟩⟩
/-- return [f(..)], f may raise -/
theorem s_retX {R : List Ent → PyData → Prop} {S : List Ent → Addr → Prop} {E : L2.St → XK} {ta : TA} {zs : List Ent} (ha : AE K ta ρ zs) (n : Env K H σ ρ) (h : (∃ d, R zs d ∧ ∀ v H', Ex H H' → New H H' v d → D.rt v H') ∨ ∃ C, S zs C ∧ ∀ H', Ex H H' → E σ (.ref C) none H') :
    tRet (tCallS (spX K R S) E ta) D σ H := ha σ H n _ fun vs H1 e1 r1 => ⟨zs, r1, h.elim (fun ⟨d, hR, k⟩ => .inl ⟨d, hR, fun v H' e2 w => k v H' (e1.trans e2) (w.back e1)⟩) fun ⟨C, hS, k⟩ => .inr ⟨C, hS, fun H' e2 => k H' (e1.trans e2)⟩⟩
theorem s_retLX {R : List Ent → PyData → Prop} {S : List Ent → Addr → Prop} {E : L2.St → XK} {ta : TA} {zs : List Ent} (ha : AE K ta ρ zs) (n : Env K H σ ρ) (h : (∃ d, R zs d ∧ ∀ v H', Ex H H' → New H H' v (.list [d]) → D.rt v H') ∨ ∃ C, S zs C ∧ ∀ H', Ex H H' → E σ (.ref C) none H') :
    tRet (tLst (tCons (tCallS (spX K R S) E ta) tNil)) D σ H := ha σ H n _ fun vs H1 e1 r1 => ⟨zs, r1, h.elim (fun ⟨d, hR, k⟩ => .inl ⟨d, hR, fun v H2 e2 w => ⟨sz_of (by simp), fun p hp => by
    exact k (.ref p) _ (e1.trans (e2.trans (Ex.new hp))) ((w.lst1 hp e2).back e1)⟩⟩) fun ⟨C, hS, k⟩ => .inr ⟨C, hS, fun H' e2 => k H' (e1.trans e2)⟩⟩
end
end DF

namespace DF
open Enc (enc)
open PySem PySem.Spec PyProof.Rows L2 Evl RT
/-! ### cloths sewn -/
theorem enc_inj {α : Type} [Enc α] {a b : α} (h : enc a = enc b) : a = b := (Enc.eqv_enc a b).mp (by rw [h]; exact (Enc.eqv_enc b b).mpr rfl)
theorem two_inj {α β : Type} [Enc α] [Enc β] {a a' : α} {b b' : β} {zs : List Ent} (h : (Ent.d (enc a) :: Ent.d (enc b) :: zs) = (Ent.d (enc a') :: Ent.d (enc b') :: zs)) : a = a' ∧ b = b' := by
  injection h with h1 h2
  injection h2 with h2 _
  injection h1 with h1
  injection h2 with h2
  exact ⟨enc_inj h1, enc_inj h2⟩
def beside (a b : Cl) : Cl := (List.range a.length).map fun k => a.getD k default ++ b.getD k default
def fitted (c : Cl) (m n : Nat) : Cl := (List.range m).map fun k => (List.range n).map fun j => (c.getD (k % c.length) default).getD (j % (c.getD (k % c.length) default).length) default
def rep {α : Type} (xs : List α) (k : Nat) : List α := (List.replicate k xs).flatten
def repeated (c : Cl) (d a : Nat) : Cl := (rep c d).map fun row => rep row a
theorem rep_len {α : Type} (xs : List α) : ∀ k : Nat, (rep xs k).length = xs.length * k
  | 0 => by simp [rep]
  | k + 1 => by
    have := rep_len xs k
    unfold rep at this ⊢
    rw [List.replicate_succ, List.flatten_cons, List.length_append, this, Nat.mul_succ]
    omega
theorem rep_at {α : Type} [Inhabited α] (xs : List α) : ∀ (k i : Nat), i < xs.length * k → (rep xs k).getD i default = xs.getD (i % xs.length) default
  | 0, i, h => by simp at h
  | k + 1, i, h => by
    have ih := rep_at xs k (i - xs.length)
    unfold rep at ih ⊢
    rw [List.replicate_succ, List.flatten_cons]
    by_cases hi : i < xs.length
    · rw [Nat.mod_eq_of_lt hi, List.getD_eq_getElem?_getD, List.getElem?_append_left hi, List.getD_eq_getElem?_getD]
    · rw [List.getD_eq_getElem?_getD, List.getElem?_append_right (by omega), ← List.getD_eq_getElem?_getD, ih (by have e := Nat.mul_succ xs.length k; rw [e] at h; omega), ← Nat.mod_eq_sub_mod (show i ≥ xs.length by omega)]
theorem repeated_fitted {c : Cl} (g : Good c) (d a : Nat) : repeated c d a = fitted c (c.length * d) ((c.getD 0 default).length * a) := by
  have h0 := g.pos
  refine getD_ext (by unfold repeated fitted; rw [List.length_map, rep_len, List.length_map, List.length_range]) fun k hk => ?_
  have hk' : k < c.length * d := by simpa [fitted] using hk
  unfold repeated fitted
  rw [getD_map _ _ _ (by rw [rep_len]; exact hk'), getD_map _ _ _ (by simpa using hk'), List.getElem_range, ← getD_lt (by rw [rep_len]; exact hk'), rep_at _ _ _ hk']
  have hm : k % c.length < c.length := Nat.mod_lt _ h0
  have hr : (c.getD (k % c.length) default).length = (c.getD 0 default).length := g.rows _ (g.at_ (k := k % c.length) hm)
  refine getD_ext (by rw [rep_len, List.length_map, List.length_range, hr]) fun j hj => ?_
  have hj' : j < (c.getD 0 default).length * a := by simpa using hj
  rw [rep_at _ _ _ (by rw [hr]; exact hj'), getD_map _ _ _ (by simpa using hj'), List.getElem_range]
def besideFits (a b : Cl) : Bool := decide ((a.length : Int) = (b.length : Int)) && decide (((a.getD 0 default).length : Int) + ((b.getD 0 default).length : Int) ≤ 60)
def behindFits (a b : Cl) : Bool := decide (((a.getD 0 default).length : Int) = ((b.getD 0 default).length : Int)) && decide ((a.length : Int) + (b.length : Int) ≤ 60)
def repFits (a : Cl) (d k : Int) : Bool := decide ((a.length : Int) * d ≤ 60) && decide (((a.getD 0 default).length : Int) * k ≤ 60)
def dueC (which : Int) (a b : Cl) (d k : Int) : Option Cl :=
  if which = 0 then (if besideFits a b = true then some (beside a b) else none)
  else if which = 1 then (if behindFits a b = true then some (a ++ b) else none)
  else if repFits a d k = true then some (fitted a ((a.length : Int) * d).toNat (((a.getD 0 default).length : Int) * k).toNat) else none
def encOC : Option Cl → PyData
  | none => .none
  | some c => enc c
def encTold : Option Cl → PyData
  | none => .list [.bool true, .str "refused"]
  | some c => .list [enc c]
def Small (c : Cl) : Prop := c.length ≤ 60 ∧ ∀ row ∈ c, row.length ≤ 60
theorem dueC_small {which : Int} {a b : Cl} {d k : Int} (ga : Good a) (gb : Good b) (hd : 1 ≤ d) (hk : 1 ≤ k) {c : Cl} (h : dueC which a b d k = some c) : Small c := by
  unfold dueC at h
  split at h
  · split at h
    · rename_i q
      cases h
      unfold besideFits at q
      simp only [Bool.and_eq_true, decide_eq_true_eq] at q
      refine ⟨by unfold beside; rw [List.length_map, List.length_range]; exact ga.len.2, fun row hr => ?_⟩
      obtain ⟨i, hi, rfl⟩ := List.mem_map.mp hr
      have hi' : i < a.length := by simpa using hi
      have r1 := ga.rows _ (ga.at_ (k := i) hi')
      have r2 := gb.rows _ (gb.at_ (k := i) (by omega))
      rw [List.length_append, r1, r2]
      omega
    · cases h
  · split at h
    · split at h
      · rename_i q
        cases h
        unfold behindFits at q
        simp only [Bool.and_eq_true, decide_eq_true_eq] at q
        refine ⟨by rw [List.length_append]; omega, fun row hr => ?_⟩
        rcases List.mem_append.mp hr with h | h
        · exact (ga.row h).2
        · exact (gb.row h).2
      · cases h
    · split at h
      · rename_i q
        cases h
        unfold repFits at q
        simp only [Bool.and_eq_true, decide_eq_true_eq] at q
        refine ⟨by unfold fitted; rw [List.length_map, List.length_range]; omega, fun row hr => ?_⟩
        obtain ⟨i, hi, rfl⟩ := List.mem_map.mp hr
        rw [List.length_map, List.length_range]
        omega
      · cases h
theorem fitted_good {c : Cl} (g : Good c) {m n : Nat} (hm : 1 ≤ m ∧ m ≤ 60) (hn : 1 ≤ n ∧ n ≤ 60) : Good (fitted c m n) := by
  have h0 := g.pos
  have e0 : ((fitted c m n).getD 0 default).length = n := by
    unfold fitted
    rw [getD_map _ _ _ (by simp; omega)]
    simp
  refine ⟨by unfold fitted; simp; omega, fun row hr => ?_, by rw [e0]; exact hn, fun row hr x hx => ?_⟩
  · rw [e0]
    obtain ⟨i, hi, rfl⟩ := List.mem_map.mp hr
    simp
  · obtain ⟨i, hi, rfl⟩ := List.mem_map.mp hr
    obtain ⟨j, hj, rfl⟩ := List.mem_map.mp hx
    have hm : i % c.length < c.length := Nat.mod_lt _ h0
    have hr := g.at_ (k := i % c.length) hm
    have hl := (g.row hr).1
    have hj : j % (c.getD (i % c.length) default).length < (c.getD (i % c.length) default).length := Nat.mod_lt _ (by omega)
    exact g.bits _ hr _ (by rw [getD_lt hj]; exact List.getElem_mem hj)
section
variable {K : PySem.W.Frag} {ρ ρ' : Rho} {te ta tb tc tl to ti : TE} {tt : TT} {z : Ent} {H H0 H' H1 : Hp} {σ : L2.St} {D : Ends} {t u : TS} {v w : V} {a p : Addr} {xs : List V} {i : Int} {g : TG} {d : PyData} {acc : List PyData} {b : Bool}
theorem q_callV (h : VE K te ρ z) (n : Env K H σ ρ) (k : ∀ H', Ex H H' → u D σ H') : tSeq (tDrop te) u D σ H := h σ H n _ fun v H' e w => k H' e
theorem q_callN (h : VN K te ρ d) (n : Env K H σ ρ) (k : ∀ H', Ex H H' → u D σ H') : tSeq (tDrop te) u D σ H := q_callV h.toD n k
theorem s_retN (h : VN K te ρ d) (n : Env K H σ ρ) (k : ∀ v H', Ex H H' → New H H' v d → D.rt v H') : tRet te D σ H := h σ H n _ fun v H' e w => k v H' e w
theorem tpAll_rep {H : Hp} {vs : List V} {ds : List PyData} (h : TpAll H vs ds) : ∀ k : Nat, TpAll H (List.replicate k vs).flatten (rep ds k)
  | 0 => .nil
  | k + 1 => by
    have := (tpAll_rep h k).append h
    unfold rep at this ⊢
    rw [List.replicate_succ, List.replicate_succ, List.flatten_cons, List.flatten_cons]
    exact this
theorem v_rep {α : Type} [Enc α] {ns : List α} {k : Int} (ha : VD K ta ρ (enc ns)) (hb : VD K tb ρ (.int k)) (hk : 0 ≤ k ∧ k ≤ 100000) (hz : ns.length * k.toNat ≤ 100000) : VD K (tOp rRep ta tb) ρ (enc (rep ns k.toNat)) := v_two ha hb fun H u v Q r1 r2 q => by
  cases Tp.int_inv r2
  obtain ⟨a, xs, rfl, ea, t⟩ := Tp.lst_inv r1
  refine ⟨a, k, xs, rfl, rfl, ea, by omega, by omega, sz_of (by rw [t.len, List.length_map]; exact hz), fun p hp => q _ _ (Ex.new hp) (.lst upd_same ?_)⟩
  have := tpAll_rep t k.toNat
  rw [show rep (ns.map enc) k.toNat = (rep ns k.toNat).map enc by unfold rep; rw [List.map_flatten, List.map_replicate]] at this
  exact this.mono (Ex.new hp)
theorem n_repI {ns : List Int} {k : Int} (ha : VD K ta ρ (enc ns)) (hb : VD K tb ρ (.int k)) (hk : 0 ≤ k ∧ k ≤ 100000) (hz : ns.length * k.toNat ≤ 100000) : VN K (tOp rRep ta tb) ρ (enc (rep ns k.toNat)) := n_two ha hb fun H u v Q r1 r2 q => by
  cases Tp.int_inv r2
  obtain ⟨a, xs, rfl, ea, t⟩ := Tp.lst_inv r1
  refine ⟨a, k, xs, rfl, rfl, ea, by omega, by omega, sz_of (by rw [t.len, List.length_map]; exact hz), fun p hp => q _ _ (Ex.new hp) ?_⟩
  have := tpAll_rep t k.toNat
  rw [show rep (ns.map enc) k.toNat = (rep ns k.toNat).map enc by unfold rep; rw [List.map_flatten, List.map_replicate]] at this
  exact new_plain (H' := H) hp this plain_ints
theorem tpAll_plain {H B : Hp} : ∀ {xs : List V} {ds : List PyData}, TpAll H xs ds → (∀ d ∈ ds, plain d = true) → TpAll B xs ds
  | _, _, .nil, _ => .nil
  | _, _, .cons h1 h2, pl => .cons (Tp.plain (H' := B) h1 (pl _ List.mem_cons_self)).tp (tpAll_plain h2 fun d hd => pl d (List.mem_cons_of_mem _ hd))
/-- a loop over plain items, in which the list at p may grow -/
theorem q_loopE {ds : List PyData} {j : Nat} {js : List Nat} (f : PyData → List PyData) (hj : j ∈ js) (hl : VD K tl ρ (.list ds)) (pl : ∀ d ∈ ds, plain d = true) (g : Grown H0 H p []) (n : Env K H0 σ ρ)
    (body : ∀ B, Ex H0 B → ∀ x ∈ ds, ∀ (v : V) (pre : List PyData) (σ' : L2.St) (H' : Hp) (D' : Ends), pre.length ≤ (ds.flatMap f).length → Buts js σ σ' → Grown B H' p pre → Tp B v x → D'.rt = D.rt →
      (∀ σ2 H2, Buts js σ σ2 → Grown B H2 p (pre ++ f x) → D'.nx σ2 H2) → t D' (σ'.set j (some v)) H')
    (done : ∀ B, Ex H0 B → ∀ σ' H', Buts js σ σ' → Grown B H' p (ds.flatMap f) → u D σ' H') : tSeq (tFor (iList K tl) (gName j) t) u D σ H :=
  hl σ H (n.of g) _ fun v H1 e1 r1 => by
    obtain ⟨a, xs, rfl, ea, t'⟩ := Tp.lst_inv r1
    have g1 := g.mono e1
    obtain ⟨h0, e0, vs, F, hv, o, nD, fr⟩ := id g1
    cases o
    let B : Hp := fun x => if x = p then none else H1 x
    have eB : Ex B H1 := fun x o hx => by
      by_cases q : x = p
      · have : B x = none := if_pos q
        rw [this] at hx; cases hx
      · have : B x = H1 x := if_neg q
        rw [← this]; exact hx
    have e0B : Ex H0 B := fun x o hx => by
      have q : x ≠ p := fun q => by rw [q, h0] at hx; cases hx
      show (if x = p then none else H1 x) = some o
      rw [if_neg q]
      exact e0 x o hx
    have gB : Grown B H1 p [] := grown_start (if_pos rfl) eB hv
    have eaB : a ≠ p → B a = some (.lst xs) := fun q => (if_neg q).trans ea
    have tB : TpAll B xs ds := tpAll_plain t' pl
    by_cases hap : a = p
    · subst hap
      rw [hv] at ea
      cases ea
      cases t'
      refine ⟨a, rfl, ⟨[], SqL.of hv⟩, ?_⟩
      refine for_list (xs := []) (fun k σ' H' => Buts js σ σ' ∧ Grown B H' a []) ⟨Buts.refl js σ, gB⟩ (fun k σ' H' _ pv => ?_) (fun k x σ' H' hx pv => by cases hx) (fun σ' H' pv => done B e0B σ' H' pv.1 pv.2)
      obtain ⟨_, _, vs2, F2, hv2, o2, _, _⟩ := pv.2
      cases o2
      exact SqL.of hv2
    refine ⟨a, rfl, ⟨xs, SqL.of ea⟩, ?_⟩
    refine for_list (xs := xs) (fun k σ' H' => Buts js σ σ' ∧ Grown B H' p ((ds.take k).flatMap f)) ⟨Buts.refl js σ, gB⟩ (fun k σ' H' _ pv => SqL.of (pv.2.ex _ _ (eaB hap))) (fun k x σ' H' hx pv => ?_) (fun σ' H' pv => ?_)
    · obtain ⟨bt, g'⟩ := pv
      obtain ⟨d, hd, td⟩ := tB.getV hx
      have hm : d ∈ ds := List.mem_of_getElem? hd
      refine body B e0B d hm x _ σ' H' _ ?_ bt g' td rfl fun σ2 H2 b2 g2 => ⟨b2, ?_⟩
      · have : (ds.take k).flatMap f ++ (ds.drop k).flatMap f = ds.flatMap f := by rw [← List.flatMap_append, List.take_append_drop]
        rw [← this, List.length_append]
        omega
      · rw [List.take_add_one, hd, List.flatMap_append]
        simpa using g2
    · obtain ⟨bt, g'⟩ := pv
      rw [t'.len, List.take_length] at g'
      exact done B e0B σ' H' bt g'
theorem own_intsAt {H : Hp} {a : Addr} {row : List Int} (h : H a = some (.lst (row.map V.int))) : Own H (.ref a) (enc row) [a] := by
  have all : ∀ ns : List Int, OwnAll H (ns.map V.int) (ns.map enc) [] := fun ns => by
    induction ns with
    | nil => exact .nil
    | cons n ns ih => exact .cons (.int n) ih fun _ z => nomatch z
  exact .lst h (all row) fun z => nomatch z
theorem RowsAt.own {H : Hp} : ∀ {F : List Addr} {c : Cl}, RowsAt H F c → OwnAll H (F.map V.ref) (c.map enc) F
  | [], [], _ => .nil
  | [], _ :: _, r => by have := r.len; cases this
  | _ :: _, [], r => by have := r.len; cases this
  | a :: F, row :: c, r => by
    have h := OwnAll.cons (own_intsAt (r.at_ 0 a row rfl rfl)) (RowsAt.own (F := F) (c := c) ⟨(List.nodup_cons.mp r.nd).2, by have := r.len; simpa using this, fun i b z h1 h2 => r.at_ (i + 1) b z h1 h2⟩) (fun x hx hm => by
      rw [List.mem_singleton.mp hx] at hm
      exact (List.nodup_cons.mp r.nd).1 hm)
    exact h
theorem CAt.own {H : Hp} {a : Addr} {F : List Addr} {c : Cl} (h : CAt H a F c) : Own H (.ref a) (enc c) (a :: F) := .lst h.lst h.rows.own h.out
theorem atI_last {xs : List V} (h : xs ≠ []) : atI xs (-1) = some (xs.getLast h) := by
  have hl : 0 < xs.length := List.length_pos_iff.mpr h
  have e : ixN xs.length (-1) = some (xs.length - 1) := by
    unfold ixN
    rw [if_neg (by decide)]
    first
    | (rw [if_pos (by omega)]; congr 1; omega)
    | (split <;> first | (congr 1; omega) | omega)
  unfold atI
  rw [e]
  show xs[xs.length - 1]? = _
  rw [List.getLast_eq_getElem, List.getElem?_eq_getElem]
theorem val_neg {i : Int} (h : Val ta σ H (.int i)) : Val (tUn (rU fun i => .int (-i)) ta) σ H (.int (-i)) := fun Q q => h _ ⟨i, rfl, q⟩
end
end DF

namespace DF
open Enc (enc)
open PySem PySem.Spec PyProof.Rows L2 Evl RT
/-! ### drafts side by side -/
section
variable {α : Type} [DecidableEq α] [Inhabited α]
def firsts (xs : List α) : List α := xs.foldl (fun acc x => if x ∈ acc then acc else acc ++ [x]) []
theorem take_next {xs : List α} {k : Nat} (h : k < xs.length) : xs.take (k + 1) = xs.take k ++ [xs.getD k default] := by
  rw [List.take_add_one, List.getElem?_eq_getElem h, getD_lt h]; rfl
theorem firsts_next {xs : List α} {k : Nat} (h : k < xs.length) : firsts (xs.take (k + 1)) = if xs.getD k default ∈ firsts (xs.take k) then firsts (xs.take k) else firsts (xs.take k) ++ [xs.getD k default] := by
  rw [take_next h]
  unfold firsts
  rw [List.foldl_append]
  rfl
theorem firsts_in {xs : List α} {k : Nat} (h : k < xs.length) : xs.getD k default ∈ firsts (xs.take (k + 1)) := by
  rw [firsts_next h]
  split
  · assumption
  · simp
theorem firsts_lenK (xs : List α) : ∀ k : Nat, k ≤ xs.length → (firsts (xs.take k)).length ≤ k
  | 0, _ => by simp [firsts]
  | k + 1, h => by
    have := firsts_lenK xs k (by omega)
    rw [firsts_next (by omega)]
    split
    · omega
    · rw [List.length_append]; simp; omega
theorem firsts_subK (xs : List α) : ∀ k : Nat, k ≤ xs.length → ∀ x ∈ firsts (xs.take k), x ∈ xs
  | 0, _, x, h => by simp [firsts] at h
  | k + 1, hk, x, h => by
    rw [firsts_next (by omega)] at h
    split at h
    · exact firsts_subK xs k (by omega) x h
    · rcases List.mem_append.mp h with h | h
      · exact firsts_subK xs k (by omega) x h
      · rw [List.mem_singleton.mp h, getD_lt (show k < xs.length by omega)]
        exact List.getElem_mem _
theorem firsts_pre (xs : List α) {k : Nat} : ∀ m : Nat, k + m ≤ xs.length → ∃ r, firsts (xs.take (k + m)) = firsts (xs.take k) ++ r
  | 0, _ => ⟨[], by simp⟩
  | m + 1, h => by
    obtain ⟨r, e⟩ := firsts_pre xs (k := k) m (by omega)
    rw [← Nat.add_assoc, firsts_next (by omega), e]
    split
    · exact ⟨r, rfl⟩
    · exact ⟨r ++ [xs.getD (k + m) default], by rw [List.append_assoc]⟩
theorem firsts_all (xs : List α) {k : Nat} (h : k ≤ xs.length) : ∃ r, firsts xs = firsts (xs.take k) ++ r := by
  obtain ⟨r, e⟩ := firsts_pre xs (k := k) (xs.length - k) (by omega)
  rw [show k + (xs.length - k) = xs.length by omega, List.take_length] at e
  exact ⟨r, e⟩
/-- each thing's place in firsts, as found on the way -/
def numK (xs : List α) (k : Nat) : Nat := idxD (firsts (xs.take (k + 1))) (xs.getD k default)
def numsOf (xs : List α) : List Int := (List.range xs.length).map fun k => ((numK xs k : Nat) : Int)
theorem numK_lt {xs : List α} {k : Nat} (h : k < xs.length) : numK xs k < (firsts xs).length := by
  obtain ⟨r, e⟩ := firsts_all xs (k := k + 1) h
  have := idxD_lt (firsts_in h)
  unfold numK
  rw [e, List.length_append]
  omega
theorem numK_at {xs : List α} {k : Nat} (h : k < xs.length) : (firsts xs).getD (numK xs k) default = xs.getD k default := by
  obtain ⟨r, e⟩ := firsts_all xs (k := k + 1) h
  have hi := idxD_lt (firsts_in h)
  unfold numK
  rw [e, List.getD_eq_getElem?_getD, List.getElem?_append_left hi, List.getElem?_eq_getElem hi]
  have := List.getElem_idxOf hi
  unfold idxD
  rw [this]
  rfl
end
instance : Inhabited Dr := ⟨⟨[], [], []⟩⟩
abbrev pairsOf (d e : Dr) : List (Int × Int) := d.tr.zip e.tr
def besideD (d e : Dr) : Dr where
  th := d.th ++ e.th.map fun s => s + (d.ti.length : Int)
  ti := (d.ti.map fun row => (firsts (pairsOf d e)).map fun p => row.getD p.1.toNat default) ++ e.ti.map fun row => (firsts (pairsOf d e)).map fun p => row.getD p.2.toNat default
  tr := numsOf (pairsOf d e)
def fits0 (d e : Dr) : Bool := decide ((d.tr.length : Int) = (e.tr.length : Int)) && decide ((d.th.length : Int) + (e.th.length : Int) ≤ 60)
def fits1 (d e : Dr) : Bool := decide ((d.ti.length : Int) + (e.ti.length : Int) ≤ 60)
theorem pairs_len {d e : Dr} (h : fits0 d e = true) : (pairsOf d e).length = d.tr.length ∧ d.tr.length = e.tr.length ∧ d.th.length + e.th.length ≤ 60 := by
  unfold fits0 at h
  simp only [Bool.and_eq_true, decide_eq_true_eq] at h
  refine ⟨?_, by omega, by omega⟩
  unfold pairsOf
  rw [List.length_zip]
  omega
theorem pairs_at {d e : Dr} (h : fits0 d e = true) {k : Nat} (hk : k < d.tr.length) : (pairsOf d e).getD k default = (d.tr.getD k default, e.tr.getD k default) := by
  obtain ⟨h1, h2, _⟩ := pairs_len h
  rw [getD_lt (by omega), getD_lt hk, getD_lt (by omega)]
  exact List.getElem_zip
theorem pairs_in {d e : Dr} {p : Int × Int} (h : p ∈ pairsOf d e) : p.1 ∈ d.tr ∧ p.2 ∈ e.tr := by
  obtain ⟨a, b⟩ := p
  exact List.of_mem_zip h
theorem firsts_sub {d e : Dr} {p : Int × Int} (h : p ∈ firsts (pairsOf d e)) : p.1 ∈ d.tr ∧ p.2 ∈ e.tr := by
  have := firsts_subK (pairsOf d e) (pairsOf d e).length (Nat.le_refl _) p (by rw [List.take_length]; exact h)
  exact pairs_in this
theorem firsts_le {d e : Dr} (h : fits0 d e = true) : (firsts (pairsOf d e)).length ≤ d.tr.length := by
  have := firsts_lenK (pairsOf d e) (pairsOf d e).length (Nat.le_refl _)
  rw [List.take_length] at this
  rw [← (pairs_len h).1]
  exact this
theorem besideD_good {d e : Dr} (gd : GoodD d) (ge : GoodD e) (h0 : fits0 d e = true) (h1 : fits1 d e = true) : GoodD (besideD d e) := by
  obtain ⟨p1, p2, p3⟩ := pairs_len h0
  have q1 : d.ti.length + e.ti.length ≤ 60 := by
    unfold fits1 at h1
    simp only [decide_eq_true_eq] at h1
    omega
  have f1 := firsts_le h0
  have d1 := gd.ti.len
  have e1 := ge.ti.len
  have d2 := gd.tr
  have d3 := gd.th
  have e3 := ge.th
  have f0 : 0 < (firsts (pairsOf d e)).length := Nat.lt_of_le_of_lt (Nat.zero_le _) (numK_lt (xs := pairsOf d e) (k := 0) (by omega))
  have rowsL : ∀ row ∈ (besideD d e).ti, row.length = (firsts (pairsOf d e)).length := fun row hr => by
    rcases List.mem_append.mp hr with h | h <;> (obtain ⟨r, _, rfl⟩ := List.mem_map.mp h; rw [List.length_map])
  have lenT : (besideD d e).ti.length = d.ti.length + e.ti.length := by show (List.length (_ ++ _)) = _; rw [List.length_append, List.length_map, List.length_map]
  have row0 : ((besideD d e).ti.getD 0 default).length = (firsts (pairsOf d e)).length := by
    rw [getD_lt (by omega)]
    exact rowsL _ (List.getElem_mem _)
  have lenH : (besideD d e).th.length = d.th.length + e.th.length := by show (List.length (_ ++ _)) = _; rw [List.length_append, List.length_map]
  have lenR : (besideD d e).tr.length = d.tr.length := by show (numsOf _).length = _; unfold numsOf; rw [List.length_map, List.length_range, p1]
  refine ⟨⟨by omega, fun row hr => by rw [row0]; exact rowsL row hr, by omega, fun row hr x hx => ?_⟩, by omega, by omega, fun s hs => ?_, fun t ht => ?_⟩
  · rcases List.mem_append.mp hr with h | h
    · obtain ⟨r, hr2, rfl⟩ := List.mem_map.mp h
      obtain ⟨p, hp, rfl⟩ := List.mem_map.mp hx
      have b := gd.tl p.1 (firsts_sub hp).1
      have hl := gd.ti.rows r hr2
      rw [getD_lt (show p.1.toNat < r.length by omega)]
      exact gd.ti.bits r hr2 _ (List.getElem_mem _)
    · obtain ⟨r, hr2, rfl⟩ := List.mem_map.mp h
      obtain ⟨p, hp, rfl⟩ := List.mem_map.mp hx
      have b := ge.tl p.2 (firsts_sub hp).2
      have hl := ge.ti.rows r hr2
      rw [getD_lt (show p.2.toNat < r.length by omega)]
      exact ge.ti.bits r hr2 _ (List.getElem_mem _)
  · rw [lenT]
    rcases List.mem_append.mp hs with h | h
    · have := gd.sh s h
      omega
    · obtain ⟨y, hy, rfl⟩ := List.mem_map.mp h
      have := ge.sh y hy
      omega
  · rw [row0]
    obtain ⟨k, hk, rfl⟩ := List.mem_map.mp ht
    have := numK_lt (xs := pairsOf d e) (k := k) (by simpa using hk)
    omega
theorem numsOf_at {α : Type} [DecidableEq α] [Inhabited α] {xs : List α} {k : Nat} (h : k < (numsOf xs).length) : (numsOf xs)[k] = ((numK xs k : Nat) : Int) := by simp [numsOf]
theorem besideD_left (d e : Dr) {i : Nat} (h : i < d.ti.length) : (besideD d e).ti.getD i default = (firsts (pairsOf d e)).map fun p => (d.ti.getD i default).getD p.1.toNat default := by
  unfold besideD
  simp only []
  rw [List.getD_eq_getElem?_getD, List.getElem?_append_left (by rw [List.length_map]; exact h), ← List.getD_eq_getElem?_getD, getD_map _ _ _ h, getD_lt h]
theorem besideD_right (d e : Dr) {i : Nat} (h : i < e.ti.length) : (besideD d e).ti.getD (d.ti.length + i) default = (firsts (pairsOf d e)).map fun p => (e.ti.getD i default).getD p.2.toNat default := by
  unfold besideD
  simp only []
  rw [List.getD_eq_getElem?_getD, List.getElem?_append_right (by rw [List.length_map]; omega), ← List.getD_eq_getElem?_getD, List.length_map, show d.ti.length + i - d.ti.length = i by omega, getD_map _ _ _ h, getD_lt h]
theorem woven_beside {d e : Dr} (gd : GoodD d) (ge : GoodD e) (h0 : fits0 d e = true) : woven (besideD d e) = (List.range (woven d).length).map fun k => (woven d).getD k default ++ (woven e).getD k default := by
  obtain ⟨p1, p2, p3⟩ := pairs_len h0
  have lw : (woven d).length = d.tr.length := by unfold woven; rw [List.length_map]
  have lenR : (besideD d e).tr.length = d.tr.length := by show (numsOf _).length = _; unfold numsOf; rw [List.length_map, List.length_range, p1]
  refine getD_ext (by rw [List.length_map, List.length_range, lw]; unfold woven; rw [List.length_map, lenR]) fun k hk => ?_
  have hk' : k < d.tr.length := by simpa [lw] using hk
  rw [getD_map _ _ _ (by simpa using hk)]
  rw [List.getElem_range]
  unfold woven
  rw [getD_map _ _ _ (by rw [lenR]; exact hk'), getD_map _ _ _ hk', getD_map _ _ _ (by omega)]
  have et : (besideD d e).tr[k]'(by rw [lenR]; exact hk') = ((numK (pairsOf d e) k : Nat) : Int) := by
    exact numsOf_at (xs := pairsOf d e) (by have := lenR; show k < (numsOf (pairsOf d e)).length; rw [show (numsOf (pairsOf d e)).length = d.tr.length from lenR]; exact hk')
  rw [et]
  have hn := numK_lt (xs := pairsOf d e) (k := k) (by omega)
  have hp := (numK_at (xs := pairsOf d e) (k := k) (by omega)).trans (pairs_at h0 hk')
  rw [getD_lt hn] at hp
  show List.map _ (d.th ++ e.th.map fun s => s + (d.ti.length : Int)) = _
  rw [List.map_append, List.map_map]
  congr 1
  · apply List.map_congr_left
    intro s hs
    have b := gd.sh s hs
    rw [besideD_left d e (show s.toNat < d.ti.length by omega), Int.toNat_natCast, getD_map _ _ _ hn, hp, getD_lt hk']
  · apply List.map_congr_left
    intro s hs
    have b := ge.sh s hs
    show ((besideD d e).ti.getD (s + (d.ti.length : Int)).toNat default).getD _ default = _
    rw [show (s + (d.ti.length : Int)).toNat = d.ti.length + s.toNat by omega, besideD_right d e (show s.toNat < e.ti.length by omega), Int.toNat_natCast, getD_map _ _ _ hn, hp, getD_lt (show k < e.tr.length by omega)]
end DF
namespace DF
open Enc (enc)
open PySem PySem.Spec PyProof.Rows L2 Evl RT
/-! ### a list of pairs of numbers that grows, and the list of places -/
structure TupsAt (H : Hp) (ts : List Addr) (ps : List (Int × Int)) : Prop where
  len : ts.length = ps.length
  at_ : ∀ (i : Nat) (t : Addr) (q : Int × Int), ts[i]? = some t → ps[i]? = some q → H t = some (.tup [.int q.1, .int q.2])
theorem TupsAt.imp {H H' : Hp} {ts : List Addr} {ps : List (Int × Int)} (h : TupsAt H ts ps) (k : ∀ t l, H t = some (.tup l) → H' t = some (.tup l)) : TupsAt H' ts ps := ⟨h.len, fun i t q h1 h2 => k t _ (h.at_ i t q h1 h2)⟩
theorem TupsAt.snoc {H : Hp} {ts : List Addr} {ps : List (Int × Int)} (h : TupsAt H ts ps) {t : Addr} {q : Int × Int} (ht : H t = some (.tup [.int q.1, .int q.2])) : TupsAt H (ts ++ [t]) (ps ++ [q]) := by
  refine ⟨by rw [List.length_append, List.length_append, h.len]; rfl, fun i u r h1 h2 => ?_⟩
  by_cases hi : i < ts.length
  · rw [List.getElem?_append_left hi] at h1
    rw [List.getElem?_append_left (by rw [← h.len]; exact hi)] at h2
    exact h.at_ i u r h1 h2
  · rw [List.getElem?_append_right (by omega)] at h1
    rw [List.getElem?_append_right (by rw [← h.len]; omega), ← h.len] at h2
    generalize i - ts.length = j at h1 h2
    cases j with
    | zero => cases h1; cases h2; exact ht
    | succ j => cases h1
theorem TupsAt.tp {H : Hp} : ∀ {ts : List Addr} {ps : List (Int × Int)}, TupsAt H ts ps → TpAll H (ts.map V.ref) (ps.map enc)
  | [], [], _ => .nil
  | [], _ :: _, h => by have := h.len; cases this
  | _ :: _, [], h => by have := h.len; cases this
  | t :: ts, q :: ps, h => .cons (.tup (h.at_ 0 t q rfl rfl) (.cons (.int _) (.cons (.int _) .nil))) (TupsAt.tp (ts := ts) (ps := ps) ⟨by have := h.len; simpa using this, fun i u r h1 h2 => h.at_ (i + 1) u r h1 h2⟩)
def TL (H : Hp) (p : Addr) (ps : List (Int × Int)) : Prop := ∃ ts : List Addr, H p = some (.lst (ts.map V.ref)) ∧ TupsAt H ts ps
theorem TL.tp {H : Hp} {p : Addr} {ps : List (Int × Int)} (h : TL H p ps) : Tp H (.ref p) (enc ps) := by
  obtain ⟨ts, h1, h2⟩ := h
  exact .lst h1 h2.tp
theorem TL.mono {H H' : Hp} {p : Addr} {ps : List (Int × Int)} (e : Ex H H') (h : TL H p ps) : TL H' p ps := by
  obtain ⟨ts, h1, h2⟩ := h
  exact ⟨ts, e _ _ h1, h2.imp fun t l h => e _ _ h⟩
theorem TL.upd {H : Hp} {p z : Addr} {ps : List (Int × Int)} {l : List V} {o : HO} (h : TL H p ps) (hz : H z = some (.lst l)) (ne : p ≠ z) : TL (upd H z o) p ps := by
  obtain ⟨ts, h1, h2⟩ := h
  refine ⟨ts, by rw [upd_ne ne]; exact h1, h2.imp fun t l h => ?_⟩
  rw [upd_ne (fun e => by rw [e, hz] at h; cases h)]
  exact h
/-- all but two cells stand -/
def ExB (p q : Addr) (H H' : Hp) : Prop := ∀ x o, x ≠ p → x ≠ q → H x = some o → H' x = some o
theorem ExB.refl {p q : Addr} {H : Hp} : ExB p q H H := fun _ _ _ _ h => h
theorem ExB.ex {p q : Addr} {H H1 H' : Hp} (a : ExB p q H H1) (e : Ex H1 H') : ExB p q H H' := fun x o h1 h2 h => e _ _ (a x o h1 h2 h)
theorem ExB.updp {p q : Addr} {H H1 : Hp} {o : HO} (a : ExB p q H H1) : ExB p q H (upd H1 p o) := fun x o h1 h2 h => by rw [upd_ne h1]; exact a x o h1 h2 h
theorem ExB.updq {p q : Addr} {H H1 : Hp} {o : HO} (a : ExB p q H H1) : ExB p q H (upd H1 q o) := fun x o h1 h2 h => by rw [upd_ne h2]; exact a x o h1 h2 h
section
variable {K : PySem.W.Frag} {te : TE} {H H' : Hp} {σ : L2.St} {D : Ends} {p2 p3 : Addr}
theorem s_pairTurn {i j : Nat} {q : Int × Int} {acc : List (Int × Int)} {T : List Int} (ρ : List (Int × Int) → Rho) (hte : ∀ acc, VD K te (ρ acc) (enc q)) (hv : ∀ acc, VD K (tVar i) (ρ acc) (enc acc))
    (si : σ[i]? = some (some (.ref p2))) (sj : σ[j]? = some (some (.ref p3))) (hne : p2 ≠ p3) (env : ∀ H2 acc', ExB p2 p3 H' H2 → TL H2 p2 acc' → Env K H2 σ (ρ acc'))
    (tl : TL H' p2 acc) (t3 : H' p3 = some (.lst (T.map V.int))) (hz : acc.length ≤ 1000 ∧ T.length ≤ 1000)
    (k : ∀ H2, ExB p2 p3 H' H2 → TL H2 p2 (if q ∈ acc then acc else acc ++ [q]) → H2 p3 = some (.lst ((T ++ [((idxD (if q ∈ acc then acc else acc ++ [q]) q : Nat) : Int)]).map V.int)) → D.nx σ H2) :
    tSeq (tIfS (tTest (tOp (rNotInD K) te (tVar i))) (tDrop (tBM K "list" rAppend (tVar i) (tCons te tNil))) tNext) (tDrop (tBM K "list" rAppend (tVar j) (tCons (tBM K "list" (rIndexD K) (tVar i) (tCons te tNil)) tNil))) D σ H' := by
  have fin : ∀ (H2 : Hp) (ac : List (Int × Int)), ExB p2 p3 H' H2 → TL H2 p2 ac → q ∈ ac → ac.length ≤ 1001 → H2 p3 = some (.lst (T.map V.int)) → (∀ H3, ExB p2 p3 H' H3 → TL H3 p2 ac → H3 p3 = some (.lst ((T ++ [((idxD ac q : Nat) : Int)]).map V.int)) → D.nx σ H3) →
      tDrop (tBM K "list" rAppend (tVar j) (tCons (tBM K "list" (rIndexD K) (tVar i) (tCons te tNil)) tNil)) D σ H2 := fun H2 ac e2 tl2 hq hac h3 kk => by
    refine ⟨.ref p3, sj, .inl ⟨rfl, _, SqL.of h3⟩, ?_⟩
    refine v_index (K := K) (xs := ac) (x := q) (hv ac) (hte ac) hq (by decide) _ _ (env H2 ac e2 tl2) _ fun w H3 e3 r3 => ?_
    cases Tp.int_inv r3
    have h33 := e3 _ _ h3
    refine ⟨p3, _, .int _, rfl, rfl, h33, sz_lt (by rw [List.length_map]; omega), kk _ (e2.ex e3).updq ((tl2.mono e3).upd h33 hne) ?_⟩
    rw [List.map_append]
    exact upd_same
  refine t_test (v_ni (α := Int × Int) (x := q) (xs := acc) (hte acc) (hv acc)) _ _ (env H' acc ExB.refl tl) _ fun H2 e2 => ?_
  by_cases hq : q ∈ acc
  · rw [if_pos hq] at k
    split
    · rename_i h
      exact absurd hq (by simpa using h)
    exact fin H2 acc (ExB.refl.ex e2) (tl.mono e2) hq (by omega) (e2 _ _ t3) k
  · rw [if_neg hq] at k
    split
    rotate_left
    · rename_i h
      exact absurd (by simpa using h) hq
    obtain ⟨ts, h1, h2⟩ := tl.mono e2
    refine ⟨.ref p2, si, .inl ⟨rfl, _, SqL.of h1⟩, ?_⟩
    refine hte acc _ _ (env H2 acc (ExB.refl.ex e2) ⟨ts, h1, h2⟩) _ fun v H3 e3 r3 => ?_
    obtain ⟨t, xs, rfl, ht, tA⟩ := Tp.tup_inv (ds := [.int q.1, .int q.2]) r3
    cases tA with
    | cons r1 tA =>
      cases tA with
      | cons r2 tA =>
        cases tA
        cases Tp.int_inv r1
        cases Tp.int_inv r2
        have h13 := e3 _ _ h1
        refine ⟨p2, _, .ref t, rfl, rfl, h13, sz_lt (by rw [List.length_map, h2.len]; omega), ?_⟩
        refine fin _ (acc ++ [q]) ((ExB.refl.ex e2).ex e3).updp ⟨ts ++ [t], by rw [List.map_append]; exact upd_same, ?_⟩ (by simp) (by rw [List.length_append]; simp; omega) (by rw [upd_ne hne.symm]; exact e3 _ _ (e2 _ _ t3)) k
        refine (TupsAt.snoc (h2.imp fun t l h => e3 _ _ h) ht).imp fun u l h => ?_
        rw [upd_ne (fun e => by rw [e, h13] at h; cases h)]
        exact h
variable {ρ : Rho} {H0 : Hp} {ta tb : TE} {u : TS}
/-- x = y + e, y a list of one's own in a slot -/
theorem q_catOwn {i j : Nat} {x : V} {ds es : List PyData} (hi : σ[i]? = some (some x)) (o : New H0 H x (.list ds)) (e0 : Ex H0 H) (n : Env K H σ ρ) (hb : VN K tb ρ (.list es)) (hz : ds.length + es.length ≤ 100000)
    (k : ∀ v H', Ex H H' → New H0 H' v (.list (ds ++ es)) → u D (σ.set j (some v)) H') : tSeq (tAsg (tOp rCat (tVar i) tb) (gName j)) u D σ H :=
  ⟨x, hi, hb σ H n _ fun v H2 e2 ⟨G, o2, f2⟩ => by
    obtain ⟨F, o1, f1⟩ := o
    obtain ⟨a, xs, A, rfl, rfl, ea, t, na⟩ := Own.lst_inv (o1.mono e2)
    obtain ⟨b, ys, B, rfl, rfl, eb, t', nb⟩ := o2.lst_inv
    refine ⟨a, b, xs, ys, rfl, rfl, ea, eb, sz_of (by rw [t.len, t'.len]; exact hz), fun p hp => k _ _ (e2.trans (Ex.new hp)) ?_⟩
    have dis : ∀ c ∈ A, c ∉ B := fun c hc hb => by
      obtain ⟨zs, hz⟩ := o1.at_ c (List.mem_cons_of_mem _ hc)
      rw [f2 c (List.mem_cons_of_mem _ hb)] at hz
      cases hz
    have tt := OwnAll.append t' t dis
    refine ⟨_, .lst upd_same (tt.mono (Ex.new hp)) fun z => ?_, fun z hz => ?_⟩
    · obtain ⟨zs, hx⟩ := tt.at_ p z
      rw [hp] at hx; cases hx
    · rcases List.mem_cons.mp hz with rfl | hz
      · exact fresh_back (e0.trans e2) hp
      · rcases List.mem_append.mp hz with h | h
        · exact f1 z (List.mem_cons_of_mem _ h)
        · exact fresh_back e0 (f2 z (List.mem_cons_of_mem _ h))⟩
theorem s_ret_nvv {j l : Nat} {y w : V} {a b c : PyData} {F G : List Addr} (h2 : σ[j]? = some (some y)) (h3 : σ[l]? = some (some w)) (oy : Own H y b F) (ow : Own H w c G) (fy : ∀ x ∈ F, H0 x = none) (fw : ∀ x ∈ G, H0 x = none) (dj : ∀ x ∈ F, x ∉ G) (e : Ex H0 H) (n : Env K H σ ρ) (ha : VN K ta ρ a)
    (k : ∀ v H', Ex H H' → New H0 H' v (.tuple [a, b, c]) → D.rt v H') : tRet (tTup (tCons ta (tCons (tVar j) (tCons (tVar l) tNil)))) D σ H :=
  ha σ H n _ fun x H1 e1 ⟨A, oA, fA⟩ => ⟨y, h2, w, h3, (show 3 ≤ sizeLine by decide), fun q hq => by
    have al : OwnAll H1 [x, y, w] [a, b, c] (A ++ (F ++ (G ++ []))) := .cons oA (.cons (oy.mono e1) (.cons (ow.mono e1) .nil (fun _ _ z => nomatch z)) fun z hz hg => by
        rw [List.append_nil] at hg
        exact dj z hz hg) fun z hz hg => by
      rw [List.append_nil] at hg
      rcases List.mem_append.mp hg with h | h
      · obtain ⟨xs, hx⟩ := oy.at_ z h
        rw [fA z hz] at hx
        cases hx
      · obtain ⟨xs, hx⟩ := ow.at_ z h
        rw [fA z hz] at hx
        cases hx
    refine k _ _ (e1.trans (Ex.new hq)) ⟨_, .tup upd_same (al.mono (Ex.new hq)), fun z hz => ?_⟩
    rw [List.append_nil] at hz
    rcases List.mem_append.mp hz with h | h
    · exact fresh_back e (fA z h)
    · rcases List.mem_append.mp h with h | h
      · exact fy z h
      · exact fw z h⟩
end
end DF

namespace DF
open Enc (enc)
open PySem PySem.Spec PyProof.Rows L2 Evl RT
/-! ### threads -/
structure Th where
  w : Bool
  k : Int
deriving DecidableEq, Inhabited
def thS (w : Bool) : Str := if w = true then "warp" else "weft"
@[reducible] instance : Enc Th where
  enc := fun t => .tuple [.str (thS t.w), .int t.k]
  eqv_enc := fun x y => by
    obtain ⟨a, i⟩ := x
    obtain ⟨b, j⟩ := y
    have h : (thS a == thS b) = decide (a = b) := by cases a <;> cases b <;> decide +kernel
    simp only [PyData.eqv, PyData.eqvAll, Bool.and_true, Bool.and_eq_true, beq_iff_eq, decide_eq_true_eq, Th.mk.injEq]
    constructor
    · rintro ⟨h1, h2⟩
      refine ⟨?_, h2⟩
      have : (thS a == thS b) = true := by rw [h1]; exact beq_self_eq_true _
      rw [h] at this
      simpa using this
    · rintro ⟨h1, h2⟩
      exact ⟨by rw [h1], h2⟩
  lay := fun x => by
    obtain ⟨a, i⟩ := x
    cases a <;> (simp only [PyData.canLay0, PyData.canLayAll0, Bool.and_true]; decide +kernel)
  deep := 2
  depth := fun x => by
    obtain ⟨a, i⟩ := x
    cases a <;> simp [PyData.depth, PyData.depthAll]
end DF
namespace DF
open Enc (enc)
open PySem PySem.Spec PyProof.Rows L2 Evl RT
def threads (c : Cl) : List Th := ((List.range (c.getD 0 default).length).map fun k => ⟨true, (k : Int)⟩) ++ (List.range c.length).map fun k => ⟨false, (k : Int)⟩
/-- a thread of the cloth -/
def Th.ok (c : Cl) (t : Th) : Prop := 0 ≤ t.k ∧ (if t.w = true then t.k < ((c.getD 0 default).length : Int) else t.k < (c.length : Int))
theorem threads_ok {c : Cl} {t : Th} : t ∈ threads c ↔ t.ok c := by
  obtain ⟨w, k⟩ := t
  unfold threads Th.ok
  rw [List.mem_append]
  constructor
  · rintro (h | h)
    · obtain ⟨i, hi, e⟩ := List.mem_map.mp h
      cases e
      have := List.mem_range.mp hi
      exact ⟨by show (0 : Int) ≤ (i : Int); omega, by rw [if_pos rfl]; show (i : Int) < _; omega⟩
    · obtain ⟨i, hi, e⟩ := List.mem_map.mp h
      cases e
      have := List.mem_range.mp hi
      exact ⟨by show (0 : Int) ≤ (i : Int); omega, by rw [if_neg (by simp)]; show (i : Int) < _; omega⟩
  · rintro ⟨h0, h1⟩
    cases w with
    | true =>
      rw [if_pos rfl] at h1
      exact .inl (List.mem_map.mpr ⟨k.toNat, List.mem_range.mpr (by simp only [] at h0 h1; omega), by simp only [] at h0; rw [Int.toNat_of_nonneg h0]⟩)
    | false =>
      rw [if_neg (by simp)] at h1
      exact .inr (List.mem_map.mpr ⟨k.toNat, List.mem_range.mpr (by simp only [] at h0 h1; omega), by simp only [] at h0; rw [Int.toNat_of_nonneg h0]⟩)
theorem threads_len (c : Cl) : (threads c).length = (c.getD 0 default).length + c.length := by unfold threads; simp
/-- one lies above the other -/
def aboveB (c : Cl) (a b : Th) : Bool :=
  if a.w = b.w then false
  else if a.w = true then decide ((c.getD b.k.toNat default).getD a.k.toNat default = 1)
  else decide ((c.getD a.k.toNat default).getD b.k.toNat default = 0)
section
variable {K : PySem.W.Frag} {ρ : Rho} {ta : TE} {t : Th}
theorem v_thW (h : VD K ta ρ (enc t)) : VD K (tOp (rIx K) ta (tC (.int 0))) ρ (.str (thS t.w)) := v_ixT (ds := [.str (thS t.w), .int t.k]) h v_int rfl
theorem v_thK (h : VD K ta ρ (enc t)) : VD K (tOp (rIx K) ta (tC (.int 1))) ρ (.int t.k) := v_ixT (ds := [.str (thS t.w), .int t.k]) h v_int rfl
end
theorem shaped_thS (w : Bool) : SeqAt.shaped (.str (thS w)) = true := by cases w <;> decide +kernel
theorem eqv_thS (a b : Bool) : PyData.eqv (.str (thS a)) (.str (thS b)) = decide (a = b) := by cases a <;> cases b <;> decide +kernel
end DF

namespace DF
open Enc (enc)
open PySem PySem.Spec PyProof.Rows L2 Evl RT
/-- a def that tells some data of its own with a property -/
def spP (K : PySem.W.Frag) (A : List Ent → Prop) (P : List Ent → PyData → Prop) : Sp := fun vs H Q _ => ∃ zs, RepAll K H vs zs ∧ A zs ∧ ∀ r, P zs r → ∀ v H', Ex H H' → New H H' v r → Q v H'
section
variable {K : PySem.W.Frag} {ρ : Rho} {H H' : Hp} {σ : L2.St} {D : Ends} {u : TS} {ta : TA} {zs : List Ent} {A : List Ent → Prop} {P : List Ent → PyData → Prop} {E : XK}
theorem q_setP {i : Nat} (ha : AE K ta ρ zs) (hA : A zs) (n : Env K H σ ρ) (k : ∀ r v H', P zs r → Ex H H' → New H H' v r → Env K H' (σ.set i (some v)) (ρ.set i (some (.d r))) → u D (σ.set i (some v)) H') : tSeq (tAsg (tCall (spP K A P) [] E ta) (gName i)) u D σ H :=
  ha σ H n _ fun vs H1 e1 r1 => by
    show spP K A P (vs ++ []) H1 _ E
    rw [List.append_nil]
    exact ⟨zs, r1, hA, fun r hr v H' e2 w => k r v H' hr (e1.trans e2) (w.back e1) ((n.mono (e1.trans e2)).set i (z := .d r) w.tp)⟩
end
end DF
namespace DF
open Enc (enc)
open PySem PySem.Spec PyProof.Rows L2 Evl RT
/-- m rows of w bits -/
structure Gd (m w : Nat) (c : Cl) : Prop where
  len : c.length = m
  rows : ∀ row ∈ c, row.length = w
  bits : ∀ row ∈ c, ∀ x ∈ row, x = 0 ∨ x = 1
theorem Gd.good {m w : Nat} {c : Cl} (g : Gd m w c) (hm : 1 ≤ m ∧ m ≤ 60) (hw : 1 ≤ w ∧ w ≤ 60) : Good c := by
  have h0 : (c.getD 0 default).length = w := by
    rw [getD_lt (show 0 < c.length by rw [g.len]; omega)]
    exact g.rows _ (List.getElem_mem _)
  exact ⟨by rw [g.len]; exact hm, fun row hr => by rw [h0]; exact g.rows row hr, by rw [h0]; exact hw, g.bits⟩
theorem Gd.set {m w : Nat} {c : Cl} (g : Gd m w c) {i j : Nat} {x : Int} (hi : i < m) (hj : j < w) (hx : x = 0 ∨ x = 1) : Gd m w (c.set i ((c.getD i default).set j x)) := by
  have hi' : i < c.length := by rw [g.len]; exact hi
  have hr : c.getD i default ∈ c := by rw [getD_lt hi']; exact List.getElem_mem _
  refine ⟨by rw [List.length_set, g.len], fun row h => ?_, fun row h y hy => ?_⟩
  · rcases List.mem_or_eq_of_mem_set h with h | rfl
    · exact g.rows row h
    · rw [List.length_set]; exact g.rows _ hr
  · rcases List.mem_or_eq_of_mem_set h with h | rfl
    · exact g.bits row h y hy
    · rcases List.mem_or_eq_of_mem_set hy with hy | rfl
      · exact g.bits _ hr y hy
      · exact hx
end DF
namespace DF
open Enc (enc)
open PySem PySem.Spec PyProof.Rows L2 Evl RT
/-- all cells but F's stand -/
def ExF (F : List Addr) (H H' : Hp) : Prop := ∀ x o, x ∉ F → H x = some o → H' x = some o
theorem ExF.of {F : List Addr} {H H' : Hp} (e : Ex H H') : ExF F H H' := fun x o _ h => e x o h
theorem ExF.ex {F : List Addr} {H H1 H' : Hp} (a : ExF F H H1) (e : Ex H1 H') : ExF F H H' := fun x o h1 h => e _ _ (a x o h1 h)
theorem ExF.upd {F : List Addr} {H H1 : Hp} {z : Addr} {o : HO} (a : ExF F H H1) (hz : z ∈ F) : ExF F H (upd H1 z o) := fun x o h1 h => by rw [upd_ne (fun e => h1 (by rw [e]; exact hz))]; exact a x o h1 h
theorem ExF.base {F : List Addr} {H0 H H' : Hp} (a : ExF F H H') (e : Ex H0 H) (f : ∀ x ∈ F, H0 x = none) : Ex H0 H' := fun x o h => a x o (fun hx => by rw [f x hx] at h; cases h) (e x o h)
section
variable {K : PySem.W.Frag} {ρ : Rho} {tl : TE} {H : Hp} {σ : L2.St} {D : Ends} {t u : TS}
theorem s_loopI {m : Int} {j : Nat} {js : List Nat} (I : Hp → Prop) (hj : j ∈ js) (hl : VD K tl ρ (.int m)) (hm : -100000 ≤ m ∧ m ≤ 1000000) (n : Env K H σ ρ) (h0 : ∀ H', Ex H H' → I H')
    (turn : ∀ k : Nat, (k : Int) < m → ∀ (σ' : L2.St) (H' : Hp) (D' : Ends), Buts js σ σ' → I H' → D'.rt = D.rt → (∀ σ2 H2, Buts js σ σ2 → I H2 → D'.nx σ2 H2) → t D' (σ'.set j (some (.int (k : Int)))) H')
    (done : ∀ σ' H', Buts js σ σ' → I H' → D.nx σ' H') : tFor (iRng1 (tCons tl tNil)) (gName j) t D σ H :=
  hl σ H n _ fun v H1 e1 r1 => by
    cases Tp.int_inv r1
    refine ⟨m, rfl, by omega, by omega, ?_⟩
    refine for_range (lo := 0) (n := m.toNat) (fun k σ' H' => Buts js σ σ' ∧ I H') ⟨Buts.refl js σ, h0 H1 e1⟩ (fun k σ' H' hk pv => ?_) (fun σ' H' pv => done σ' H' pv.1 pv.2)
    obtain ⟨bt, e⟩ := pv
    have e0 : (0 : Int) + (k : Int) = (k : Int) := Int.zero_add _
    rw [e0]
    exact turn k (by omega) σ' H' _ bt e rfl fun σ2 H2 b2 e2 => ⟨b2, e2⟩
theorem q_loopI {m : Int} {j : Nat} {js : List Nat} (I : Hp → Prop) (hj : j ∈ js) (hl : VD K tl ρ (.int m)) (hm : -100000 ≤ m ∧ m ≤ 1000000) (n : Env K H σ ρ) (h0 : ∀ H', Ex H H' → I H')
    (turn : ∀ k : Nat, (k : Int) < m → ∀ (σ' : L2.St) (H' : Hp) (D' : Ends), Buts js σ σ' → I H' → D'.rt = D.rt → (∀ σ2 H2, Buts js σ σ2 → I H2 → D'.nx σ2 H2) → t D' (σ'.set j (some (.int (k : Int)))) H')
    (done : ∀ σ' H', Buts js σ σ' → I H' → u D σ' H') : tSeq (tFor (iRng1 (tCons tl tNil)) (gName j) t) u D σ H := s_loopI (D := { D with nx := u D }) I hj hl hm n h0 turn done
end
end DF

namespace DF
open Enc (enc)
open PySem PySem.Spec PyProof.Rows L2 Evl RT
/-! ### a dict whose keys are threads -/
def keyT (t : Th) : List Key := [.inr (thS t.w), .inl t.k]
theorem thS_inj {a b : Bool} (h : thS a = thS b) : a = b := by
  have e := eqv_thS a b
  rw [h] at e
  have : PyData.eqv (.str (thS b)) (.str (thS b)) = decide (b = b) := eqv_thS b b
  rw [e, decide_eq_true rfl] at this
  exact of_decide_eq_true this
theorem keyT_inj {a b : Th} (h : keyT a = keyT b) : a = b := by
  obtain ⟨w, k⟩ := a
  obtain ⟨w', k'⟩ := b
  unfold keyT at h
  simp only [List.cons.injEq, Sum.inr.injEq, Sum.inl.injEq, and_true] at h
  obtain ⟨h1, h2⟩ := h
  have := thS_inj h1
  simp only [Th.mk.injEq]
  exact ⟨this, h2⟩
/-- what a dict at p holds: the threads in order, each with its value -/
inductive Ent2 (H : Hp) : List (List Key × V) → List (Th × PyData) → Prop
  | nil : Ent2 H [] []
  | cons {k : List Key} {v : V} {t : Th} {d : PyData} {kvs : List (List Key × V)} {ps : List (Th × PyData)} : k = keyT t → Tp H v d → Ent2 H kvs ps → Ent2 H ((k, v) :: kvs) ((t, d) :: ps)
theorem Ent2.mono {H H' : Hp} (e : Ex H H') : ∀ {kvs : List (List Key × V)} {ps : List (Th × PyData)}, Ent2 H kvs ps → Ent2 H' kvs ps
  | _, _, .nil => .nil
  | _, _, .cons h1 h2 h3 => .cons h1 (h2.mono e) (Ent2.mono e h3)
theorem Ent2.snoc {H : Hp} {t : Th} {v : V} {d : PyData} (h : Tp H v d) : ∀ {kvs : List (List Key × V)} {ps : List (Th × PyData)}, Ent2 H kvs ps → Ent2 H (kvs ++ [(keyT t, v)]) (ps ++ [(t, d)])
  | _, _, .nil => .cons rfl h .nil
  | _, _, .cons h1 h2 h3 => .cons h1 h2 (Ent2.snoc h h3)
def lookT (ps : List (Th × PyData)) (t : Th) : Option PyData := (ps.find? fun q => decide (q.1 = t)).map (·.2)
theorem Ent2.look {H : Hp} (t : Th) : ∀ {kvs : List (List Key × V)} {ps : List (Th × PyData)}, Ent2 H kvs ps → (lookT ps t = none ∧ valV kvs (keyT t) = none) ∨ ∃ d v, lookT ps t = some d ∧ valV kvs (keyT t) = some v ∧ Tp H v d
  | _, _, .nil => .inl ⟨rfl, rfl⟩
  | _, _, .cons (k := k) (v := v) (t := t') (d := d) h1 h2 h3 => by
    by_cases e : t' = t
    · subst e
      exact .inr ⟨d, v, by simp [lookT], valV_pos h1, h2⟩
    · have ne : ¬ k = keyT t := fun q => e (keyT_inj (h1.symm.trans q))
      rcases Ent2.look t h3 with ⟨a, b⟩ | ⟨d', v', a, b, c⟩
      · exact .inl ⟨by unfold lookT at a ⊢; rw [List.find?_cons_of_neg (by simpa using e)]; exact a, by rw [valV_neg ne]; exact b⟩
      · exact .inr ⟨d', v', by unfold lookT at a ⊢; rw [List.find?_cons_of_neg (by simpa using e)]; exact a, by rw [valV_neg ne]; exact b, c⟩
end DF

namespace DF
open Enc (enc)
open PySem PySem.Spec PyProof.Rows L2 Evl RT
/-! ### what a walk by links leaves -/
/-- the threads reached, each with its level; lk a b: b is reached from a -/
structure Levels (ths : List Th) (lk : Th → Th → Bool) (s : Th) (keys : List Th) (lev : Th → Nat) : Prop where
  start : s ∈ keys ∧ lev s = 0
  from_ : ∀ t ∈ keys, t ≠ s → ∃ u ∈ keys, lk u t = true ∧ lev t = lev u + 1
  on : ∀ t ∈ keys, ∀ o ∈ ths, lk t o = true → o ∈ keys ∧ lev o ≤ lev t + 1
  sub : ∀ t ∈ keys, t ∈ ths
theorem Levels.le {ths : List Th} {lk : Th → Th → Bool} {s : Th} {ks ks' : List Th} {lev lev' : Th → Nat} (a : Levels ths lk s ks lev) (b : Levels ths lk s ks' lev') : ∀ (n : Nat) (t : Th), t ∈ ks → lev t = n → t ∈ ks' ∧ lev' t ≤ n := by
  intro n
  induction n with
  | zero =>
    intro t ht h0
    by_cases e : t = s
    · subst e
      exact ⟨b.start.1, by rw [b.start.2]; exact Nat.le_refl _⟩
    · obtain ⟨u, _, _, h⟩ := a.from_ t ht e
      omega
  | succ n ih =>
    intro t ht hn
    by_cases e : t = s
    · subst e
      rw [a.start.2] at hn
      cases hn
    · obtain ⟨u, hu, hl, h⟩ := a.from_ t ht e
      obtain ⟨h1, h2⟩ := ih u hu (by omega)
      obtain ⟨h3, h4⟩ := b.on u h1 t (a.sub t ht) hl
      exact ⟨h3, by omega⟩
/-- two of them are alike -/
theorem Levels.alike {ths : List Th} {lk : Th → Th → Bool} {s : Th} {ks ks' : List Th} {lev lev' : Th → Nat} (a : Levels ths lk s ks lev) (b : Levels ths lk s ks' lev') (t : Th) : (t ∈ ks ↔ t ∈ ks') ∧ (t ∈ ks → lev t = lev' t) := by
  refine ⟨⟨fun h => (a.le b _ t h rfl).1, fun h => (b.le a _ t h rfl).1⟩, fun h => ?_⟩
  have h1 := a.le b _ t h rfl
  have h2 := b.le a _ t h1.1 rfl
  omega
end DF

namespace DF
open Enc (enc)
open PySem PySem.Spec PyProof.Rows L2 Evl RT
/-- the state of the walk: ps the dict, W the shell being left, pr the threads left already, th the thread being left, seen the others asked, fresh the next shell -/
structure Walk (ths : List Th) (lk : Th → Th → Bool) (s : Th) (ps : List (Th × PyData)) (lev : Th → Nat) (L : Nat) (pr W fresh : List Th) : Prop where
  start : s ∈ ps.map (·.1) ∧ lev s = 0
  nd : (ps.map (·.1)).Nodup
  val : ∀ t d, (t, d) ∈ ps → (t = s ∧ d = .none) ∨ ∃ u ∈ ps.map (·.1), d = enc u ∧ lk u t = true ∧ lev t = lev u + 1
  sub : ∀ t ∈ ps.map (·.1), t ∈ ths
  top : ∀ t ∈ ps.map (·.1), lev t ≤ L + 1
  on : ∀ t ∈ pr, ∀ o ∈ ths, lk t o = true → o ∈ ps.map (·.1) ∧ lev o ≤ lev t + 1
  all : ∀ t ∈ ps.map (·.1), t ∈ pr ∨ t ∈ W ∨ t ∈ fresh
  w : ∀ t ∈ W, t ∈ ps.map (·.1) ∧ lev t = L
  fr : ∀ t ∈ fresh, t ∈ ps.map (·.1) ∧ lev t = L + 1
/-- a new one is reached from th -/
theorem Walk.add {ths : List Th} {lk : Th → Th → Bool} {s : Th} {ps : List (Th × PyData)} {lev : Th → Nat} {L : Nat} {pr W fresh : List Th} (a : Walk ths lk s ps lev L pr W fresh) {th o : Th} (hth : th ∈ W) (ho : o ∈ ths) (hl : lk th o = true) (hn : o ∉ ps.map (·.1)) :
    Walk ths lk s (ps ++ [(o, enc th)]) (fun x => if x = o then L + 1 else lev x) L pr W (fresh ++ [o]) := by
  have e : (ps ++ [(o, enc th)]).map (·.1) = ps.map (·.1) ++ [o] := by simp
  have old : ∀ t ∈ ps.map (·.1), (if t = o then L + 1 else lev t) = lev t := fun t ht => if_neg (fun q : t = o => hn (by rw [← q]; exact ht))
  refine ⟨?_, ?_, ?_, ?_, ?_, ?_, ?_, ?_, ?_⟩
  · rw [e, List.mem_append]
    exact ⟨.inl a.start.1, by rw [old s a.start.1]; exact a.start.2⟩
  · rw [e]
    exact List.nodup_append.mpr ⟨a.nd, by simp, fun x hx y hy q => hn (by rw [← List.mem_singleton.mp hy, ← q]; exact hx)⟩
  · intro t d h
    rcases List.mem_append.mp h with h | h
    · rcases a.val t d h with h | ⟨u, hu, h1, h2, h3⟩
      · exact .inl h
      · exact .inr ⟨u, by rw [e]; exact List.mem_append_left _ hu, h1, h2, by rw [old u hu, old t (List.mem_map.mpr ⟨_, h, rfl⟩)]; exact h3⟩
    · cases List.mem_singleton.mp h
      exact .inr ⟨th, by rw [e]; exact List.mem_append_left _ (a.w th hth).1, rfl, hl, by rw [old th (a.w th hth).1, if_pos rfl, (a.w th hth).2]⟩
  · intro t h
    rw [e] at h
    rcases List.mem_append.mp h with h | h
    · exact a.sub t h
    · rw [List.mem_singleton.mp h]; exact ho
  · intro t h
    rw [e] at h
    rcases List.mem_append.mp h with h | h
    · rw [old t h]; exact a.top t h
    · rw [if_pos (List.mem_singleton.mp h)]; exact Nat.le_refl _
  · intro t ht o' ho' hl'
    obtain ⟨h1, h2⟩ := a.on t ht o' ho' hl'
    refine ⟨by rw [e]; exact List.mem_append_left _ h1, ?_⟩
    rw [old o' h1]
    by_cases q : t = o
    · rw [if_pos q]
      have := a.top o' h1
      omega
    · rw [if_neg q]; exact h2
  · intro t h
    rw [e] at h
    rcases List.mem_append.mp h with h | h
    · rcases a.all t h with h | h | h
      · exact .inl h
      · exact .inr (.inl h)
      · exact .inr (.inr (List.mem_append_left _ h))
    · exact .inr (.inr (List.mem_append_right _ h))
  · intro t ht
    obtain ⟨h1, h2⟩ := a.w t ht
    exact ⟨by rw [e]; exact List.mem_append_left _ h1, by rw [old t h1]; exact h2⟩
  · intro t ht
    rcases List.mem_append.mp ht with ht | ht
    · obtain ⟨h1, h2⟩ := a.fr t ht
      exact ⟨by rw [e]; exact List.mem_append_left _ h1, by rw [old t h1]; exact h2⟩
    · exact ⟨by rw [e]; exact List.mem_append_right _ ht, by rw [if_pos (List.mem_singleton.mp ht)]⟩
end DF
namespace DF
open Enc (enc)
open PySem PySem.Spec PyProof.Rows L2 Evl RT
/-- the walk's beginning -/
theorem Walk.init {ths : List Th} {lk : Th → Th → Bool} {s : Th} (hs : s ∈ ths) : Walk ths lk s [(s, .none)] (fun _ => 0) 0 [] [s] [] where
  start := ⟨List.mem_singleton.mpr rfl, rfl⟩
  nd := by simp
  val := fun t d h => by cases List.mem_singleton.mp h; exact .inl ⟨rfl, rfl⟩
  sub := fun t h => by rw [List.mem_singleton.mp h]; exact hs
  top := fun t h => Nat.zero_le _
  on := fun t h => nomatch h
  all := fun t h => .inr (.inl h)
  w := fun t h => ⟨h, rfl⟩
  fr := fun t h => nomatch h
/-- one thread of the shell is left: all its others are reached -/
theorem Walk.leave {ths : List Th} {lk : Th → Th → Bool} {s : Th} {ps : List (Th × PyData)} {lev : Th → Nat} {L : Nat} {pr W fresh : List Th} (a : Walk ths lk s ps lev L pr W fresh) {th : Th} (hth : th ∈ W) (h : ∀ o ∈ ths, lk th o = true → o ∈ ps.map (·.1)) :
    Walk ths lk s ps lev L (pr ++ [th]) W fresh :=
  { a with
    on := fun t ht o ho hl => by
      rcases List.mem_append.mp ht with ht | ht
      · exact a.on t ht o ho hl
      · rw [List.mem_singleton.mp ht] at hl ⊢
        refine ⟨h o ho hl, ?_⟩
        have := a.top o (h o ho hl)
        rw [(a.w th hth).2]
        exact this
    all := fun t ht => by
      rcases a.all t ht with h | h | h
      · exact .inl (List.mem_append_left _ h)
      · exact .inr (.inl h)
      · exact .inr (.inr h) }
/-- the next shell -/
theorem Walk.next {ths : List Th} {lk : Th → Th → Bool} {s : Th} {ps : List (Th × PyData)} {lev : Th → Nat} {L : Nat} {pr W fresh : List Th} (a : Walk ths lk s ps lev L pr W fresh) (h : ∀ t ∈ W, t ∈ pr) : Walk ths lk s ps lev (L + 1) pr fresh [] :=
  { a with
    top := fun t ht => Nat.le_succ_of_le (a.top t ht)
    all := fun t ht => by
      rcases a.all t ht with q | q | q
      · exact .inl q
      · exact .inl (h t q)
      · exact .inr (.inl q)
    w := a.fr
    fr := fun t h => nomatch h }
/-- the end -/
theorem Walk.levels {ths : List Th} {lk : Th → Th → Bool} {s : Th} {ps : List (Th × PyData)} {lev : Th → Nat} {L : Nat} {pr : List Th} (a : Walk ths lk s ps lev L pr [] []) : Levels ths lk s (ps.map (·.1)) lev where
  start := a.start
  from_ := fun t ht hne => by
    obtain ⟨⟨t', d⟩, h, rfl⟩ := List.mem_map.mp ht
    rcases a.val t' d h with ⟨q, _⟩ | ⟨u, hu, _, h1, h2⟩
    · exact absurd q hne
    · exact ⟨u, hu, h1, h2⟩
  on := fun t ht o ho hl => by
    rcases a.all t ht with q | q | q
    · exact a.on t q o ho hl
    · cases q
    · cases q
  sub := a.sub
end DF

/-! ### a written dict of one pair whose key is a tuple -/
namespace DF
open PySem PySem.Spec PyProof.Rows L2
section
variable {prog : Program} {w : World} {K : Type} [DecidableEq K] {knd : HeapKind prog w K} {A : Around} {E : Value → Shared → Prop} {s : Shared}
theorem walk_dispH {env : PySem.Env} {keys : List (Option Expr)} {values : List Expr} {pos : Pos} {Q : Value → Shared → Prop} (hu : knd.room A)
    (hall : keys.all (·.isSome) = true) (hl : keys.length = values.length) (h0 : keys ≠ []) (hlen : keys.length ≤ 15)
    (h : wpAny (model prog w) A (evalPairs (pairTrees keys values env pos)) (fun vs s₁ => ∃ ps, CarriesH knd s₁.heap vs ps ∧ s₁.heap.DictOfH knd s.heap.objs.size [] ∧
      ∀ h' tk, h'.DictOfH knd s.heap.objs.size (storedAllH [] ps) → Heap.SameBut s.heap.objs.size s₁.heap h' → Q (.ref s.heap.objs.size) { s₁ with heap := h', toks := tk }) E
      { s with heap := s.heap.push { cls := .type "dict", data := .dict #[] } }) :
    wpAny (model prog w) A (eval (.Dict keys values pos) env) Q E s := by
  have hn := pairTrees_length keys values env pos hall hl
  have hne : pairTrees keys values env pos ≠ [] := by
    intro he
    rw [he] at hn
    exact h0 (List.length_eq_zero_iff.mp hn.symm)
  rw [arm_eval_Dict, zip_pairTrees keys values env pos hall hl, dictDisplay_pairs _ hne (by omega)]
  exact wpAny_bind (wpAny_standAt (wpAny_bind (wpAny_subDictH (knd := knd) (Q := fun d s' => wpAny (model prog w) A (pure (Value.ref d)) Q E s') hu (by rw [hn]; exact hlen)
    (wpAny_mono h (fun vs s₁ h₁ => by obtain ⟨ps, hc, hm, hq⟩ := h₁; exact ⟨ps, hc, hm, fun h' tk a b => wpAny_pure (hq h' tk a b)⟩) fun _ _ e => e))))
end
/-- {k: v}, k a tuple; the new dict stands empty while the pair is made -/
def tDispT (tk tv : TE) : TE := fun σ H Q => ∀ p, H p = none → tk σ (upd H p (.dT [])) fun x H1 => tv σ H1 fun y H2 => H2 p = some (.dT []) ∧ ∃ b ks, x = .ref b ∧ H2 b = some (.tup (ks.map kV)) ∧ Q (.ref p) (upd H2 p (.dT [(ks, y)]))
theorem pe_dispT {X : Cx} {pos : Pos} {k v : Expr} {tk tv : TE} (hu : X.A.units + 1 < cLine) (hk : PE X k tk) (hv : PE X v tv) : PE X (.Dict [some k] [v] pos) (tDispT tk tv) := by
  refine ⟨fun pins s σ H Q I q => ?_⟩
  have hn := I.hok.fresh (Nat.le_refl s.heap.objs.size)
  have I1 := I.laid (a := s.heap.objs.size) (o := .dT []) (h' := s.heap.push { cls := .type "dict", data := .dict #[] }) (t' := s.toks) (fun _ _ q => Heap.get?_push_of_some _ q) (Nat.le_refl _) (dt_empty s.heap I.big)
  refine walk_dispH (knd := tupleKind (mixKind X.prog X.w)) (by show X.A.units < cLine; omega) rfl rfl (by simp) (show 1 ≤ 15 by decide)
    (pairTrees_cons_walk (thn (hk.run pins _ σ _ _ I1 (q _ hn)) fun u s1 ⟨x, H1, I2, rx, q1⟩ => thn (hv.run pins s1 σ H1 _ I2 q1) fun vv s2 ⟨y, H2, I3, ry, e, b, ks, ex, eb, q2⟩ => pairTrees_nil_walk ?_))
  subst ex
  cases (show u = Value.ref b from rx)
  obtain ⟨z, hd, xs0, r0, dd⟩ := dt_of I3.hok e
  cases r0
  refine ⟨[(ks, b, vv)], ⟨rfl, rfl, key_of I3.hok eb, trivial⟩, dd, fun h' tk dd' hs => ⟨.ref s.heap.objs.size, _, ?_, rfl, q2⟩⟩
  obtain ⟨o, es, ep, hq, h2, h3, h4, _, h5⟩ := dd'
  refine d_write I3 (by rw [e]; exact True.intro) hs ⟨o, hq⟩ ⟨?_, hd, _, (KT.put (H := H2) (kvs := []) (xs := []) .nil ks eb ry).keeps fun c ys ec => ?_, o, es, ep, hq, h2, h3, h4, h5⟩
  · rw [sizeLine_eq]; simp
  · rw [upd_ne (ne_of ec e (fun z => nomatch z))]
    exact ec
end DF
namespace DF
open Enc (enc)
open PySem PySem.Spec PyProof.Rows L2 Evl RT
/-! ### tuples stand -/
def ExT (H H' : Hp) : Prop := ∀ (a : Addr) (xs : List V), H a = some (.tup xs) → H' a = some (.tup xs)
theorem ExT.refl (H : Hp) : ExT H H := fun _ _ h => h
theorem ExT.of {H H' : Hp} (e : Ex H H') : ExT H H' := fun _ _ h => e _ _ h
theorem ExT.trans {H H1 H' : Hp} (a : ExT H H1) (b : ExT H1 H') : ExT H H' := fun x xs h => b x xs (a x xs h)
theorem ExT.upd {H : Hp} {p : Addr} {o : HO} (h : ∀ ys, H p ≠ some (.tup ys)) : ExT H (L2.upd H p o) := fun a xs q => by rw [upd_ne (fun e => h xs (by rw [← e]; exact q))]; exact q
theorem Tp.th_inv {H : Hp} {v : V} {t : Th} (h : Tp H v (enc t)) : ∃ a, v = .ref a ∧ H a = some (.tup [.str (thS t.w), .int t.k]) := by
  obtain ⟨a, xs, rfl, ha, tA⟩ := Tp.tup_inv (ds := [.str (thS t.w), .int t.k]) h
  cases tA with
  | cons h1 h2 =>
    cases h2 with
    | cons h2 h3 =>
      cases h3
      cases Tp.str_inv h1
      cases Tp.int_inv h2
      exact ⟨a, rfl, ha⟩
theorem Tp.th {H : Hp} {a : Addr} {t : Th} (h : H a = some (.tup [.str (thS t.w), .int t.k])) : Tp H (.ref a) (enc t) := .tup h (.cons (.str _) (.cons (.int _) .nil))
theorem Tp.thT {H H' : Hp} {v : V} {t : Th} (e : ExT H H') (h : Tp H v (enc t)) : Tp H' v (enc t) := by
  obtain ⟨a, rfl, ha⟩ := h.th_inv
  exact .th (e _ _ ha)
theorem TpAll.thT {H H' : Hp} (e : ExT H H') : ∀ {ts : List Th} {vs : List V}, TpAll H vs (ts.map enc) → TpAll H' vs (ts.map enc)
  | [], _, h => by cases h; exact .nil
  | _ :: _, _, h => by
    cases h with
    | cons h1 h2 => exact .cons (Tp.thT e h1) (TpAll.thT e h2)
/-- what a dict's value may be -/
def DV (d : PyData) : Prop := plain d = true ∨ ∃ t : Th, d = enc t
theorem Tp.dv {H H' : Hp} {v : V} {d : PyData} (e : ExT H H') (f : DV d) (h : Tp H v d) : Tp H' v d := by
  rcases f with f | ⟨t, rfl⟩
  · exact (h.plain (H' := H') f).tp
  · exact Tp.thT e h
theorem Ent2.dv {H H' : Hp} (e : ExT H H') : ∀ {kvs : List (List Key × V)} {ps : List (Th × PyData)}, (∀ q ∈ ps, DV q.2) → Ent2 H kvs ps → Ent2 H' kvs ps
  | _, _, _, .nil => .nil
  | _, _, f, .cons h1 h2 h3 => .cons h1 (h2.dv e (f _ List.mem_cons_self)) (Ent2.dv e (fun q hq => f q (List.mem_cons_of_mem _ hq)) h3)
theorem Ent2.len {H : Hp} : ∀ {kvs : List (List Key × V)} {ps : List (Th × PyData)}, Ent2 H kvs ps → kvs.length = ps.length
  | _, _, .nil => rfl
  | _, _, .cons _ _ h => by simp only [List.length_cons]; rw [Ent2.len h]
abbrev ks (ps : List (Th × PyData)) : List Th := ps.map (·.1)
theorem lookT_none {ps : List (Th × PyData)} {t : Th} (h : t ∉ ks ps) : lookT ps t = none := by
  unfold lookT
  rw [Option.map_eq_none_iff, List.find?_eq_none]
  intro q hq
  simp only [decide_eq_true_eq]
  exact fun e => h (List.mem_map.mpr ⟨q, hq, e⟩)
theorem lookT_some : ∀ {ps : List (Th × PyData)} {t : Th} {d : PyData}, (ks ps).Nodup → (t, d) ∈ ps → lookT ps t = some d
  | [], _, _, _, h => by cases h
  | (u, x) :: ps, t, d, nd, h => by
    have nd' := List.nodup_cons.mp nd
    unfold lookT
    by_cases e : u = t
    · subst e
      rw [List.find?_cons_of_pos (by simp)]
      rcases List.mem_cons.mp h with h | h
      · cases h; rfl
      · exact absurd (List.mem_map.mpr ⟨_, h, rfl⟩) nd'.1
    · rw [List.find?_cons_of_neg (by simpa using e)]
      rcases List.mem_cons.mp h with h | h
      · cases h; exact absurd rfl e
      · exact lookT_some nd'.2 h
theorem lookT_mem {ps : List (Th × PyData)} {t : Th} {d : PyData} (h : lookT ps t = some d) : (t, d) ∈ ps := by
  unfold lookT at h
  obtain ⟨q, h1, h2⟩ := Option.map_eq_some_iff.mp h
  have h3 := List.mem_of_find?_eq_some h1
  have h4 := List.find?_some h1
  simp only [decide_eq_true_eq] at h4
  rw [← h2, ← h4]
  exact h3
/-- a dict of threads at p -/
structure DicAt (H : Hp) (p : Addr) (ps : List (Th × PyData)) : Prop where
  ex : ∃ kvs, H p = some (.dT kvs) ∧ Ent2 H kvs ps
  dv : ∀ q ∈ ps, DV q.2
theorem DicAt.keep {H H' : Hp} {p : Addr} {ps : List (Th × PyData)} (d : DicAt H p ps) (e : ExT H H') (h : H' p = H p) : DicAt H' p ps := by
  obtain ⟨⟨kvs, h1, h2⟩, h3⟩ := d
  exact ⟨⟨kvs, by rw [h]; exact h1, h2.dv e h3⟩, h3⟩
theorem DicAt.mono {H H' : Hp} {p : Addr} {ps : List (Th × PyData)} (d : DicAt H p ps) (e : Ex H H') : DicAt H' p ps := by
  obtain ⟨⟨kvs, h1, h2⟩, h3⟩ := d
  exact ⟨⟨kvs, e _ _ h1, h2.mono e⟩, h3⟩
theorem DicAt.notup {H : Hp} {p : Addr} {ps : List (Th × PyData)} (d : DicAt H p ps) : ∀ ys, H p ≠ some (.tup ys) := fun ys h => by
  obtain ⟨⟨kvs, h1, _⟩, _⟩ := d
  rw [h1] at h; cases h
theorem DicAt.nolst {H : Hp} {p : Addr} {ps : List (Th × PyData)} (d : DicAt H p ps) : ∀ ys, H p ≠ some (.lst ys) := fun ys h => by
  obtain ⟨⟨kvs, h1, _⟩, _⟩ := d
  rw [h1] at h; cases h
theorem DicAt.get_none {H : Hp} {p : Addr} {ps : List (Th × PyData)} (d : DicAt H p ps) {v : V} {t : Th} (ht : Tp H v (enc t)) (hn : t ∉ ks ps) : DGet H p v none := by
  obtain ⟨⟨kvs, h1, h2⟩, _⟩ := d
  obtain ⟨b, rfl, hb⟩ := ht.th_inv
  have g := DGet.t (k := keyT t) h1 hb
  rcases h2.look t with ⟨_, h4⟩ | ⟨x, u, h3, _, _⟩
  · rw [h4] at g; exact g
  · rw [lookT_none hn] at h3; cases h3
theorem DicAt.get_some {H : Hp} {p : Addr} {ps : List (Th × PyData)} (d : DicAt H p ps) {v : V} {t : Th} {x : PyData} (nd : (ks ps).Nodup) (ht : Tp H v (enc t)) (hm : (t, x) ∈ ps) : ∃ u, DGet H p v (some u) ∧ Tp H u x := by
  obtain ⟨⟨kvs, h1, h2⟩, _⟩ := d
  obtain ⟨b, rfl, hb⟩ := ht.th_inv
  have g := DGet.t (k := keyT t) h1 hb
  rcases h2.look t with ⟨h3, _⟩ | ⟨y, u, h3, h4, h5⟩
  · rw [lookT_some nd hm] at h3; cases h3
  · rw [lookT_some nd hm] at h3
    cases h3
    rw [h4] at g
    exact ⟨u, g, h5⟩
theorem DicAt.put {H : Hp} {p : Addr} {ps : List (Th × PyData)} (d : DicAt H p ps) {v w : V} {t : Th} {x : PyData} (ht : Tp H v (enc t)) (hn : t ∉ ks ps) (hw : Tp H w x) (hx : DV x) (hl : ps.length < 100000) :
    ∃ o, DPut H p v w (upd H p o) ∧ DicAt (upd H p o) p (ps ++ [(t, x)]) ∧ ExT H (upd H p o) := by
  have eT : ∀ o, ExT H (upd H p o) := fun o => ExT.upd d.notup
  obtain ⟨⟨kvs, h1, h2⟩, h3⟩ := d
  obtain ⟨b, rfl, hb⟩ := ht.th_inv
  have hnone : valV kvs (keyT t) = none := by
    rcases h2.look t with ⟨_, h4⟩ | ⟨x, u, h5, _, _⟩
    · exact h4
    · rw [lookT_none hn] at h5; cases h5
  have hp := DPut.t (k := keyT t) (v := w) h1 hb (sz_lt (by rw [h2.len]; exact hl))
  rw [putK_new w hnone] at hp
  have f : ∀ q ∈ ps ++ [(t, x)], DV q.2 := fun q hq => by
    rcases List.mem_append.mp hq with h | h
    · exact h3 q h
    · rw [List.mem_singleton.mp h]; exact hx
  exact ⟨_, hp, ⟨⟨_, upd_same, (h2.snoc hw).dv (eT _) f⟩, f⟩, eT _⟩
/-- a list of threads at f -/
structure ThsAt (H : Hp) (f : Addr) (ts : List Th) : Prop where
  ex : ∃ vs, H f = some (.lst vs) ∧ TpAll H vs (ts.map enc)
theorem ThsAt.tp {H : Hp} {f : Addr} {ts : List Th} (h : ThsAt H f ts) : Tp H (.ref f) (enc ts) := by
  obtain ⟨vs, h1, h2⟩ := h.ex
  exact .lst h1 h2
theorem ThsAt.keep {H H' : Hp} {f : Addr} {ts : List Th} (d : ThsAt H f ts) (e : ExT H H') (h : H' f = H f) : ThsAt H' f ts := by
  obtain ⟨vs, h1, h2⟩ := d.ex
  exact ⟨vs, by rw [h]; exact h1, h2.thT e⟩
theorem ThsAt.mono {H H' : Hp} {f : Addr} {ts : List Th} (d : ThsAt H f ts) (e : Ex H H') : ThsAt H' f ts := by
  obtain ⟨vs, h1, h2⟩ := d.ex
  exact ⟨vs, e _ _ h1, h2.mono e⟩
theorem ThsAt.notup {H : Hp} {f : Addr} {ts : List Th} (d : ThsAt H f ts) : ∀ ys, H f ≠ some (.tup ys) := fun ys h => by
  obtain ⟨vs, h1, h2⟩ := d.ex
  rw [h1] at h; cases h
theorem ThsAt.of {H : Hp} {v : V} {ts : List Th} (h : Tp H v (enc ts)) : ∃ f, v = .ref f ∧ ThsAt H f ts := by
  obtain ⟨a, xs, rfl, h1, h2⟩ := Tp.lst_inv h
  exact ⟨a, rfl, xs, h1, h2⟩
theorem ThsAt.push {H : Hp} {f : Addr} {ts : List Th} {v : V} {t : Th} (d : ThsAt H f ts) (hv : Tp H v (enc t)) : ∃ vs, H f = some (.lst vs) ∧ vs.length = ts.length ∧ ThsAt (upd H f (.lst (vs ++ [v]))) f (ts ++ [t]) ∧ ExT H (upd H f (.lst (vs ++ [v]))) := by
  have eT : ∀ o, ExT H (upd H f o) := fun o => ExT.upd d.notup
  obtain ⟨vs, h1, h2⟩ := d.ex
  refine ⟨vs, h1, by rw [h2.len, List.length_map], ⟨_, upd_same, ?_⟩, eT _⟩
  have h3 : TpAll H (vs ++ [v]) ((ts ++ [t]).map enc) := by
    rw [List.map_append]
    exact h2.snoc hv
  exact h3.thT (eT _)
section
variable {K : PySem.W.Frag} {H H' : Hp} {σ : L2.St} {D : Ends} {t u : TS} {ρ : Rho} {tt tu : TT} {te : TE}
theorem s_loopV {a : Addr} {xs : List V} {j : Nat} {js : List Nat} (I : Nat → Hp → Prop) (hj : j ∈ js) (h0 : I 0 H) (hl : ∀ k H', I k H' → H' a = some (.lst xs))
    (turn : ∀ (k : Nat) (x : V), xs[k]? = some x → ∀ (σ' : L2.St) (H' : Hp) (D' : Ends), Buts js σ σ' → I k H' → D'.rt = D.rt → (∀ σ2 H2, Buts js σ σ2 → I (k + 1) H2 → D'.nx σ2 H2) → t D' (σ'.set j (some x)) H')
    (done : ∀ σ' H', Buts js σ σ' → I xs.length H' → D.nx σ' H') : tFor (iList K (tC (.ref a))) (gName j) t D σ H := by
  refine ⟨a, rfl, ⟨xs, SqL.of (hl 0 H h0)⟩, ?_⟩
  refine for_list (xs := xs) (fun k σ' H' => Buts js σ σ' ∧ I k H') ⟨Buts.refl _ _, h0⟩ (fun k σ' H' _ pv => SqL.of (hl k H' pv.2)) (fun k x σ' H' hx pv => ?_) (fun σ' H' pv => done σ' H' pv.1 pv.2)
  exact turn k x hx σ' H' _ pv.1 pv.2 rfl fun σ2 H2 b i => ⟨b, i⟩
theorem s_while (W : Nat → L2.St → Hp → Prop) {m : Nat} (h0 : W m σ H)
    (turn : ∀ m σ H, W m σ H → ∃ b : Bool, (∀ Q : Bool → Hp → Prop, (∀ H', Ex H H' → Q b H') → tt σ H Q) ∧ (b = false → ∀ H', Ex H H' → D.nx σ H') ∧
      (b = true → ∀ H' D', Ex H H' → D'.rt = D.rt → (∀ m' σ2 H2, m' < m → W m' σ2 H2 → D'.nx σ2 H2) → t D' σ H')) : tWhile tt t D σ H := by
  refine ⟨W, ⟨m, h0⟩, fun m σ H w => ?_⟩
  obtain ⟨b, h1, h2, h3⟩ := turn m σ H w
  refine h1 _ fun H' e => ?_
  cases b with
  | true => exact ⟨fun σ' H' => ∃ m', m' < m ∧ W m' σ' H', fun _ _ h => h, h3 rfl H' _ e rfl fun m' σ2 H2 hm hw => ⟨m', hm, hw⟩⟩
  | false => exact h2 rfl H' e
/-- a thread asked for in a dict of threads -/
theorem t_dnotin {i j : Nat} {v : V} {x : Th} {p : Addr} {ps : List (Th × PyData)} (nd : (ks ps).Nodup) (hi : σ[i]? = some (some v)) (hv : Tp H v (enc x)) (hj : σ[j]? = some (some (.ref p))) (d : DicAt H p ps) {Q : Bool → Hp → Prop} (q : Q (!decide (x ∈ ks ps)) H) : tB (tDNotIn (tVar i) (tVar j)) σ H Q := by
  refine ⟨v, hi, .ref p, hj, p, ?_⟩
  by_cases h : x ∈ ks ps
  · obtain ⟨⟨x', y⟩, hm, rfl⟩ := List.mem_map.mp h
    obtain ⟨w, g, _⟩ := d.get_some nd hv hm
    rw [decide_eq_true h] at q
    exact ⟨some w, rfl, g, _, rfl, q⟩
  · rw [decide_eq_false h] at q
    exact ⟨none, rfl, d.get_none hv h, _, rfl, q⟩
theorem t_din {i j : Nat} {v : V} {x : Th} {p : Addr} {ps : List (Th × PyData)} (nd : (ks ps).Nodup) (hi : σ[i]? = some (some v)) (hv : Tp H v (enc x)) (hj : σ[j]? = some (some (.ref p))) (d : DicAt H p ps) {Q : Bool → Hp → Prop} (q : Q (decide (x ∈ ks ps)) H) : tB (tDIn (tVar i) (tVar j)) σ H Q := by
  refine ⟨v, hi, .ref p, hj, p, ?_⟩
  by_cases h : x ∈ ks ps
  · obtain ⟨⟨x', y⟩, hm, rfl⟩ := List.mem_map.mp h
    obtain ⟨w, g, _⟩ := d.get_some nd hv hm
    rw [decide_eq_true h] at q
    exact ⟨some w, rfl, g, _, rfl, q⟩
  · rw [decide_eq_false h] at q
    exact ⟨none, rfl, d.get_none hv h, _, rfl, q⟩
end
/-! ### what the two walks promise -/
def lkU (c : Cl) (up : Bool) (t o : Th) : Bool := if up = true then aboveB c o t else aboveB c t o
/-- the walk's end: each thread's value is the one ahead -/
def LedOn (c : Cl) (up : Bool) (s : Th) (ps : List (Th × PyData)) : Prop := ∃ lev, Levels (threads c) (lkU c up) s (ks ps) lev ∧ (ks ps).Nodup ∧
  ∀ t d, (t, d) ∈ ps → (t = s ∧ d = .none) ∨ ∃ u ∈ ks ps, d = enc u ∧ lkU c up u t = true ∧ lev t = lev u + 1
def spLed (K : PySem.W.Frag) : Sp := fun vs H Q _ => ∃ (c : Cl) (s : Th) (b : Bool), RepAll K H vs [.d (enc c), .d (enc s), .d (.bool b)] ∧ Good c ∧ s.ok c ∧
  ∀ p H' ps, Ex H H' → H p = none → DicAt H' p ps → LedOn c b s ps → Q (.ref p) H'
end DF

namespace DF
open Enc (enc)
open PySem PySem.Spec PyProof.Rows L2 Evl RT
theorem Tp.thOwn {H : Hp} {v : V} {t : Th} (h : Tp H v (enc t)) : Own H v (enc t) [] := by
  obtain ⟨a, rfl, ha⟩ := h.th_inv
  have h1 : OwnAll H [V.str (thS t.w), V.int t.k] [.str (thS t.w), .int t.k] ([] ++ ([] ++ [])) := .cons (.str _) (.cons (.int _) .nil fun _ z => nomatch z) fun _ z => nomatch z
  exact .tup ha h1
section
variable {K : PySem.W.Frag} {H H' : Hp} {σ : L2.St} {D : Ends} {t u : TS} {ρ : Rho} {tt tu : TT} {te : TE} {ta : TA} {E : XK}
theorem VD.toT {x : Th} (h : VD K te ρ (enc x)) : VN K te ρ (enc x) := fun σ H n Q q => h σ H n Q fun v H' e w => q v H' e ⟨[], Tp.thOwn w, fun _ z => nomatch z⟩
theorem q_setVar {i j : Nat} {v : V} (h : σ[i]? = some (some v)) (k : u D (σ.set j (some v)) H) : tSeq (tAsg (tVar i) (gName j)) u D σ H := ⟨v, h, k⟩
theorem q_setLed {i : Nat} {c : Cl} {s : Th} {b : Bool} (ha : AE K ta ρ [.d (enc c), .d (enc s), .d (.bool b)]) (g : Good c) (hs : s.ok c) (n : Env K H σ ρ)
    (k : ∀ p H' ps, Ex H H' → H p = none → DicAt H' p ps → LedOn c b s ps → u D (σ.set i (some (.ref p))) H') : tSeq (tAsg (tCall (spLed K) [] E ta) (gName i)) u D σ H :=
  ha σ H n _ fun vs H1 e1 r1 => by
    show spLed K (vs ++ []) H1 _ E
    rw [List.append_nil]
    exact ⟨c, s, b, r1, g, hs, fun p H' ps e2 hp d l => k p H' ps (e1.trans e2) (fresh_back e1 hp) d l⟩
end
/-- each next one is linked to the one ahead -/
def Chain (lk : Th → Th → Bool) (xs : List Th) : Prop := ∀ i a b, xs[i]? = some a → xs[i + 1]? = some b → lk a b = true
/-- a way from s to o, of n steps -/
structure Way (c : Cl) (s o : Th) (n : Nat) (w : List Th) : Prop where
  len : w.length = n + 1
  sub : ∀ t ∈ w, t ∈ threads c
  first : w[0]? = some s
  last : w[n]? = some o
  chain : Chain (fun a b => aboveB c b a) w
/-- what way_up tells -/
def Told (c : Cl) (s o : Th) (r : PyData) : Prop := ∃ keys lev, Levels (threads c) (lkU c true) s keys lev ∧ ((o ∉ keys ∧ r = .none) ∨ (o ∈ keys ∧ ∃ w, r = enc w ∧ Way c s o (lev o) w))
theorem rev_at {fr : List Th} {i : Nat} (h : i < fr.length) : ((List.range fr.length).map fun k => fr.getD (fr.length - 1 - k) default)[i]? = fr[fr.length - 1 - i]? := by
  rw [List.getElem?_map, List.getElem?_range h, List.getElem?_eq_getElem (show fr.length - 1 - i < fr.length by omega)]
  simp only [Option.map_some]
  rw [List.getD_eq_getElem?_getD, List.getElem?_eq_getElem (show fr.length - 1 - i < fr.length by omega)]
  rfl
theorem way_rev {c : Cl} {s o : Th} {n : Nat} {fr : List Th} (hl : fr.length = n + 1) (hs : ∀ t ∈ fr, t ∈ threads c) (h0 : fr[0]? = some o) (h1 : fr[n]? = some s) (hc : Chain (fun a b => aboveB c a b) fr) :
    Way c s o n ((List.range fr.length).map fun k => fr.getD (fr.length - 1 - k) default) := by
  refine ⟨by simp [hl], fun t ht => ?_, ?_, ?_, fun i a b ha hb => ?_⟩
  · obtain ⟨k, hk, rfl⟩ := List.mem_map.mp ht
    have hk := List.mem_range.mp hk
    rw [List.getD_eq_getElem?_getD, List.getElem?_eq_getElem (show fr.length - 1 - k < fr.length by omega)]
    exact hs _ (List.getElem_mem _)
  · rw [rev_at (by omega), show fr.length - 1 - 0 = n by omega]; exact h1
  · rw [rev_at (by omega), show fr.length - 1 - n = 0 by omega]; exact h0
  · have hi : i + 1 < fr.length := by
      have := (List.getElem?_eq_some_iff.mp hb).1
      simpa using this
    rw [rev_at (by omega)] at ha
    rw [rev_at hi] at hb
    exact hc (fr.length - 1 - (i + 1)) b a hb (by rw [show fr.length - 1 - (i + 1) + 1 = fr.length - 1 - i by omega]; exact ha)
theorem chain_snoc {lk : Th → Th → Bool} {xs : List Th} {b : Th} (h : Chain lk xs) (hb : ∀ a, xs.getLast? = some a → lk a b = true) : Chain lk (xs ++ [b]) := fun i x y hx hy => by
  have hi : i + 1 < (xs ++ [b]).length := (List.getElem?_eq_some_iff.mp hy).1
  rw [List.length_append] at hi
  simp only [List.length_cons, List.length_nil] at hi
  by_cases e : i + 1 < xs.length
  · rw [List.getElem?_append_left (by omega)] at hx
    rw [List.getElem?_append_left e] at hy
    exact h i x y hx hy
  · have e' : i + 1 = xs.length := by omega
    rw [List.getElem?_append_left (by omega)] at hx
    rw [List.getElem?_append_right (by omega), show i + 1 - xs.length = 0 by omega] at hy
    cases hy
    exact hb x (by rw [List.getLast?_eq_getElem?, show xs.length - 1 = i by omega]; exact hx)
theorem DicAt.get_ex {H H' : Hp} {p : Addr} {ps : List (Th × PyData)} (d : DicAt H p ps) (e : Ex H H') {v : V} {t : Th} {x : PyData} (nd : (ks ps).Nodup) (ht : Tp H v (enc t)) (hm : (t, x) ∈ ps) : ∃ u, DGet H' p v (some u) ∧ Tp H u x := by
  obtain ⟨⟨kvs, h1, h2⟩, _⟩ := d
  obtain ⟨b, rfl, hb⟩ := ht.th_inv
  have g := DGet.t (k := keyT t) (e _ _ h1) (e _ _ hb)
  rcases h2.look t with ⟨h3, _⟩ | ⟨y, u, h3, h4, h5⟩
  · rw [lookT_some nd hm] at h3; cases h3
  · rw [lookT_some nd hm] at h3
    cases h3
    rw [h4] at g
    exact ⟨u, g, h5⟩
theorem lev_all {ths : List Th} {lk : Th → Th → Bool} {s : Th} {keys : List Th} {lev : Th → Nat} (lv : Levels ths lk s keys lev) : ∀ (n : Nat) (t : Th), t ∈ keys → lev t = n → ∀ k ≤ n, k ∈ keys.map lev := by
  intro n
  induction n with
  | zero => intro t ht h k hk; exact List.mem_map.mpr ⟨t, ht, by omega⟩
  | succ n ih =>
    intro t ht h k hk
    by_cases e : k = n + 1
    · exact List.mem_map.mpr ⟨t, ht, by omega⟩
    · by_cases q : t = s
      · subst q
        rw [lv.start.2] at h; omega
      · obtain ⟨u, hu, _, h2⟩ := lv.from_ t ht q
        exact ih u hu (by omega) k (by omega)
theorem lev_lt {ths : List Th} {lk : Th → Th → Bool} {s : Th} {ps : List (Th × PyData)} {lev : Th → Nat} (lv : Levels ths lk s (ks ps) lev) (t : Th) (ht : t ∈ ks ps) : lev t < ps.length := by
  have h := nodup_le (xs := List.range (lev t + 1)) (ys := (ks ps).map lev) List.nodup_range fun k hk => lev_all lv _ t ht rfl k (by have := List.mem_range.mp hk; omega)
  simp at h
  omega
end DF

namespace DF
open Enc (enc)
open PySem PySem.Spec PyProof.Rows L2 Evl RT
theorem nodup_map {α β : Type} {f : α → β} : ∀ {xs : List α}, xs.Nodup → (∀ x ∈ xs, ∀ y ∈ xs, f x = f y → x = y) → (xs.map f).Nodup
  | [], _, _ => List.nodup_nil
  | x :: xs, h, q => by
    have h' := List.nodup_cons.mp h
    rw [List.map_cons]
    refine List.nodup_cons.mpr ⟨fun hm => ?_, nodup_map h'.2 fun a ha b hb => q a (List.mem_cons_of_mem _ ha) b (List.mem_cons_of_mem _ hb)⟩
    obtain ⟨y, hy, e⟩ := List.mem_map.mp hm
    have := q y (List.mem_cons_of_mem _ hy) x List.mem_cons_self e
    exact h'.1 (by rw [← this]; exact hy)
theorem threads_nodup (c : Cl) : (threads c).Nodup := by
  unfold threads
  refine List.nodup_append.mpr ⟨nodup_map List.nodup_range fun x _ y _ e => ?_, nodup_map List.nodup_range fun x _ y _ e => ?_, fun x hx y hy e => ?_⟩
  · simp only [Th.mk.injEq, true_and] at e; omega
  · simp only [Th.mk.injEq, true_and] at e; omega
  · obtain ⟨i, _, rfl⟩ := List.mem_map.mp hx
    obtain ⟨j, _, rfl⟩ := List.mem_map.mp hy
    simp at e
/-- the walk by whole shells: all of lower levels are left -/
structure Shell (ths : List Th) (lk : Th → Th → Bool) (s : Th) (ps : List (Th × PyData)) (lev : Th → Nat) (L : Nat) (W : List Th) : Prop where
  start : s ∈ ks ps ∧ lev s = 0
  nd : (ks ps).Nodup
  from_ : ∀ t ∈ ks ps, t ≠ s → ∃ u ∈ ks ps, lk u t = true ∧ lev t = lev u + 1
  sub : ∀ t ∈ ks ps, t ∈ ths
  top : ∀ t ∈ ks ps, lev t ≤ L
  on : ∀ t ∈ ks ps, t ∉ W → ∀ o ∈ ths, lk t o = true → o ∈ ks ps ∧ lev o ≤ lev t + 1
  w : ∀ t ∈ W, t ∈ ks ps ∧ lev t = L
  val : ∀ t d, (t, d) ∈ ps → d = .int (lev t : Int)
def nextW (ths : List Th) (lk : Th → Th → Bool) (keys W : List Th) : List Th := ths.filter fun o => !decide (o ∈ keys) && W.any fun u => lk u o
theorem Shell.init {ths : List Th} {lk : Th → Th → Bool} {s : Th} (hs : s ∈ ths) : Shell ths lk s [(s, .int 0)] (fun _ => 0) 0 [s] where
  start := ⟨List.mem_singleton.mpr rfl, rfl⟩
  nd := by simp [ks]
  from_ := fun t h n => absurd (List.mem_singleton.mp h) n
  sub := fun t h => by rw [List.mem_singleton.mp h]; exact hs
  top := fun t h => Nat.zero_le _
  on := fun t h n => absurd h n
  w := fun t h => ⟨h, rfl⟩
  val := fun t d h => by cases List.mem_singleton.mp h; rfl
theorem Shell.next {ths : List Th} {lk : Th → Th → Bool} {s : Th} {ps : List (Th × PyData)} {lev : Th → Nat} {L : Nat} {W : List Th} (a : Shell ths lk s ps lev L W) (ndT : ths.Nodup) :
    Shell ths lk s (ps ++ (nextW ths lk (ks ps) W).map fun o => (o, .int ((L + 1 : Nat) : Int))) (fun x => if x ∈ nextW ths lk (ks ps) W then L + 1 else lev x) (L + 1) (nextW ths lk (ks ps) W) := by
  generalize hfr : nextW ths lk (ks ps) W = fr
  have mem : ∀ o, o ∈ fr ↔ o ∈ ths ∧ o ∉ ks ps ∧ ∃ u ∈ W, lk u o = true := fun o => by
    rw [← hfr]; unfold nextW; simp only [List.mem_filter, Bool.and_eq_true, Bool.not_eq_true', decide_eq_false_iff_not, List.any_eq_true]
  have ndF : fr.Nodup := by rw [← hfr]; exact ndT.sublist List.filter_sublist
  have e : ks (ps ++ fr.map fun o => (o, PyData.int ((L + 1 : Nat) : Int))) = ks ps ++ fr := by unfold ks; rw [List.map_append, List.map_map]; simp [Function.comp_def]
  have old : ∀ t ∈ ks ps, (if t ∈ fr then L + 1 else lev t) = lev t := fun t ht => if_neg fun h => ((mem t).mp h).2.1 ht
  refine ⟨?_, ?_, ?_, ?_, ?_, ?_, ?_, ?_⟩
  · rw [e, List.mem_append]; exact ⟨.inl a.start.1, by rw [old _ a.start.1]; exact a.start.2⟩
  · rw [e]; exact List.nodup_append.mpr ⟨a.nd, ndF, fun x hx y hy q => ((mem y).mp hy).2.1 (by rw [← q]; exact hx)⟩
  · rw [e]; intro t ht hs
    rcases List.mem_append.mp ht with ht | ht
    · obtain ⟨u, hu, h1, h2⟩ := a.from_ t ht hs
      exact ⟨u, List.mem_append_left _ hu, h1, by rw [old t ht, old u hu]; exact h2⟩
    · obtain ⟨_, _, u, hu, h1⟩ := (mem t).mp ht
      have hw := a.w u hu
      exact ⟨u, List.mem_append_left _ hw.1, h1, by rw [if_pos ht, old u hw.1, hw.2]⟩
  · rw [e]; intro t ht
    rcases List.mem_append.mp ht with ht | ht
    · exact a.sub t ht
    · exact ((mem t).mp ht).1
  · rw [e]; intro t ht
    rcases List.mem_append.mp ht with ht | ht
    · rw [old t ht]; exact Nat.le_succ_of_le (a.top t ht)
    · rw [if_pos ht]; exact Nat.le_refl _
  · rw [e]; intro t ht hn o ho hl
    rcases List.mem_append.mp ht with ht | ht
    · by_cases hW : t ∈ W
      · by_cases hk : o ∈ ks ps
        · refine ⟨List.mem_append_left _ hk, ?_⟩
          rw [old t ht, old o hk, (a.w t hW).2]
          exact Nat.le_succ_of_le (a.top o hk)
        · have hf := (mem o).mpr ⟨ho, hk, t, hW, hl⟩
          refine ⟨List.mem_append_right _ hf, ?_⟩
          rw [if_pos hf, old t ht, (a.w t hW).2]
          exact Nat.le_refl _
      · obtain ⟨h1, h2⟩ := a.on t ht hW o ho hl
        exact ⟨List.mem_append_left _ h1, by rw [old t ht, old o h1]; exact h2⟩
    · exact absurd ht hn
  · intro t ht
    rw [e]
    exact ⟨List.mem_append_right _ ht, if_pos ht⟩
  · intro t d hm
    rcases List.mem_append.mp hm with hm | hm
    · rw [old t (List.mem_map.mpr ⟨_, hm, rfl⟩)]; exact a.val t d hm
    · obtain ⟨o, ho, q⟩ := List.mem_map.mp hm
      cases q
      rw [if_pos ho]
theorem Shell.levels {ths : List Th} {lk : Th → Th → Bool} {s : Th} {ps : List (Th × PyData)} {lev : Th → Nat} {L : Nat} (a : Shell ths lk s ps lev L []) : Levels ths lk s (ks ps) lev where
  start := a.start
  from_ := a.from_
  on := fun t ht o ho hl => a.on t ht (fun h => nomatch h) o ho hl
  sub := a.sub
/-- what the law's own rounds promise -/
def Rounds (c : Cl) (s : Th) (ps : List (Th × PyData)) : Prop := ∃ lev, Levels (threads c) (lkU c true) s (ks ps) lev ∧ (ks ps).Nodup ∧ ∀ t d, (t, d) ∈ ps → d = .int (lev t : Int)
def spRounds (K : PySem.W.Frag) : Sp := fun vs H Q _ => ∃ (c : Cl) (s : Th), RepAll K H vs [.d (enc c), .d (enc s)] ∧ Good c ∧ s.ok c ∧
  ∀ p H' ps, Ex H H' → H p = none → DicAt H' p ps → Rounds c s ps → Q (.ref p) H'
section
variable {K : PySem.W.Frag} {H H' : Hp} {σ : L2.St} {D : Ends} {t u : TS} {ρ : Rho} {tt tu : TT} {te : TE} {ta : TA} {E : XK}
theorem q_setRounds {i : Nat} {c : Cl} {s : Th} (ha : AE K ta ρ [.d (enc c), .d (enc s)]) (g : Good c) (hs : s.ok c) (n : Env K H σ ρ)
    (k : ∀ p H' ps, Ex H H' → H p = none → DicAt H' p ps → Rounds c s ps → u D (σ.set i (some (.ref p))) H') : tSeq (tAsg (tCall (spRounds K) [] E ta) (gName i)) u D σ H :=
  ha σ H n _ fun vs H1 e1 r1 => by
    show spRounds K (vs ++ []) H1 _ E
    rw [List.append_nil]
    exact ⟨c, s, r1, g, hs, fun p H' ps e2 hp d l => k p H' ps (e1.trans e2) (fresh_back e1 hp) d l⟩
end
end DF

namespace DF
open Enc (enc)
open PySem PySem.Spec PyProof.Rows L2 Evl RT
/-- a slot that holds a dict of threads -/
def dicE (ps : List (Th × PyData)) : Ent := .pr (fun H v => ∃ p, v = .ref p ∧ DicAt H p ps) (fun _ _ _ e ⟨p, h1, h2⟩ => ⟨p, h1, h2.mono e⟩)
section
variable {K : PySem.W.Frag} {H H' : Hp} {σ : L2.St} {D : Ends} {t u : TS} {ρ : Rho} {tt tu : TT} {te tb : TE} {ta : TE} {E : XK} {ps : List (Th × PyData)} {x : Th} {d : PyData}
theorem v_dget (nd : (ks ps).Nodup) (hm : (x, d) ∈ ps) (ha : VE K ta ρ (dicE ps)) (hb : VD K tb ρ (enc x)) : VD K (tDGet ta tb) ρ d := fun σ H n Q q =>
  ha σ H n _ fun u H1 e1 r1 => hb σ H1 (n.mono e1) _ fun v H2 e2 r2 => by
    obtain ⟨p, rfl, dp⟩ := r1
    obtain ⟨w, g, tw⟩ := (dp.mono e2).get_some nd r2 hm
    exact ⟨p, w, rfl, g, q w H2 (e1.trans e2) tw⟩
theorem t_dni (nd : (ks ps).Nodup) (ha : VD K ta ρ (enc x)) (hb : VE K tb ρ (dicE ps)) : VT K (tB (tDNotIn ta tb)) ρ (!decide (x ∈ ks ps)) := fun σ H n Q q =>
  ha σ H n _ fun v H1 e1 r1 => hb σ H1 (n.mono e1) _ fun u H2 e2 r2 => by
    obtain ⟨p, rfl, dp⟩ := r2
    have hv := Tp.mono e2 r1
    refine ⟨p, ?_⟩
    have q := q H2 (e1.trans e2)
    by_cases h : x ∈ ks ps
    · obtain ⟨⟨x', y⟩, hm, rfl⟩ := List.mem_map.mp h
      obtain ⟨w, g, _⟩ := dp.get_some nd hv hm
      rw [decide_eq_true h] at q
      exact ⟨some w, rfl, g, _, rfl, q⟩
    · rw [decide_eq_false h] at q
      exact ⟨none, rfl, dp.get_none hv h, _, rfl, q⟩
theorem t_di (nd : (ks ps).Nodup) (ha : VD K ta ρ (enc x)) (hb : VE K tb ρ (dicE ps)) : VT K (tB (tDIn ta tb)) ρ (decide (x ∈ ks ps)) := fun σ H n Q q =>
  ha σ H n _ fun v H1 e1 r1 => hb σ H1 (n.mono e1) _ fun u H2 e2 r2 => by
    obtain ⟨p, rfl, dp⟩ := r2
    have hv := Tp.mono e2 r1
    refine ⟨p, ?_⟩
    have q := q H2 (e1.trans e2)
    by_cases h : x ∈ ks ps
    · obtain ⟨⟨x', y⟩, hm, rfl⟩ := List.mem_map.mp h
      obtain ⟨w, g, _⟩ := dp.get_some nd hv hm
      rw [decide_eq_true h] at q
      exact ⟨some w, rfl, g, _, rfl, q⟩
    · rw [decide_eq_false h] at q
      exact ⟨none, rfl, dp.get_none hv h, _, rfl, q⟩
theorem v_dlen (ha : VE K ta ρ (dicE ps)) : VD K (tCB rLenT (tCons ta tNil)) ρ (.int (ps.length : Int)) := fun σ H n Q q =>
  ha σ H n _ fun u H1 e1 r1 => by
    obtain ⟨p, rfl, ⟨⟨kvs, h1, h2⟩, h3⟩⟩ := r1
    exact ⟨p, kvs, rfl, h1, by rw [h2.len]; exact q _ H1 e1 (.int _)⟩
theorem q_for {z : Ent} {j : Nat} (h : VE K te ρ z) (n : Env K H σ ρ) (k : ∀ v H', Ex H H' → Rep K H' v z → tSeq (tFor (iList K (tC v)) (gName j) t) u D σ H') : tSeq (tFor (iList K te) (gName j) t) u D σ H := h σ H n _ fun v H' e r => k v H' e r
theorem s_for {z : Ent} {j : Nat} (h : VE K te ρ z) (n : Env K H σ ρ) (k : ∀ v H', Ex H H' → Rep K H' v z → tFor (iList K (tC v)) (gName j) t D σ H') : tFor (iList K te) (gName j) t D σ H := h σ H n _ fun v H' e r => k v H' e r
theorem q_loopV {a : Addr} {xs : List V} {j : Nat} {js : List Nat} (I : Nat → Hp → Prop) (hj : j ∈ js) (h0 : I 0 H) (hl : ∀ k H', I k H' → H' a = some (.lst xs))
    (turn : ∀ (k : Nat) (x : V), xs[k]? = some x → ∀ (σ' : L2.St) (H' : Hp) (D' : Ends), Buts js σ σ' → I k H' → D'.rt = D.rt → (∀ σ2 H2, Buts js σ σ2 → I (k + 1) H2 → D'.nx σ2 H2) → t D' (σ'.set j (some x)) H')
    (done : ∀ σ' H', Buts js σ σ' → I xs.length H' → u D σ' H') : tSeq (tFor (iList K (tC (.ref a))) (gName j) t) u D σ H :=
  s_loopV (D := { D with nx := u D }) I hj h0 hl turn done
theorem getD_th {xs : List Th} {k : Nat} (h : k < xs.length) : xs[k]? = some (xs.getD k default) := by
  rw [List.getD_eq_getElem?_getD, List.getElem?_eq_getElem h]; rfl
theorem getD_thm {xs : List Th} {k : Nat} (h : k < xs.length) : xs.getD k default ∈ xs := List.mem_of_getElem? (getD_th h)
theorem isT_th (t : Th) : isI "tuple" (enc t) = true := isI_tuple_tuple
end
end DF

namespace DF
open Enc (enc)
open PySem PySem.Spec PyProof.Rows L2 Evl RT
section
variable {K : PySem.W.Frag} {H H' : Hp} {σ : L2.St} {D : Ends} {t u : TS} {ρ : Rho} {tt tu : TT} {te tb tl : TE} {ta : TE} {E : XK}
theorem n_lcF {α β : Type} [Enc α] [Enc β] {xs : List α} {j : Nat} {vs : List Nat} (p : α → Bool) (f : α → β) (hl : VD K tl ρ (enc xs)) (hz : xs.length ≤ 10000) (hj : j ∈ vs)
    (ht : ∀ x ∈ xs, VT K tt ((wipeR ρ vs).set j (some (.d (enc x)))) (p x))
    (he : ∀ x ∈ xs, p x = true → VN K te ((wipeR ρ vs).set j (some (.d (enc x)))) (enc (f x))) : VN K (tLc (iList K tl) (gName j) tt te vs) ρ (enc ((xs.filter p).map f)) := by
  refine fun σ H n Q q => hl σ H n _ fun v H1 e1 r1 => ?_
  obtain ⟨a, us, rfl, ea, t⟩ := Tp.lst_inv r1
  refine ⟨a, rfl, ⟨us, SqL.of ea⟩, fun D hD => ?_⟩
  refine lc_list (xs := us) (fun i H' => PvN H1 D (accs p (fun x => enc (f x)) (xs.take i)) H') (by simpa [accs] using PvN.start hD) (fun i H' _ pv => SqL.of (pv.1 _ _ ea)) (fun i x H' hx pv => ⟨wipe_back hj, ?_⟩) (fun H' pv => ?_)
  · obtain ⟨d, hd, td⟩ := t.getV hx
    rw [List.getElem?_map] at hd
    cases hxi : xs[i]? with
    | none => rw [hxi] at hd; cases hd
    | some y =>
      rw [hxi] at hd
      cases hd
      have hm : y ∈ xs := List.mem_of_getElem? hxi
      have hi : i < xs.length := (List.getElem?_eq_some_iff.mp hxi).1
      have at_ := accs_take (p := p) (f := fun x => enc (f x)) hxi
      exact turnN hD pv (((n.mono e1).wipe vs).set j (z := .d (enc y)) td) (ht y hm) (he y hm) (by have := accs_len p (fun x => enc (f x)) (xs.take i); rw [List.length_take] at this; omega) at_.1 at_.2
  · rw [t.len, List.length_map, List.take_length] at pv
    have w := pv.done e1 hD
    rw [show accs p (fun x => enc (f x)) xs = ((xs.filter p).map f).map enc by unfold accs; rw [List.map_map]; rfl] at w
    exact q _ H' (e1.trans pv.1) w
theorem r_forR2 {lo hi : Int} {j : Nat} (f : Nat → Option PyData) (hl : VD K ta ρ (.int lo)) (hh : VD K tb ρ (.int hi)) (b1 : -100000 ≤ lo ∧ lo ≤ 1000000) (b2 : -100000 ≤ hi ∧ hi ≤ 1000000) (hs : Sub (ρ.set j none) ρ)
    (hb : ∀ i : Nat, lo + (i : Int) < hi → RD K t ((ρ.set j none).set j (some (.d (.int (lo + (i : Int)))))) (match f i with | some d => .ret d | none => .nx (ρ.set j none))) :
    RD K (tFor (iRng2 (tCons ta (tCons tb tNil))) (gName j) t) ρ (findR f (ρ.set j none) (List.range (hi - lo).toNat)) := fun D σ H n q =>
  hl σ H n _ fun v H1 e1 r1 => hh σ H1 (n.mono e1) _ fun v' H2 e2 r2 => by
    cases Tp.int_inv r1
    cases Tp.int_inv r2
    have E2 := e1.trans e2
    refine ⟨lo, hi, rfl, ⟨by omega, by omega, by omega, by omega⟩, ?_⟩
    refine for_range (lo := lo) (n := (hi - lo).toNat) (fun i σ' H' => Ex H H' ∧ Env K H' σ' (ρ.set j none) ∧ Ends.to D K H (findR f (ρ.set j none) ((List.range (hi - lo).toNat).drop i))) ⟨E2, (n.mono E2).sub hs, by simpa using q⟩ (fun i σ' H' hi' pv => ?_) (fun σ' H' pv => ?_)
    · obtain ⟨e, n', q'⟩ := pv
      have hd : (List.range (hi - lo).toNat).drop i = i :: (List.range (hi - lo).toNat).drop (i + 1) := by
        rw [List.drop_eq_getElem_cons (by simpa using hi')]
        simp
      rw [hd] at q'
      refine hb i (by omega) _ _ H' (n'.set j (z := .d (.int (lo + (i : Int)))) (.int _)) ?_
      cases hf : f i with
      | some d =>
        simp only [findR, hf] at q'
        exact fun v H2 e2 w => q' v H2 (e.trans e2) (w.back e)
      | none =>
        simp only [findR, hf] at q'
        exact fun σ2 H2 e2 n2 => ⟨e.trans e2, n2, q'⟩
    · obtain ⟨e, n', q'⟩ := pv
      have hd : (List.range (hi - lo).toNat).drop (hi - lo).toNat = [] := by simp
      rw [hd] at q'
      exact q' σ' H' e n'
theorem atI_neg1 {α : Type} [Enc α] [Inhabited α] {xs : List α} (h : 0 < xs.length) : atI (xs.map enc) (-1) = some (enc (xs.getD (xs.length - 1) default)) := by
  have e : L2.ixN (xs.map (enc : α → PyData)).length (-1) = some (xs.length - 1) := by
    unfold L2.ixN
    rw [List.length_map]
    simp
    omega
  unfold L2.atI
  rw [e]
  show (xs.map enc)[xs.length - 1]? = _
  rw [List.getElem?_map, List.getElem?_eq_getElem (by omega), List.getD_eq_getElem?_getD, List.getElem?_eq_getElem (by omega)]
  rfl
theorem v_ixLast {α : Type} [Enc α] [Inhabited α] {xs : List α} (ha : VD K ta ρ (enc xs)) (hb : VD K tb ρ (.int (-1))) (h : 0 < xs.length) : VD K (tOp (rIx K) ta tb) ρ (enc (xs.getD (xs.length - 1) default)) := v_ixL ha hb (atI_neg1 h)
end
end DF
namespace DF
open Enc (enc)
open PySem
/-! ### what is reached -/
inductive Reach (ths : List Th) (lk : Th → Th → Bool) (s : Th) : Th → Prop
  | refl : Reach ths lk s s
  | step {t o : Th} : Reach ths lk s t → o ∈ ths → lk t o = true → Reach ths lk s o
theorem Reach.trans {ths : List Th} {lk : Th → Th → Bool} {a b c : Th} (h : Reach ths lk a b) (k : Reach ths lk b c) : Reach ths lk a c := by
  induction k with
  | refl => exact h
  | step _ ho hl ih => exact ih.step ho hl
theorem Reach.one {ths : List Th} {lk : Th → Th → Bool} {a b : Th} (hb : b ∈ ths) (h : lk a b = true) : Reach ths lk a b := .step .refl hb h
theorem Reach.rev {ths : List Th} {lk lk' : Th → Th → Bool} (hlk : ∀ a b, lk' b a = lk a b) {s t : Th} (hs : s ∈ ths) (h : Reach ths lk s t) : t ∈ ths ∧ Reach ths lk' t s := by
  induction h with
  | refl => exact ⟨hs, .refl⟩
  | step hr ho hl ih => exact ⟨ho, (Reach.one ih.1 (by rw [hlk]; exact hl)).trans ih.2⟩
theorem Levels.reach {ths : List Th} {lk : Th → Th → Bool} {s : Th} {keys : List Th} {lev : Th → Nat} (lv : Levels ths lk s keys lev) (t : Th) : t ∈ keys ↔ Reach ths lk s t := by
  constructor
  · have : ∀ (n : Nat) (t : Th), t ∈ keys → lev t = n → Reach ths lk s t := by
      intro n
      induction n with
      | zero =>
        intro t ht h
        by_cases e : t = s
        · rw [e]; exact .refl
        · obtain ⟨u, _, _, h2⟩ := lv.from_ t ht e; omega
      | succ n ih =>
        intro t ht h
        by_cases e : t = s
        · rw [e]; exact .refl
        · obtain ⟨u, hu, h1, h2⟩ := lv.from_ t ht e
          exact (ih u hu (by omega)).step (lv.sub t ht) h1
    exact fun h => this _ t h rfl
  · intro h
    induction h with
    | refl => exact lv.start.1
    | step _ ho hl ih => exact (lv.on _ ih _ ho hl).1
theorem above_swap {c : Cl} (g : Good c) {a b : Th} (ha : a.ok c) (hb : b.ok c) (hw : a.w ≠ b.w) : aboveB c a b = !aboveB c b a := by
  unfold Th.ok at ha hb
  obtain ⟨aw, ak⟩ := a
  obtain ⟨bw, bk⟩ := b
  have one : ∀ x : Int, (x = 0 ∨ x = 1) → (decide (x = 1) = !decide (x = 0)) := fun x h => by rcases h with rfl | rfl <;> rfl
  cases aw with
  | true =>
    cases bw with
    | true => exact absurd rfl hw
    | false =>
      simp only [if_true, if_false, Bool.false_eq_true] at ha hb
      have := one _ (g.bit (g.at_ (k := bk.toNat) (by omega)) ak.toNat)
      simpa [aboveB] using this
  | false =>
    cases bw with
    | false => exact absurd rfl hw
    | true =>
      simp only [if_true, if_false, Bool.false_eq_true] at ha hb
      have := one _ (g.bit (g.at_ (k := ak.toNat) (by omega)) bk.toNat)
      simp only [aboveB, Bool.false_eq_true, Bool.true_eq_false, if_false, if_true]
      rw [this, Bool.not_not]
theorem above_kind {c : Cl} {a b : Th} (h : aboveB c a b = true) : a.w ≠ b.w := fun e => by
  unfold aboveB at h
  rw [if_pos e] at h
  cases h
/-- a way up leads from each thread to each other one -/
def Hangs (c : Cl) : Prop := ∀ s ∈ threads c, ∀ t ∈ threads c, Reach (threads c) (lkU c true) s t
/-- some threads, not all, that lie wholly above all others -/
def Rises (c : Cl) (ts : List Th) : Prop := ts ≠ [] ∧ ts.length < (threads c).length ∧ (∃ p : Th → Bool, ts = (threads c).filter p) ∧ ∀ a ∈ ts, ∀ b ∈ threads c, b ∉ ts → a.w ≠ b.w → aboveB c a b = true
theorem Rises.not {c : Cl} (g : Good c) {ts : List Th} (r : Rises c ts) : ¬ Hangs c := fun h => by
  obtain ⟨h0, h1, ⟨p, rfl⟩, h3⟩ := r
  obtain ⟨a, ha⟩ := List.exists_mem_of_ne_nil _ h0
  obtain ⟨b, hb, hpb⟩ := List.length_filter_lt_length_iff_exists.mp h1
  have hb' : b ∉ (threads c).filter p := fun h => hpb (List.mem_filter.mp h).2
  have all : ∀ t, Reach (threads c) (lkU c true) a t → t ∈ (threads c).filter p := by
    intro t ht
    induction ht with
    | refl => exact ha
    | @step x o hr ho hl ih =>
      by_cases hm : o ∈ (threads c).filter p
      · exact hm
      · have hl : aboveB c o x = true := hl
        have hk := above_kind hl
        have h4 := h3 x ih o ho hm (Ne.symm hk)
        have hx := (List.mem_filter.mp ih).1
        rw [above_swap g (threads_ok.mp hx) (threads_ok.mp ho) (Ne.symm hk), hl] at h4
        cases h4
  exact hb' (all b (h a (List.mem_filter.mp ha).1 b hb))
/-- what raised_threads tells -/
def Raised (c : Cl) (r : PyData) : Prop := (r = .none ∧ Hangs c) ∨ ∃ ts, r = enc ts ∧ Rises c ts
theorem threads_head {c : Cl} (g : Good c) : (threads c).getD 0 default = ⟨true, 0⟩ ∧ (⟨true, 0⟩ : Th) ∈ threads c := by
  have h : (⟨true, 0⟩ : Th) ∈ threads c := threads_ok.mpr ⟨Int.le_refl _, by rw [if_pos rfl]; have := g.wide; show (0 : Int) < _; omega⟩
  refine ⟨?_, h⟩
  have := g.wide
  unfold threads
  generalize (c.getD 0 default).length = m at this
  rw [List.getD_eq_getElem?_getD, List.getElem?_append_left (by rw [List.length_map, List.length_range]; omega), List.getElem?_map, List.getElem?_range (by omega)]
  rfl
/-- the keys of a walk that are not all threads -/
theorem keys_less {c : Cl} {keys : List Th} (nd : keys.Nodup) (sub : ∀ t ∈ keys, t ∈ threads c) : (keys.length < (threads c).length ∧ ∃ t ∈ threads c, t ∉ keys) ∨ ((threads c).length ≤ keys.length ∧ ∀ t ∈ threads c, t ∈ keys) := by
  have h1 := nodup_le nd sub
  by_cases h : ∀ t ∈ threads c, t ∈ keys
  · exact .inr ⟨nodup_le (threads_nodup c) h, h⟩
  · obtain ⟨t, ht⟩ := Classical.not_forall.mp h
    obtain ⟨ht, hn⟩ := Classical.not_imp.mp ht
    refine .inl ⟨?_, t, ht, hn⟩
    have nd2 : (t :: keys).Nodup := List.nodup_cons.mpr ⟨hn, nd⟩
    have := nodup_le nd2 (ys := threads c) fun x hx => by
      rcases List.mem_cons.mp hx with rfl | hx
      · exact ht
      · exact sub x hx
    rw [List.length_cons] at this
    omega
theorem rises_up {c : Cl} (g : Good c) {s : Th} {keys : List Th} {lev : Th → Nat} (lv : Levels (threads c) (lkU c true) s keys lev) (hn : ∃ t ∈ threads c, t ∉ keys) : Rises c ((threads c).filter fun t => decide (t ∈ keys)) := by
  have hs := lv.sub s lv.start.1
  obtain ⟨t, ht, hk⟩ := hn
  refine ⟨List.ne_nil_of_mem (List.mem_filter.mpr ⟨hs, decide_eq_true lv.start.1⟩), List.length_filter_lt_length_iff_exists.mpr ⟨t, ht, by simpa using hk⟩, ⟨_, rfl⟩, fun a ha b hb hnb hw => ?_⟩
  have ha' := List.mem_filter.mp ha
  have hak := of_decide_eq_true ha'.2
  have hbk : b ∉ keys := fun h => hnb (List.mem_filter.mpr ⟨hb, decide_eq_true h⟩)
  rw [above_swap g (threads_ok.mp ha'.1) (threads_ok.mp hb) hw]
  cases h : aboveB c b a with
  | false => rfl
  | true => exact absurd (lv.on a hak b hb h).1 hbk
theorem rises_down {c : Cl} (g : Good c) {s : Th} {keys : List Th} {lev : Th → Nat} (lv : Levels (threads c) (lkU c false) s keys lev) (hn : ∃ t ∈ threads c, t ∉ keys) : Rises c ((threads c).filter fun t => !decide (t ∈ keys)) := by
  have hs := lv.sub s lv.start.1
  obtain ⟨t, ht, hk⟩ := hn
  refine ⟨List.ne_nil_of_mem (List.mem_filter.mpr ⟨ht, by simpa using hk⟩), List.length_filter_lt_length_iff_exists.mpr ⟨s, hs, by simpa using lv.start.1⟩, ⟨_, rfl⟩, fun a ha b hb hnb hw => ?_⟩
  have ha' := List.mem_filter.mp ha
  have hak : a ∉ keys := by simpa using ha'.2
  have hbk : b ∈ keys := by
    by_cases h : b ∈ keys
    · exact h
    · exact absurd (List.mem_filter.mpr ⟨hb, by simpa using h⟩) hnb
  rw [above_swap g (threads_ok.mp ha'.1) (threads_ok.mp hb) hw]
  cases h : aboveB c b a with
  | false => rfl
  | true => exact absurd (lv.on b hbk a ha'.1 h).1 hak
theorem hangs_of {c : Cl} {s : Th} {k1 k2 : List Th} {l1 l2 : Th → Nat} (up : Levels (threads c) (lkU c true) s k1 l1) (dn : Levels (threads c) (lkU c false) s k2 l2) (h1 : ∀ t ∈ threads c, t ∈ k1) (h2 : ∀ t ∈ threads c, t ∈ k2) : Hangs c := fun a ha b hb => by
  have hs := up.sub s up.start.1
  have x := (dn.reach a).mp (h2 a ha)
  exact ((x.rev (lk' := lkU c true) (fun p q => rfl) hs).2).trans ((up.reach b).mp (h1 b hb))
theorem lev_le {ths : List Th} {lk : Th → Th → Bool} {s : Th} {keys : List Th} {lev : Th → Nat} (lv : Levels ths lk s keys lev) {t : Th} (ht : t ∈ keys) : lev t < ths.length := by
  have h := nodup_le (xs := List.range (lev t + 1)) (ys := ths.map lev) List.nodup_range fun k hk => by
    have h1 := lev_all lv _ t ht rfl k (by have := List.mem_range.mp hk; omega)
    obtain ⟨u, hu, e⟩ := List.mem_map.mp h1
    exact List.mem_map.mpr ⟨u, lv.sub u hu, e⟩
  simp at h
  omega
theorem Told.way {c : Cl} {s o : Th} {r : PyData} (h : Told c s o r) (k : Reach (threads c) (lkU c true) s o) : ∃ n w, r = enc w ∧ Way c s o n w ∧ n < (threads c).length := by
  obtain ⟨keys, lev, lv, h⟩ := h
  have hk := (lv.reach o).mpr k
  rcases h with ⟨hn, _⟩ | ⟨_, w, e, hw⟩
  · exact absurd hk hn
  · exact ⟨lev o, w, e, hw, lev_le lv hk⟩
theorem cut_good {d : Dr} (g : GoodD d) : GoodD ⟨d.th.take 7, d.ti, d.tr.take 7⟩ := ⟨g.ti, by have := g.th; simp; omega, by have := g.tr; simp; omega, fun s hs => g.sh s (List.mem_of_mem_take hs), fun s hs => g.tl s (List.mem_of_mem_take hs)⟩
end DF

namespace DF
open Enc (enc)
/-! ### hanging together, of cloths turned and sewn -/
def cl (c : Cl) (i j : Nat) : Int := (c.getD i default).getD j default
abbrev wd (c : Cl) : Nat := (c.getD 0 default).length
theorem ok_warp {c : Cl} {k : Int} : (⟨true, k⟩ : Th).ok c ↔ 0 ≤ k ∧ k < (wd c : Int) := by unfold Th.ok; rw [if_pos rfl]
theorem ok_weft {c : Cl} {k : Int} : (⟨false, k⟩ : Th).ok c ↔ 0 ≤ k ∧ k < (c.length : Int) := by unfold Th.ok; rw [if_neg (show ¬ (false = true) by decide)]
theorem above_wf (c : Cl) (j i : Int) : aboveB c ⟨true, j⟩ ⟨false, i⟩ = decide (cl c i.toNat j.toNat = 1) := by simp [aboveB, cl]
theorem above_fw (c : Cl) (i j : Int) : aboveB c ⟨false, i⟩ ⟨true, j⟩ = decide (cl c i.toNat j.toNat = 0) := by simp [aboveB, cl]
theorem above_same (c : Cl) (w : Bool) (i j : Int) : aboveB c ⟨w, i⟩ ⟨w, j⟩ = false := by simp [aboveB]
theorem Reach.map {ths ths' : List Th} {lk lk' : Th → Th → Bool} (f : Th → Th) (hm : ∀ t ∈ ths, f t ∈ ths') (hl : ∀ t ∈ ths, ∀ o ∈ ths, lk t o = true → lk' (f t) (f o) = true) {s t : Th} (hs : s ∈ ths) (h : Reach ths lk s t) : t ∈ ths ∧ Reach ths' lk' (f s) (f t) := by
  induction h with
  | refl => exact ⟨hs, .refl⟩
  | step _ ho hl' ih => exact ⟨ho, ih.2.step (hm _ ho) (hl _ ih.1 _ ho hl')⟩
theorem Reach.mapRev {ths ths' : List Th} {lk lk' : Th → Th → Bool} (f : Th → Th) (hm : ∀ t ∈ ths, f t ∈ ths') (hl : ∀ t ∈ ths, ∀ o ∈ ths, lk t o = true → lk' (f o) (f t) = true) {s t : Th} (hs : s ∈ ths) (h : Reach ths lk s t) : t ∈ ths ∧ Reach ths' lk' (f t) (f s) := by
  induction h with
  | refl => exact ⟨hs, .refl⟩
  | step _ ho hl' ih => exact ⟨ho, (Reach.one (hm _ ih.1) (hl _ ih.1 _ ho hl')).trans ih.2⟩
/-- warps and wefts by their numbers -/
def mapT (fw fi : Nat → Nat) (t : Th) : Th := if t.w = true then ⟨true, (fw t.k.toNat : Int)⟩ else ⟨false, (fi t.k.toNat : Int)⟩
theorem mapT_warp (fw fi : Nat → Nat) (k : Int) : mapT fw fi ⟨true, k⟩ = ⟨true, (fw k.toNat : Int)⟩ := rfl
theorem mapT_weft (fw fi : Nat → Nat) (k : Int) : mapT fw fi ⟨false, k⟩ = ⟨false, (fi k.toNat : Int)⟩ := rfl
theorem mapT_ok {c c' : Cl} {fw fi : Nat → Nat} (hw : ∀ j < wd c, fw j < wd c') (hi : ∀ i < c.length, fi i < c'.length) {a : Th} (ha : a.ok c) : (mapT fw fi a).ok c' := by
  obtain ⟨w, k⟩ := a
  cases w with
  | true =>
    have := ok_warp.mp ha
    rw [mapT_warp]
    have h := hw k.toNat (by omega)
    exact ok_warp.mpr (by omega)
  | false =>
    have := ok_weft.mp ha
    rw [mapT_weft]
    have h := hi k.toNat (by omega)
    exact ok_weft.mpr (by omega)
theorem mapT_above {c c' : Cl} {fw fi : Nat → Nat} (h : ∀ i j, i < c.length → j < wd c → cl c' (fi i) (fw j) = cl c i j) {a b : Th} (ha : a.ok c) (hb : b.ok c) : aboveB c' (mapT fw fi a) (mapT fw fi b) = aboveB c a b := by
  obtain ⟨w, k⟩ := a
  obtain ⟨v, l⟩ := b
  cases w with
  | true =>
    cases v with
    | true => rw [mapT_warp, mapT_warp, above_same, above_same]
    | false =>
      have h1 := ok_warp.mp ha
      have h2 := ok_weft.mp hb
      rw [mapT_warp, mapT_weft, above_wf, above_wf, Int.toNat_natCast, Int.toNat_natCast, h _ _ (by omega) (by omega)]
  | false =>
    cases v with
    | false => rw [mapT_weft, mapT_weft, above_same, above_same]
    | true =>
      have h1 := ok_weft.mp ha
      have h2 := ok_warp.mp hb
      rw [mapT_warp, mapT_weft, above_fw, above_fw, Int.toNat_natCast, Int.toNat_natCast, h _ _ (by omega) (by omega)]
/-- a map that keeps the crossings keeps the ways -/
theorem reach_mapT {c c' : Cl} {fw fi : Nat → Nat} (hw : ∀ j < wd c, fw j < wd c') (hi : ∀ i < c.length, fi i < c'.length) (h : ∀ i j, i < c.length → j < wd c → cl c' (fi i) (fw j) = cl c i j) {s t : Th} (hs : s ∈ threads c) (r : Reach (threads c) (lkU c true) s t) :
    Reach (threads c') (lkU c' true) (mapT fw fi s) (mapT fw fi t) :=
  (r.map (mapT fw fi) (fun t ht => threads_ok.mpr (mapT_ok hw hi (threads_ok.mp ht))) (fun t ht o ho hl => by
    show aboveB c' _ _ = true
    rw [mapT_above h (threads_ok.mp ho) (threads_ok.mp ht)]
    exact hl) hs).2
/-- a quarter turn exchanges the kinds -/
def sw (t : Th) : Th := ⟨!t.w, t.k⟩
theorem sw_sw (t : Th) : sw (sw t) = t := by obtain ⟨w, k⟩ := t; simp [sw]
theorem cl_quarter {c : Cl} {i j : Nat} (hi : i < c.length) (hj : j < wd c) : cl (quarter c) j i = 1 - cl c i j := by
  unfold cl
  rw [quarter_at c hj, getD_map _ _ _ hi, getD_lt hi]
theorem wd_quarter {c : Cl} (g : Good c) : wd (quarter c) = c.length := by
  unfold wd
  rw [quarter_at c (by have := g.wide; omega), List.length_map]
theorem sw_ok {c : Cl} (g : Good c) {t : Th} (h : t.ok c) : (sw t).ok (quarter c) := by
  obtain ⟨w, k⟩ := t
  cases w with
  | true => exact ok_weft.mpr (by rw [quarter_len]; exact ok_warp.mp h)
  | false => exact ok_warp.mpr (by rw [wd_quarter g]; exact ok_weft.mp h)
theorem sw_above {c : Cl} (g : Good c) {a b : Th} (ha : a.ok c) (hb : b.ok c) : aboveB (quarter c) (sw a) (sw b) = aboveB c a b := by
  obtain ⟨w, k⟩ := a
  obtain ⟨v, l⟩ := b
  cases w with
  | true =>
    cases v with
    | true => show aboveB _ ⟨false, k⟩ ⟨false, l⟩ = _; rw [above_same, above_same]
    | false =>
      have h1 := ok_warp.mp ha
      have h2 := ok_weft.mp hb
      show aboveB _ ⟨false, k⟩ ⟨true, l⟩ = _
      rw [above_fw, above_wf, cl_quarter (by omega) (by omega)]
      exact decide_eq_decide.mpr (by omega)
  | false =>
    cases v with
    | false => show aboveB _ ⟨true, k⟩ ⟨true, l⟩ = _; rw [above_same, above_same]
    | true =>
      have h1 := ok_weft.mp ha
      have h2 := ok_warp.mp hb
      show aboveB _ ⟨true, k⟩ ⟨false, l⟩ = _
      rw [above_fw, above_wf, cl_quarter (by omega) (by omega)]
      exact decide_eq_decide.mpr (by omega)
theorem hangs_quarter1 {c : Cl} (g : Good c) (h : Hangs c) : Hangs (quarter c) := fun s hs t ht => by
  have gq := quarter_good g
  have back : ∀ x, x ∈ threads (quarter c) → sw x ∈ threads c := fun x hx => by
    have := sw_ok gq (threads_ok.mp hx)
    rw [quarter_quarter g] at this
    exact threads_ok.mpr this
  have r := ((h _ (back s hs) _ (back t ht)).map (ths' := threads (quarter c)) (lk' := lkU (quarter c) true) sw (fun x hx => threads_ok.mpr (sw_ok g (threads_ok.mp hx))) (fun x hx o ho hl => by
    show aboveB (quarter c) _ _ = true
    rw [sw_above g (threads_ok.mp ho) (threads_ok.mp hx)]; exact hl) (back s hs)).2
  rw [sw_sw, sw_sw] at r
  exact r
theorem hangs_quarter {c : Cl} (g : Good c) : Hangs (quarter c) ↔ Hangs c := ⟨fun h => by
  have := hangs_quarter1 (quarter_good g) h
  rw [quarter_quarter g] at this
  exact this, hangs_quarter1 g⟩
/-- seen from behind -/
theorem over_len (c : Cl) : (over c).length = c.length := by unfold over; rw [List.length_map]
theorem over_at {c : Cl} {i : Nat} (hi : i < c.length) : (over c).getD i default = (c.getD i default).reverse.map fun one => 1 - one := by
  unfold over
  rw [getD_map _ _ _ hi, getD_lt hi]
theorem wd_over {c : Cl} (g : Good c) : wd (over c) = wd c := by
  unfold wd
  rw [over_at g.pos, List.length_map, List.length_reverse]
theorem cl_over {c : Cl} (g : Good c) {i j : Nat} (hi : i < c.length) (hj : j < wd c) : cl (over c) i (wd c - 1 - j) = 1 - cl c i j := by
  unfold cl
  have hl := g.rows _ (g.at_ hi)
  rw [over_at hi, getD_map _ _ _ (by rw [List.length_reverse, hl]; show wd c - 1 - j < wd c; omega), List.getElem_reverse]
  have e : (c.getD i default).length - 1 - (wd c - 1 - j) = j := by rw [hl]; show wd c - 1 - (wd c - 1 - j) = j; omega
  have hj' : j < (c.getD i default).length := by rw [hl]; exact hj
  simp only [e]
  rw [getD_lt hj']
theorem over_above {c : Cl} (g : Good c) {a b : Th} (ha : a.ok c) (hb : b.ok c) : aboveB (over c) (mapT (fun j => wd c - 1 - j) id a) (mapT (fun j => wd c - 1 - j) id b) = aboveB c b a := by
  have bit : ∀ i j : Nat, i < c.length → (cl c i j = 0 ∨ cl c i j = 1) := fun i j hi => g.bit (g.at_ hi) j
  obtain ⟨w, k⟩ := a
  obtain ⟨v, l⟩ := b
  cases w with
  | true =>
    cases v with
    | true => rw [mapT_warp, mapT_warp, above_same, above_same]
    | false =>
      have h1 := ok_warp.mp ha
      have h2 := ok_weft.mp hb
      rw [mapT_warp, mapT_weft, above_wf, above_fw, Int.toNat_natCast, Int.toNat_natCast, id, cl_over g (by omega) (by omega)]
      exact decide_eq_decide.mpr (by omega)
  | false =>
    cases v with
    | false => rw [mapT_weft, mapT_weft, above_same, above_same]
    | true =>
      have h1 := ok_weft.mp ha
      have h2 := ok_warp.mp hb
      rw [mapT_warp, mapT_weft, above_fw, above_wf, Int.toNat_natCast, Int.toNat_natCast, id, cl_over g (by omega) (by omega)]
      exact decide_eq_decide.mpr (by omega)
theorem over_ok {c : Cl} (g : Good c) {a : Th} (ha : a.ok c) : (mapT (fun j => wd c - 1 - j) id a).ok (over c) :=
  mapT_ok (c := c) (c' := over c) (fun j hj => by rw [wd_over g]; omega) (fun i hi => by rw [over_len]; exact hi) ha
theorem over_two {c : Cl} {a : Th} (ha : a.ok c) : mapT (fun j => wd c - 1 - j) id (mapT (fun j => wd c - 1 - j) id a) = a := by
  obtain ⟨w, k⟩ := a
  cases w with
  | true =>
    have := ok_warp.mp ha
    rw [mapT_warp, mapT_warp, Th.mk.injEq]
    refine ⟨rfl, ?_⟩
    omega
  | false =>
    have := ok_weft.mp ha
    rw [mapT_weft, mapT_weft, Th.mk.injEq]
    refine ⟨rfl, ?_⟩
    simp only [id]
    omega
theorem hangs_over1 {c : Cl} (g : Good c) (h : Hangs c) : Hangs (over c) := fun s hs t ht => by
  have go := over_good g
  have back : ∀ x, x ∈ threads (over c) → mapT (fun j => wd c - 1 - j) id x ∈ threads c := fun x hx => by
    have := over_ok go (threads_ok.mp hx)
    rw [over_over, wd_over g] at this
    exact threads_ok.mpr this
  have two : ∀ x, x ∈ threads (over c) → mapT (fun j => wd c - 1 - j) id (mapT (fun j => wd c - 1 - j) id x) = x := fun x hx => by
    have := over_two (threads_ok.mp hx)
    rw [wd_over g] at this
    exact this
  have r := ((h _ (back t ht) _ (back s hs)).mapRev (ths' := threads (over c)) (lk' := lkU (over c) true) (mapT (fun j => wd c - 1 - j) id) (fun x hx => threads_ok.mpr (over_ok g (threads_ok.mp hx))) (fun x hx o ho hl => by
    show aboveB (over c) _ _ = true
    rw [over_above g (threads_ok.mp hx) (threads_ok.mp ho)]; exact hl) (back t ht)).2
  rw [two s hs, two t ht] at r
  exact r
theorem hangs_over {c : Cl} (g : Good c) : Hangs (over c) ↔ Hangs c := ⟨fun h => by
  have := hangs_over1 (over_good g) h
  rw [over_over] at this
  exact this, hangs_over1 g⟩
/-! repeated -/
theorem fitted_len (c : Cl) (m n : Nat) : (fitted c m n).length = m := by unfold fitted; simp
theorem fitted_wd {c : Cl} {m n : Nat} (hm : 0 < m) : wd (fitted c m n) = n := by
  unfold wd fitted
  rw [getD_map _ _ _ (by simpa using hm)]
  simp
theorem cl_fitted {c : Cl} (g : Good c) {m n i j : Nat} (hi : i < m) (hj : j < n) : cl (fitted c m n) i j = cl c (i % c.length) (j % wd c) := by
  unfold cl fitted
  rw [getD_map _ _ _ (by simpa using hi), getD_map _ _ _ (by simpa using hj)]
  simp only [List.getElem_range]
  rw [g.rows _ (g.at_ (Nat.mod_lt _ g.pos))]
/-- in a cloth that hangs together each thread is come to from some other one -/
theorem Hangs.into {c : Cl} (g : Good c) (h : Hangs c) {x y : Th} (hx : x ∈ threads c) (hy : y ∈ threads c) : ∃ z, Reach (threads c) (lkU c true) x z ∧ z ∈ threads c ∧ lkU c true z y = true := by
  have w0 : (⟨true, 0⟩ : Th) ∈ threads c := threads_ok.mpr (ok_warp.mpr (by have := g.wide; exact ⟨by decide, by show (0 : Int) < ((c.getD 0 default).length : Int); omega⟩))
  have f0 : (⟨false, 0⟩ : Th) ∈ threads c := threads_ok.mpr (ok_weft.mpr (by have := g.len; omega))
  obtain ⟨u, hu, ne⟩ : ∃ u ∈ threads c, u ≠ y := by
    by_cases e : (⟨true, 0⟩ : Th) = y
    · exact ⟨_, f0, fun q => by rw [← e] at q; cases q⟩
    · exact ⟨_, w0, e⟩
  have r := h u hu y hy
  cases r with
  | refl => exact absurd rfl ne
  | @step t o hr ho hl =>
    have ht : t ∈ threads c := (hr.map (ths' := threads c) (lk' := lkU c true) id (fun _ h => h) (fun _ _ _ _ h => h) hu).1
    exact ⟨t, (h x hx u hu).trans hr, ht, hl⟩
theorem hangs_fitted {c : Cl} (g : Good c) {m n : Nat} (hm : c.length ≤ m) (hn : wd c ≤ n) : Hangs (fitted c m n) ↔ Hangs c := by
  have g1 := g.len
  have g2 : 1 ≤ wd c ∧ wd c ≤ 60 := g.wide
  have fl := fitted_len c m n
  have fw := fitted_wd (c := c) (m := m) (n := n) (by omega)
  have dn : ∀ i j, i < (fitted c m n).length → j < wd (fitted c m n) → cl c (i % c.length) (j % wd c) = cl (fitted c m n) i j := fun i j hi hj => (cl_fitted g (by omega) (by omega)).symm
  have dw : ∀ j < wd (fitted c m n), j % wd c < wd c := fun j _ => Nat.mod_lt _ (by omega)
  have di : ∀ i < (fitted c m n).length, i % c.length < c.length := fun i _ => Nat.mod_lt _ (by omega)
  have up : ∀ i j, i < c.length → j < wd c → cl (fitted c m n) (id i) (id j) = cl c i j := fun i j hi hj => by rw [id, id, cl_fitted g (by omega) (by omega), Nat.mod_eq_of_lt hi, Nat.mod_eq_of_lt hj]
  have uw : ∀ j < wd c, id j < wd (fitted c m n) := fun j hj => by rw [fw]; exact Nat.lt_of_lt_of_le hj hn
  have ui : ∀ i < c.length, id i < (fitted c m n).length := fun i hi => by rw [fl]; exact Nat.lt_of_lt_of_le hi hm
  have pi : ∀ x ∈ threads c, mapT (· % wd c) (· % c.length) (mapT id id x) = x := fun x hx => by
    obtain ⟨w, k⟩ := x
    cases w with
    | true =>
      have h := ok_warp.mp (threads_ok.mp hx)
      rw [mapT_warp, mapT_warp, Th.mk.injEq]
      refine ⟨rfl, ?_⟩
      simp only [id, Int.toNat_natCast]
      rw [Nat.mod_eq_of_lt (by omega)]
      omega
    | false =>
      have h := ok_weft.mp (threads_ok.mp hx)
      rw [mapT_weft, mapT_weft, Th.mk.injEq]
      refine ⟨rfl, ?_⟩
      simp only [id, Int.toNat_natCast]
      rw [Nat.mod_eq_of_lt (by omega)]
      omega
  have inT : ∀ x ∈ threads (fitted c m n), mapT (· % wd c) (· % c.length) x ∈ threads c := fun x hx => threads_ok.mpr (mapT_ok dw di (threads_ok.mp hx))
  have inR : ∀ x ∈ threads c, mapT id id x ∈ threads (fitted c m n) := fun x hx => threads_ok.mpr (mapT_ok uw ui (threads_ok.mp hx))
  have ab : ∀ x ∈ threads (fitted c m n), ∀ y ∈ threads (fitted c m n), lkU (fitted c m n) true x y = lkU c true (mapT (· % wd c) (· % c.length) x) (mapT (· % wd c) (· % c.length) y) := fun x hx y hy => (mapT_above dn (threads_ok.mp hy) (threads_ok.mp hx)).symm
  constructor
  · intro h s hs t ht
    have r := reach_mapT dw di dn (inR s hs) (h _ (inR s hs) _ (inR t ht))
    rw [pi s hs, pi t ht] at r
    exact r
  · intro h s hs t ht
    have lift : ∀ x, Reach (threads c) (lkU c true) (mapT (· % wd c) (· % c.length) s) x → x ∈ threads c ∧ ∃ x', x' ∈ threads (fitted c m n) ∧ mapT (· % wd c) (· % c.length) x' = x ∧ Reach (threads (fitted c m n)) (lkU (fitted c m n) true) s x' := by
      intro x hx
      induction hx with
      | refl => exact ⟨inT s hs, s, hs, rfl, .refl⟩
      | @step t o _ ho hl ih =>
        obtain ⟨_, x', h1, h2, h3⟩ := ih
        refine ⟨ho, mapT id id o, inR o ho, pi o ho, h3.step (inR o ho) ?_⟩
        rw [ab _ h1 _ (inR o ho), h2, pi o ho]
        exact hl
    obtain ⟨z, hz, hzT, hl⟩ := h.into g (inT s hs) (inT t ht)
    obtain ⟨_, z', h1, h2, h3⟩ := lift z hz
    refine h3.step ht ?_
    rw [ab _ h1 _ ht, h2]
    exact hl
theorem hangs_repeated {c : Cl} (g : Good c) {d a : Nat} (hd : 1 ≤ d) (ha : 1 ≤ a) : Hangs (repeated c d a) ↔ Hangs c := by
  rw [repeated_fitted g]
  exact hangs_fitted g (Nat.le_mul_of_pos_right _ hd) (Nat.le_mul_of_pos_right _ ha)
/-! sewn -/
theorem beside_len (a b : Cl) : (beside a b).length = a.length := by unfold beside; simp
theorem beside_at {a b : Cl} {i : Nat} (hi : i < a.length) : (beside a b).getD i default = a.getD i default ++ b.getD i default := by
  unfold beside
  rw [getD_map _ _ _ (by simpa using hi)]
  simp only [List.getElem_range]
theorem wd_beside {a b : Cl} (ga : Good a) : wd (beside a b) = wd a + wd b := by
  unfold wd
  rw [beside_at ga.pos, List.length_append]
theorem cl_beside1 {a b : Cl} (ga : Good a) {i j : Nat} (hi : i < a.length) (hj : j < wd a) : cl (beside a b) i j = cl a i j := by
  unfold cl
  rw [beside_at hi, List.getD_eq_getElem?_getD, List.getElem?_append_left (by rw [ga.rows _ (ga.at_ hi)]; exact hj), ← List.getD_eq_getElem?_getD]
theorem cl_beside2 {a b : Cl} (ga : Good a) {i j : Nat} (hi : i < a.length) : cl (beside a b) i (wd a + j) = cl b i j := by
  unfold cl
  have hl := ga.rows _ (ga.at_ hi)
  rw [beside_at hi, List.getD_eq_getElem?_getD, List.getElem?_append_right (by rw [hl]; exact Nat.le_add_right _ _), hl, show wd a + j - (a.getD 0 default).length = j by show wd a + j - wd a = j; omega, ← List.getD_eq_getElem?_getD]
theorem beside_good {a b : Cl} (ga : Good a) (gb : Good b) (h : a.length = b.length) (hw : wd a + wd b ≤ 60) : Good (beside a b) := by
  have h1 : 1 ≤ wd a ∧ wd a ≤ 60 := ga.wide
  have row : ∀ r ∈ beside a b, ∃ i, i < a.length ∧ r = a.getD i default ++ b.getD i default := fun r hr => by
    unfold beside at hr
    obtain ⟨i, hi, rfl⟩ := List.mem_map.mp hr
    exact ⟨i, by simpa using hi, rfl⟩
  refine ⟨by rw [beside_len]; exact ga.len, fun r hr => ?_, ?_, fun r hr x hx => ?_⟩
  · obtain ⟨i, hi, rfl⟩ := row r hr
    show _ = wd (beside a b)
    rw [wd_beside ga, List.length_append, ga.rows _ (ga.at_ hi), gb.rows _ (gb.at_ (by omega))]
  · show 1 ≤ wd (beside a b) ∧ wd (beside a b) ≤ 60
    rw [wd_beside ga]; omega
  · obtain ⟨i, hi, rfl⟩ := row r hr
    rcases List.mem_append.mp hx with hx | hx
    · exact ga.bits _ (ga.at_ hi) x hx
    · exact gb.bits _ (gb.at_ (by omega)) x hx
theorem hangs_beside {a b : Cl} (ga : Good a) (gb : Good b) (h : a.length = b.length) (ha : Hangs a) (hb : Hangs b) : Hangs (beside a b) := by
  have l1 := ga.len
  have w1 : 1 ≤ wd a ∧ wd a ≤ 60 := ga.wide
  have fa : (⟨false, 0⟩ : Th) ∈ threads a := threads_ok.mpr (ok_weft.mpr (by omega))
  have fb : (⟨false, 0⟩ : Th) ∈ threads b := threads_ok.mpr (ok_weft.mpr (by omega))
  have uw : ∀ j < wd a, id j < wd (beside a b) := fun j hj => by rw [wd_beside ga]; exact Nat.lt_add_right _ hj
  have ui : ∀ i < a.length, id i < (beside a b).length := fun i hi => by rw [beside_len]; exact hi
  have uc : ∀ i j, i < a.length → j < wd a → cl (beside a b) (id i) (id j) = cl a i j := fun i j hi hj => cl_beside1 ga hi hj
  have vw : ∀ j < wd b, wd a + j < wd (beside a b) := fun j hj => by rw [wd_beside ga]; omega
  have vi : ∀ i < b.length, id i < (beside a b).length := fun i hi => by rw [beside_len]; exact (by omega : i < a.length)
  have vc : ∀ i j, i < b.length → j < wd b → cl (beside a b) (id i) (wd a + j) = cl b i j := fun i j hi hj => cl_beside2 ga (by omega : i < a.length)
  have all : ∀ s ∈ threads (beside a b), Reach (threads (beside a b)) (lkU (beside a b) true) s ⟨false, 0⟩ ∧ Reach (threads (beside a b)) (lkU (beside a b) true) ⟨false, 0⟩ s := fun s hs => by
    have A : ∀ x ∈ threads a, Reach (threads (beside a b)) (lkU (beside a b) true) (mapT id id x) ⟨false, 0⟩ ∧ Reach (threads (beside a b)) (lkU (beside a b) true) ⟨false, 0⟩ (mapT id id x) := fun x hx => ⟨reach_mapT uw ui uc hx (ha x hx _ fa), reach_mapT uw ui uc fa (ha _ fa x hx)⟩
    have B : ∀ x ∈ threads b, Reach (threads (beside a b)) (lkU (beside a b) true) (mapT (wd a + ·) id x) ⟨false, 0⟩ ∧ Reach (threads (beside a b)) (lkU (beside a b) true) ⟨false, 0⟩ (mapT (wd a + ·) id x) := fun x hx => ⟨reach_mapT vw vi vc hx (hb x hx _ fb), reach_mapT vw vi vc fb (hb _ fb x hx)⟩
    obtain ⟨w, k⟩ := s
    cases w with
    | true =>
      have hk := ok_warp.mp (threads_ok.mp hs)
      rw [wd_beside ga] at hk
      by_cases e : k < (wd a : Int)
      · have := A ⟨true, k⟩ (threads_ok.mpr (ok_warp.mpr ⟨hk.1, e⟩))
        rw [mapT_warp, id, Int.toNat_of_nonneg hk.1] at this
        exact this
      · have := B ⟨true, k - (wd a : Int)⟩ (threads_ok.mpr (ok_warp.mpr (by omega)))
        rw [mapT_warp, show ((wd a + (k - (wd a : Int)).toNat : Nat) : Int) = k by omega] at this
        exact this
    | false =>
      have hk := ok_weft.mp (threads_ok.mp hs)
      rw [beside_len] at hk
      have := A ⟨false, k⟩ (threads_ok.mpr (ok_weft.mpr hk))
      rw [mapT_weft, id, Int.toNat_of_nonneg hk.1] at this
      exact this
  exact fun s hs t ht => (all s hs).1.trans (all t ht).2
theorem wd_behind {a b : Cl} (ga : Good a) : wd (a ++ b) = wd a := by
  unfold wd
  rw [List.getD_eq_getElem?_getD, List.getElem?_append_left ga.pos, ← List.getD_eq_getElem?_getD]
theorem cl_behind1 {a b : Cl} {i j : Nat} (hi : i < a.length) : cl (a ++ b) i j = cl a i j := by
  unfold cl
  rw [List.getD_eq_getElem?_getD (l := a ++ b), List.getElem?_append_left hi, ← List.getD_eq_getElem?_getD]
theorem cl_behind2 {a b : Cl} {i j : Nat} : cl (a ++ b) (a.length + i) j = cl b i j := by
  unfold cl
  rw [List.getD_eq_getElem?_getD (l := a ++ b), List.getElem?_append_right (Nat.le_add_right _ _), Nat.add_sub_cancel_left, ← List.getD_eq_getElem?_getD]
theorem behind_good {a b : Cl} (ga : Good a) (gb : Good b) (h : wd a = wd b) (hl : a.length + b.length ≤ 60) : Good (a ++ b) := by
  have l1 := ga.len
  refine ⟨by rw [List.length_append]; omega, fun r hr => ?_, ?_, fun r hr x hx => ?_⟩
  · show _ = wd (a ++ b)
    rw [wd_behind ga]
    rcases List.mem_append.mp hr with hr | hr
    · exact ga.rows r hr
    · rw [gb.rows r hr]; exact h.symm
  · show 1 ≤ wd (a ++ b) ∧ wd (a ++ b) ≤ 60
    rw [wd_behind ga]; exact ga.wide
  · rcases List.mem_append.mp hr with hr | hr
    · exact ga.bits r hr x hx
    · exact gb.bits r hr x hx
theorem hangs_behind {a b : Cl} (ga : Good a) (gb : Good b) (h : wd a = wd b) (ha : Hangs a) (hb : Hangs b) : Hangs (a ++ b) := by
  have w1 : 1 ≤ wd a ∧ wd a ≤ 60 := ga.wide
  have fa : (⟨true, 0⟩ : Th) ∈ threads a := threads_ok.mpr (ok_warp.mpr (by omega))
  have fb : (⟨true, 0⟩ : Th) ∈ threads b := threads_ok.mpr (ok_warp.mpr (by omega))
  have uw : ∀ j < wd a, id j < wd (a ++ b) := fun j hj => by rw [wd_behind ga]; exact hj
  have ui : ∀ i < a.length, id i < (a ++ b).length := fun i hi => by rw [List.length_append]; exact Nat.lt_add_right _ hi
  have uc : ∀ i j, i < a.length → j < wd a → cl (a ++ b) (id i) (id j) = cl a i j := fun i j hi hj => cl_behind1 hi
  have vw : ∀ j < wd b, id j < wd (a ++ b) := fun j hj => by rw [wd_behind ga, h]; exact hj
  have vi : ∀ i < b.length, a.length + i < (a ++ b).length := fun i hi => by rw [List.length_append]; omega
  have vc : ∀ i j, i < b.length → j < wd b → cl (a ++ b) (a.length + i) (id j) = cl b i j := fun i j hi hj => cl_behind2
  have all : ∀ s ∈ threads (a ++ b), Reach (threads (a ++ b)) (lkU (a ++ b) true) s ⟨true, 0⟩ ∧ Reach (threads (a ++ b)) (lkU (a ++ b) true) ⟨true, 0⟩ s := fun s hs => by
    have A : ∀ x ∈ threads a, Reach (threads (a ++ b)) (lkU (a ++ b) true) (mapT id id x) ⟨true, 0⟩ ∧ Reach (threads (a ++ b)) (lkU (a ++ b) true) ⟨true, 0⟩ (mapT id id x) := fun x hx => ⟨reach_mapT uw ui uc hx (ha x hx _ fa), reach_mapT uw ui uc fa (ha _ fa x hx)⟩
    have B : ∀ x ∈ threads b, Reach (threads (a ++ b)) (lkU (a ++ b) true) (mapT id (a.length + ·) x) ⟨true, 0⟩ ∧ Reach (threads (a ++ b)) (lkU (a ++ b) true) ⟨true, 0⟩ (mapT id (a.length + ·) x) := fun x hx => ⟨reach_mapT vw vi vc hx (hb x hx _ fb), reach_mapT vw vi vc fb (hb _ fb x hx)⟩
    obtain ⟨w, k⟩ := s
    cases w with
    | false =>
      have hk := ok_weft.mp (threads_ok.mp hs)
      rw [List.length_append] at hk
      by_cases e : k < (a.length : Int)
      · have := A ⟨false, k⟩ (threads_ok.mpr (ok_weft.mpr ⟨hk.1, e⟩))
        rw [mapT_weft, id, Int.toNat_of_nonneg hk.1] at this
        exact this
      · have := B ⟨false, k - (a.length : Int)⟩ (threads_ok.mpr (ok_weft.mpr (by omega)))
        rw [mapT_weft, show ((a.length + (k - (a.length : Int)).toNat : Nat) : Int) = k by omega] at this
        exact this
    | true =>
      have hk := ok_warp.mp (threads_ok.mp hs)
      rw [wd_behind ga] at hk
      have := A ⟨true, k⟩ (threads_ok.mpr (ok_warp.mpr hk))
      rw [mapT_warp, id, Int.toNat_of_nonneg hk.1] at this
      exact this
  exact fun s hs t ht => (all s hs).1.trans (all t ht).2
noncomputable def hangsB (c : Cl) : Bool := @decide (Hangs c) (Classical.propDecidable _)
theorem hangsB_iff {c : Cl} : hangsB c = true ↔ Hangs c := by unfold hangsB; exact @decide_eq_true_iff _ (Classical.propDecidable _)
theorem hangsB_eq {a b : Cl} (h : Hangs a ↔ Hangs b) : hangsB a = hangsB b := by
  rw [Bool.eq_iff_iff, hangsB_iff, hangsB_iff]; exact h
end DF

namespace DF
open Enc (enc)
open PySem PySem.Spec PyProof.Rows L2 Evl RT
def five5 (c : Cl) : Cl := (c.take 5).map fun row => row.take 5
theorem five5_good {c : Cl} (g : Good c) : Good (five5 c) ∧ (five5 c).length ≤ 5 ∧ wd (five5 c) ≤ 5 := by
  have g1 := g.len
  have g2 : 1 ≤ wd c ∧ wd c ≤ 60 := g.wide
  have l : (five5 c).length = min 5 c.length := by unfold five5; simp
  have rows : ∀ r ∈ five5 c, ∃ row ∈ c, r = row.take 5 := fun r hr => by
    unfold five5 at hr
    obtain ⟨row, h, rfl⟩ := List.mem_map.mp hr
    exact ⟨row, List.mem_of_mem_take h, rfl⟩
  have rl : ∀ r ∈ five5 c, r.length = min 5 (wd c) := fun r hr => by
    obtain ⟨row, h, rfl⟩ := rows r hr
    rw [List.length_take, g.rows row h]
  have w : wd (five5 c) = min 5 (wd c) := by
    unfold wd
    have h0 : 0 < (five5 c).length := by omega
    rw [getD_lt h0]
    exact rl _ (List.getElem_mem _)
  refine ⟨⟨by omega, fun r hr => by rw [rl r hr]; exact w.symm, by show 1 ≤ wd (five5 c) ∧ wd (five5 c) ≤ 60; omega, fun r hr x hx => ?_⟩, by omega, by omega⟩
  obtain ⟨row, h, rfl⟩ := rows r hr
  exact g.bits row h x (List.mem_of_mem_take hx)
/-- as many wefts as m, told again -/
def asRows (c : Cl) (m : Nat) : Cl := (List.range m).map fun k => c.getD (k % c.length) default
theorem asRows_good {c : Cl} (g : Good c) {m : Nat} (hm : 1 ≤ m ∧ m ≤ 60) : Good (asRows c m) ∧ (asRows c m).length = m ∧ wd (asRows c m) = wd c := by
  have g1 := g.len
  have l : (asRows c m).length = m := by unfold asRows; simp
  have rows : ∀ r ∈ asRows c m, r ∈ c := fun r hr => by
    unfold asRows at hr
    obtain ⟨k, _, rfl⟩ := List.mem_map.mp hr
    exact g.at_ (Nat.mod_lt _ (by omega))
  have w : wd (asRows c m) = wd c := by
    unfold wd
    rw [getD_lt (show 0 < (asRows c m).length by omega)]
    exact g.rows _ (rows _ (List.getElem_mem _))
  exact ⟨⟨by omega, fun r hr => by rw [g.rows r (rows r hr)]; exact w.symm, by show 1 ≤ wd (asRows c m) ∧ wd (asRows c m) ≤ 60; rw [w]; exact g.wide, fun r hr => g.bits r (rows r hr)⟩, l, w⟩
def asWide (c : Cl) (n : Nat) : Cl := c.map fun row => (List.range n).map fun j => row.getD (j % row.length) default
theorem asWide_good {c : Cl} (g : Good c) {n : Nat} (hn : 1 ≤ n ∧ n ≤ 60) : Good (asWide c n) ∧ (asWide c n).length = c.length ∧ wd (asWide c n) = n := by
  have g1 := g.len
  have l : (asWide c n).length = c.length := by unfold asWide; simp
  have rows : ∀ r ∈ asWide c n, ∃ row ∈ c, r = (List.range n).map fun j => row.getD (j % row.length) default := fun r hr => by
    unfold asWide at hr
    obtain ⟨row, h, rfl⟩ := List.mem_map.mp hr
    exact ⟨row, h, rfl⟩
  have rl : ∀ r ∈ asWide c n, r.length = n := fun r hr => by
    obtain ⟨row, _, rfl⟩ := rows r hr
    simp
  have w : wd (asWide c n) = n := by
    unfold wd
    rw [getD_lt (show 0 < (asWide c n).length by omega)]
    exact rl _ (List.getElem_mem _)
  refine ⟨⟨by omega, fun r hr => by rw [rl r hr]; exact w.symm, by show 1 ≤ wd (asWide c n) ∧ wd (asWide c n) ≤ 60; rw [w]; exact hn, fun r hr x hx => ?_⟩, l, w⟩
  obtain ⟨row, h, rfl⟩ := rows r hr
  obtain ⟨j, _, rfl⟩ := List.mem_map.mp hx
  exact g.bit h _
section
variable {K : PySem.W.Frag} {H H' : Hp} {σ : L2.St} {D : Ends} {t u : TS} {ρ : Rho} {tt tu : TT} {te tb tl : TE} {ta : TE} {zs : List Ent} {d : PyData}
theorem v_callXL {R : List Ent → PyData → Prop} {S : List Ent → Addr → Prop} {E : L2.St → XK} {ta : TA} (ha : AE K ta ρ zs) (hR : R zs d) : VN K (tCallS (spX K R S) E ta) ρ d := fun σ H n Q q =>
  ha σ H n _ fun vs H1 e1 r1 => ⟨zs, r1, .inl ⟨d, hR, fun v H' e2 w => q v H' (e1.trans e2) (w.back e1)⟩⟩
theorem n_lcAt {α β : Type} [Enc α] [Enc β] {xs : List α} {j : Nat} {vs : List Nat} (f : α → β) (n : Env K H σ ρ) (hl : ∀ Q : VK, (∀ v H', Ex H H' → Tp H' v (enc xs) → Q v H') → tl σ H Q) (hz : xs.length ≤ 10000) (hj : j ∈ vs)
    (he : ∀ x ∈ xs, VN K te ((wipeR ρ vs).set j (some (.d (enc x)))) (enc (f x))) (Q : VK) (q : ∀ v H', Ex H H' → New H H' v (enc (xs.map f)) → Q v H') : tLc (iList K tl) (gName j) tYes te vs σ H Q := by
  refine hl _ fun v H1 e1 r1 => ?_
  obtain ⟨a, us, rfl, ea, t⟩ := Tp.lst_inv r1
  refine ⟨a, rfl, ⟨us, SqL.of ea⟩, fun D hD => ?_⟩
  refine lc_list (xs := us) (fun i H' => PvN H1 D ((xs.take i).map fun x => enc (f x)) H') (by simpa using PvN.start hD) (fun i H' _ pv => SqL.of (pv.1 _ _ ea)) (fun i x H' hx pv => ⟨wipe_back hj, ?_⟩) (fun H' pv => ?_)
  · obtain ⟨d, hd, td⟩ := t.getV hx
    rw [List.getElem?_map] at hd
    cases hxi : xs[i]? with
    | none => rw [hxi] at hd; cases hd
    | some y =>
      rw [hxi] at hd
      cases hd
      have hm : y ∈ xs := List.mem_of_getElem? hxi
      have hi : i < xs.length := (List.getElem?_eq_some_iff.mp hxi).1
      refine turnN hD pv (((n.mono e1).wipe vs).set j (z := .d (enc y)) td) t_yes (fun _ => he y hm) (by rw [List.length_map, List.length_take]; omega) (fun _ => ?_) (fun z => nomatch z)
      rw [List.take_add_one, hxi]
      simp
  · rw [t.len, List.length_map, List.take_length] at pv
    have w := pv.done e1 hD
    rw [show (xs.map fun x => enc (f x)) = (xs.map f).map enc by rw [List.map_map]; rfl] at w
    exact q _ H' (e1.trans pv.1) w
theorem n_slI {xs : List Int} {i : Int} (k : Nat) (ha : VD K ta ρ (enc xs)) (hb : VD K tb ρ (.int i)) (e : i = (k : Int)) : VN K (tSl (rSlL K) ta tNoPart (tPart tb)) ρ (enc (xs.take k)) := fun σ H n Q q =>
  ha σ H n _ fun v H1 e1 r => o_none (K := K) (ρ := ρ) σ H1 (n.mono e1) _ fun H2 e2 => o_some hb σ H2 (n.mono (e1.trans e2)) _ fun H3 e3 => by
    subst e
    obtain ⟨a, us, rfl, ea, t⟩ := Tp.lst_inv r
    refine ⟨a, us, rfl, SqL.of (e3 _ _ (e2 _ _ ea)), fun p hp => q _ _ (((e1.trans e2).trans e3).trans (Ex.new hp)) ?_⟩
    have c := (t.cut none (some (k : Int))).mono (e2.trans e3)
    rw [sl_to, ← List.map_take] at c
    exact (new_plain (H' := H3) hp c plain_ints).back ((e1.trans e2).trans e3)
/-- a value that stands -/
theorem sl_at {c : Cl} {v : V} (hv : Tp H v (enc c)) (Q : VK) (q : ∀ v' H', Ex H H' → Tp H' v' (enc (c.take 5)) → Q v' H') : tSl (rSlL K) (tC v) tNoPart (tPart (tC (.int 5))) σ H Q := by
  have h : VD K (tSl (rSlL K) (tVar 0) tNoPart (tPart (tC (.int 5)))) [some (.d (enc c))] (enc (c.take 5)) := v_slTo 5 (v_var rfl) v_int rfl
  obtain ⟨_, e, h⟩ := h [some v] H (Env.cons (z := .d (enc c)) hv Env.nil) Q q
  cases e
  exact h
/-- xs = [row[:5] for row in f(..)[:5]] -/
theorem q_five {A : List Ent → Prop} {P : List Ent → PyData → Prop} {E : XK} {i j : Nat} {vs : List Nat} {ta : TA} (ha : AE K ta ρ zs) (hA : A zs) (hP : ∀ r, P zs r → ∃ c : Cl, Good c ∧ r = enc c) (n : Env K H σ ρ) (hj : j ∈ vs)
    (he : ∀ row : List Int, VN K te ((wipeR ρ vs).set j (some (.d (enc row)))) (enc (row.take 5)))
    (k : ∀ c v H', Good c → Ex H H' → New H H' v (enc (five5 c)) → Env K H' (σ.set i (some v)) (ρ.set i (some (.d (enc (five5 c))))) → u D (σ.set i (some v)) H') :
    tSeq (tAsg (tLc (iList K (tSl (rSlL K) (tCall (spP K A P) [] E ta) tNoPart (tPart (tC (.int 5))))) (gName j) tYes te vs) (gName i)) u D σ H :=
  ha σ H n _ fun vs' H1 e1 r1 => by
    show spP K A P (vs' ++ []) H1 _ E
    rw [List.append_nil]
    refine ⟨zs, r1, hA, fun r hr v H2 e2 w => ?_⟩
    obtain ⟨c, gc, rfl⟩ := hP r hr
    have E2 := e1.trans e2
    show tLc (iList K (tSl (rSlL K) (tC v) tNoPart (tPart (tC (.int 5))))) (gName j) tYes te vs σ H2 (fun x H1 => u D (σ.set i (some x)) H1)
    refine n_lcAt (tl := tSl (rSlL K) (tC v) tNoPart (tPart (tC (.int 5)))) (xs := c.take 5) (fun row : List Int => row.take 5) (n.mono E2) (fun Q q => sl_at w.tp Q q) (by have := gc.len; rw [List.length_take]; omega) hj (fun row _ => he row) _ fun v3 H3 e3 w3 => ?_
    exact k c v3 H3 gc (E2.trans e3) (w3.back E2) ((n.mono (E2.trans e3)).set i (z := .d (enc (five5 c))) w3.tp)
/-- [e for x in range(m)], its items old ones -/
theorem v_rg {β : Type} [Enc β] {m : Int} {j : Nat} {vs : List Nat} (f : Nat → β) (hl : VD K tl ρ (.int m)) (hz : m ≤ 10000) (hm0 : -100000 ≤ m) (hj : j ∈ vs)
    (he : ∀ i : Nat, (i : Int) < m → VS K te ((wipeR ρ vs).set j (some (.d (.int (i : Int))))) (enc (f i))) : VD K (tLc (iRng1 (tCons tl tNil)) (gName j) tYes te vs) ρ (enc ((List.range m.toNat).map f)) :=
  (v_lcR1 (fun _ => true) (fun i => enc (f i)) hl hz hm0 hj (fun _ _ => t_yes) (fun i hi _ => he i hi)).eq (by rw [accs_yes]; show _ = Ent.d (PyData.list _); rw [List.map_map]; rfl)
end
end DF

namespace DF
open Enc (enc)
open PySem PySem.Spec PyProof.Rows L2 Evl RT
/-! ### texts -/
abbrev S (l : List Nat) : Str := ⟨l.toArray⟩
theorem S_len (l : List Nat) : (S l).length = l.length := by show l.toArray.size = _; simp
theorem S_app (a b : List Nat) : S a ++ S b = S (a ++ b) := by
  apply Str.ext'
  rw [Str.cps_append]
  simp
theorem S_cps (l : List Nat) : (S l).cps.toList = l := rfl
theorem S_of (x : Str) : S x.cps.toList = x := rfl
theorem S_inj {a b : List Nat} (h : S a = S b) : a = b := by
  have := congrArg (fun s : Str => s.cps.toList) h
  exact this
def okL (l : List Nat) : Prop := ∀ x ∈ l, x < 1114112
theorem okL.str {l : List Nat} (h : okL l) : PyData.strOk (S l) = true := by
  unfold PyData.strOk
  rw [← Array.all_toList, List.all_eq_true]
  intro x hx
  exact decide_eq_true (h x hx)
theorem okL.app {a b : List Nat} (h : okL a) (k : okL b) : okL (a ++ b) := fun x hx => (List.mem_append.mp hx).elim (h x) (k x)
theorem okL.shaped {l : List Nat} (h : okL l) : SeqAt.shaped (.str (S l)) = true := by
  show (PyData.canLay0 (.str (S l)) && decide (PyData.depth (.str (S l)) ≤ 64)) = true
  rw [Bool.and_eq_true]
  exact ⟨by simp only [PyData.canLay0]; exact h.str, by simp [PyData.depth]⟩
theorem eqv_S (a b : List Nat) : PyData.eqv (.str (S a)) (.str (S b)) = decide (a = b) := by
  rw [Bool.eq_iff_iff]
  simp only [PyData.eqv, beq_iff_eq, decide_eq_true_eq]
  exact ⟨S_inj, fun h => by rw [h]⟩
/-- pieces with a sign between -/
def joinL (c : Nat) : List (List Nat) → List Nat
  | [] => []
  | x :: r => x ++ r.flatMap fun p => c :: p
theorem join_S (c : Nat) : ∀ ls : List (List Nat), Str.join (S [c]) (ls.map S) = S (joinL c ls)
  | [] => rfl
  | [x] => by show S x = S (joinL c [x]); simp [joinL]
  | x :: y :: r => by
    have ih := join_S c (y :: r)
    show S x ++ S [c] ++ Str.join (S [c]) ((y :: r).map S) = _
    rw [ih, S_app, S_app]
    simp [joinL]
theorem join_E : ∀ ls : List (List Nat), Str.join (S []) (ls.map S) = S ls.flatten
  | [] => rfl
  | [x] => by show S x = S [x].flatten; simp
  | x :: y :: r => by
    have ih := join_E (y :: r)
    show S x ++ S [] ++ Str.join (S []) ((y :: r).map S) = _
    rw [ih, S_app, S_app]
    simp
theorem joinL_len (c : Nat) : ∀ ls : List (List Nat), (joinL c ls).length + 1 = (ls.map fun p => p.length + 1).sum + (if ls = [] then 1 else 0)
  | [] => rfl
  | x :: r => by
    have h : ∀ r : List (List Nat), (r.flatMap fun p => c :: p).length = (r.map fun p => p.length + 1).sum := fun r => by
      induction r with
      | nil => rfl
      | cons p r ih => simp [List.flatMap_cons, ih]; omega
    rw [if_neg (by simp)]
    simp only [joinL, List.length_append, h, List.map_cons, List.sum_cons]
    omega
/-- pieces that hold no such sign are told apart -/
theorem join_one {c : Nat} {x y A B : List Nat} (hx : c ∉ x) (hy : c ∉ y) (hA : A = [] ∨ ∃ t, A = c :: t) (hB : B = [] ∨ ∃ t, B = c :: t) (h : x ++ A = y ++ B) : x = y ∧ A = B := by
  induction x generalizing y with
  | nil =>
    cases y with
    | nil => exact ⟨rfl, h⟩
    | cons b y =>
      rcases hA with rfl | ⟨t, rfl⟩
      · simp at h
      · simp at h
        exact absurd (List.mem_cons.mpr (.inl h.1)) hy
  | cons a x ih =>
    cases y with
    | nil =>
      rcases hB with rfl | ⟨t, rfl⟩
      · simp at h
      · simp at h
        exact absurd (List.mem_cons.mpr (.inl h.1.symm)) hx
    | cons b y =>
      simp only [List.cons_append, List.cons.injEq] at h
      obtain ⟨h1, h2⟩ := ih (fun m => hx (List.mem_cons_of_mem _ m)) (y := y) (fun m => hy (List.mem_cons_of_mem _ m)) h.2
      exact ⟨by rw [h.1, h1], h2⟩
theorem flat_one {c : Nat} : ∀ {r s : List (List Nat)}, (∀ p ∈ r, c ∉ p) → (∀ p ∈ s, c ∉ p) → r.flatMap (fun p => c :: p) = s.flatMap (fun p => c :: p) → r = s
  | [], [], _, _, _ => rfl
  | [], _ :: _, _, _, h => by simp at h
  | _ :: _, [], _, _, h => by simp at h
  | p :: r, q :: s, hr, hs, h => by
    simp only [List.flatMap_cons, List.cons_append, List.cons.injEq, true_and] at h
    have st : ∀ t : List (List Nat), t.flatMap (fun p => c :: p) = [] ∨ ∃ u, t.flatMap (fun p => c :: p) = c :: u := fun t => by
      cases t with
      | nil => exact .inl rfl
      | cons a t => exact .inr ⟨_, by rw [List.flatMap_cons]; rfl⟩
    obtain ⟨h1, h2⟩ := join_one (hr p List.mem_cons_self) (hs q List.mem_cons_self) (st r) (st s) h
    rw [h1, flat_one (fun x hx => hr x (List.mem_cons_of_mem _ hx)) (fun x hx => hs x (List.mem_cons_of_mem _ hx)) h2]
theorem joinL_inj {c : Nat} {r s : List (List Nat)} (h0 : r ≠ []) (h1 : s ≠ []) (hr : ∀ p ∈ r, c ∉ p) (hs : ∀ p ∈ s, c ∉ p) (h : joinL c r = joinL c s) : r = s := by
  cases r with
  | nil => exact absurd rfl h0
  | cons p r =>
    cases s with
    | nil => exact absurd rfl h1
    | cons q s =>
      have st : ∀ t : List (List Nat), t.flatMap (fun p => c :: p) = [] ∨ ∃ u, t.flatMap (fun p => c :: p) = c :: u := fun t => by
        cases t with
        | nil => exact .inl rfl
        | cons a t => exact .inr ⟨_, by rw [List.flatMap_cons]; rfl⟩
      obtain ⟨e1, e2⟩ := join_one (hr p List.mem_cons_self) (hs q List.mem_cons_self) (st r) (st s) h
      rw [e1, flat_one (fun x hx => hr x (List.mem_cons_of_mem _ hx)) (fun x hx => hs x (List.mem_cons_of_mem _ hx)) e2]
/-- a text's lines -/
def splitL (l : List Nat) : List (List Nat) := (Txt.split (S l) (S [10])).map fun x => x.cps.toList
theorem split_S (l : List Nat) : Txt.split (S l) (S [10]) = (splitL l).map S := by
  unfold splitL
  rw [List.map_map]
  have : (S ∘ fun x : Str => x.cps.toList) = id := funext fun x => S_of x
  rw [this, List.map_id]
theorem splitL_free (l : List Nat) : ∀ p ∈ splitL l, 10 ∉ p := fun p hp => by
  obtain ⟨x, hx, rfl⟩ := List.mem_map.mp hp
  exact StrLaws.split_free (S l) 10 x hx
theorem splitL_join (l : List Nat) : joinL 10 (splitL l) = l := by
  have h := StrLaws.join_split (S l) (S [10])
  rw [split_S, join_S] at h
  exact S_inj h
theorem splitL_ne (l : List Nat) : splitL l ≠ [] := by
  intro h
  have h2 : Txt.split (S l) (S [10]) = [] := by rw [split_S, h]; rfl
  unfold Txt.split at h2
  split at h2
  · cases h2
  · split at h2
    · cases h2
    · rw [StrLaws.partsBetween_eq] at h2
      obtain ⟨p, r, e⟩ := StrLaws.partsFrom_ne (S l) (S [10]).length 0 (Builtin.Str.occurrences (S l) (S [10]) 0 (S l).length ((S l).length + 1))
      rw [e] at h2
      cases h2
theorem splitL_of {ls : List (List Nat)} (h0 : ls ≠ []) (h : ∀ p ∈ ls, 10 ∉ p) : splitL (joinL 10 ls) = ls :=
  joinL_inj (splitL_ne _) h0 (splitL_free _) h (splitL_join _)
theorem sum_mem {f : List Nat → Nat} : ∀ {ls : List (List Nat)} {p : List Nat}, p ∈ ls → f p ≤ (ls.map f).sum
  | q :: ls, p, h => by
    rw [List.map_cons, List.sum_cons]
    rcases List.mem_cons.mp h with rfl | h
    · omega
    · have := sum_mem (f := f) h; omega
theorem sum_len : ∀ (ls : List (List Nat)), ls.length ≤ (ls.map fun p => p.length + 1).sum
  | [] => Nat.zero_le _
  | q :: ls => by
    have := sum_len ls
    rw [List.map_cons, List.sum_cons, List.length_cons]; omega
theorem splitL_b (l : List Nat) : (splitL l).length ≤ l.length + 1 ∧ ∀ p ∈ splitL l, p.length ≤ l.length := by
  have h := joinL_len 10 (splitL l)
  rw [splitL_join, if_neg (splitL_ne l)] at h
  have h2 := sum_len (splitL l)
  refine ⟨by omega, fun p hp => ?_⟩
  have : p.length + 1 ≤ ((splitL l).map fun p => p.length + 1).sum := sum_mem (f := fun p => p.length + 1) hp
  omega
theorem splitL_ok {l : List Nat} (h : okL l) : ∀ p ∈ splitL l, okL p := fun p hp x hx => by
  refine h x ?_
  rw [← splitL_join l]
  generalize splitL l = ls at hp
  cases ls with
  | nil => cases hp
  | cons q r =>
    rcases List.mem_cons.mp hp with rfl | hp
    · exact List.mem_append_left _ hx
    · exact List.mem_append_right _ (List.mem_flatMap.mpr ⟨p, hp, List.mem_cons_of_mem _ hx⟩)
/-! what the lines write -/
def fnd (c : Nat) : Int := if c = 46 then 0 else if c = 35 then 1 else -1
def readL (l : List Nat) : Cl := (splitL l).map fun p => p.map fnd
def sgn (x : Int) : Nat := if x = 1 then 35 else 46
def lineL (row : List Int) : List Nat := row.map sgn
def textL (c : Cl) : List Nat := joinL 10 (c.map lineL)
theorem fnd_sgn {x : Int} (h : x = 0 ∨ x = 1) : fnd (sgn x) = x := by rcases h with rfl | rfl <;> rfl
theorem lineL_free (row : List Int) : 10 ∉ lineL row := fun h => by
  obtain ⟨x, _, e⟩ := List.mem_map.mp h
  unfold sgn at e
  split at e <;> cases e
theorem split_text {c : Cl} (g : Good c) : splitL (textL c) = c.map lineL := splitL_of (fun h => by have := g.pos; rw [List.map_eq_nil_iff] at h; rw [h] at this; cases this) (fun p hp => by
  obtain ⟨row, _, rfl⟩ := List.mem_map.mp hp
  exact lineL_free row)
theorem read_text {c : Cl} (g : Good c) : readL (textL c) = c := by
  unfold readL
  rw [split_text g, List.map_map]
  have : c.map ((fun p : List Nat => p.map fnd) ∘ lineL) = c.map id := List.map_congr_left fun row hr => by
    show (row.map sgn).map fnd = row
    rw [List.map_map]
    have : row.map (fnd ∘ sgn) = row.map id := List.map_congr_left fun x hx => fnd_sgn (g.bits row hr x hx)
    rw [this, List.map_id]
  rw [this, List.map_id]
theorem lineL_ok (row : List Int) : okL (lineL row) := fun x hx => by
  obtain ⟨y, _, rfl⟩ := List.mem_map.mp hx
  unfold sgn
  split <;> decide
theorem getD_lt' {l : List Nat} {i : Nat} (h : i < l.length) : l.getD i 0 = l[i] := by rw [List.getD_eq_getElem?_getD, List.getElem?_eq_getElem h]; rfl
theorem joinL_ok {ls : List (List Nat)} (h : ∀ p ∈ ls, okL p) : okL (joinL 10 ls) := fun x hx => by
  cases ls with
  | nil => cases hx
  | cons q r =>
    rcases List.mem_append.mp hx with hx | hx
    · exact h q List.mem_cons_self x hx
    · obtain ⟨p, hp, hx⟩ := List.mem_flatMap.mp hx
      rcases List.mem_cons.mp hx with rfl | hx
      · decide
      · exact h p (List.mem_cons_of_mem _ hp) x hx
theorem textL_ok (c : Cl) : okL (textL c) := joinL_ok fun p hp => by
  obtain ⟨row, _, rfl⟩ := List.mem_map.mp hp
  exact lineL_ok row
theorem sum_le {B : Nat} {f : List Nat → Nat} : ∀ {ls : List (List Nat)}, (∀ p ∈ ls, f p ≤ B) → (ls.map f).sum ≤ ls.length * B
  | [], _ => Nat.zero_le _
  | p :: ls, h => by
    have h1 := h p List.mem_cons_self
    have h2 := sum_le (f := f) (B := B) fun q hq => h q (List.mem_cons_of_mem p hq)
    rw [List.map_cons, List.sum_cons, List.length_cons, Nat.succ_mul]
    omega
theorem textL_len {c : Cl} (g : Good c) : (textL c).length ≤ 4000 ∧ 0 < (textL c).length := by
  have h := joinL_len 10 (c.map lineL)
  have hl := g.len
  have hne : c.map lineL ≠ [] := fun h => by rw [List.map_eq_nil_iff] at h; rw [h] at hl; simp at hl
  rw [if_neg hne] at h
  have hb := sum_le (B := 61) (f := fun p : List Nat => p.length + 1) (ls := c.map lineL) fun p hp => by
    obtain ⟨row, hr, rfl⟩ := List.mem_map.mp hp
    have := (g.row hr).2
    unfold lineL
    rw [List.length_map]; omega
  rw [List.length_map] at hb
  have h60 : c.length * 61 ≤ 60 * 61 := Nat.mul_le_mul_right _ hl.2
  have hlow : 2 ≤ ((c.map lineL).map fun p : List Nat => p.length + 1).sum := by
    have h0 : c.getD 0 default ∈ c := g.at_ g.pos
    have : (lineL (c.getD 0 default)).length + 1 ≤ ((c.map lineL).map fun p : List Nat => p.length + 1).sum := sum_mem (f := fun p : List Nat => p.length + 1) (List.mem_map.mpr ⟨_, h0, rfl⟩)
    have h1 := g.wide
    have e : (lineL (c.getD 0 default)).length = (c.getD 0 default).length := List.length_map ..
    omega
  unfold textL
  omega
/-- the law's own look -/
def dueOk (ls : List (List Nat)) : Bool := decide (ls.length ≤ 60) && ls.all fun p => decide (1 ≤ p.length ∧ p.length ≤ 60) && (decide (p.length = (ls.headD []).length) && p.all fun s => decide (s = 35 ∨ s = 46))
theorem fnd_num (s : Nat) : isNum (enc (fnd s)) 0 1 = decide (s = 35 ∨ s = 46) := by
  show (decide ((0 : Int) ≤ fnd s) && decide (fnd s ≤ 1)) = _
  unfold fnd
  by_cases h : s = 46
  · rw [if_pos h, decide_eq_true (show s = 35 ∨ s = 46 from .inr h)]; rfl
  · rw [if_neg h]
    by_cases k : s = 35
    · rw [if_pos k, decide_eq_true (show s = 35 ∨ s = 46 from .inl k)]; rfl
    · rw [if_neg k, decide_eq_false (show ¬ (s = 35 ∨ s = 46) from fun q => q.elim k h)]; rfl
theorem all_and {α : Type} (p q : α → Bool) : ∀ l : List α, (l.all p && l.all q) = l.all fun x => p x && q x
  | [] => rfl
  | x :: l => by
    rw [List.all_cons, List.all_cons, List.all_cons, ← all_and p q l]
    cases p x <;> cases q x <;> simp
theorem all_eq {α : Type} {p q : α → Bool} : ∀ {l : List α}, (∀ x ∈ l, p x = q x) → l.all p = l.all q
  | [], _ => rfl
  | x :: l, h => by rw [List.all_cons, List.all_cons, h x List.mem_cons_self, all_eq fun y hy => h y (List.mem_cons_of_mem _ hy)]
theorem read_is (l : List Nat) : isCloth (enc (readL l)) = dueOk (splitL l) := by
  unfold readL dueOk
  have hne := splitL_ne l
  generalize splitL l = ls at hne
  show isCloth (.list ((ls.map fun p => p.map fnd).map enc)) = _
  rw [isCloth_eq, List.map_map, List.length_map]
  have h1 : decide (1 ≤ ls.length ∧ ls.length ≤ 60) = decide (ls.length ≤ 60) := decide_eq_decide.mpr ⟨fun h => h.2, fun h => ⟨by cases ls with | nil => exact absurd rfl hne | cons a r => simp, h⟩⟩
  rw [h1]
  congr 1
  have hh : lenD ((ls.map (enc ∘ fun p : List Nat => p.map fnd)).headD .none) = (ls.headD []).length := by
    cases ls with
    | nil => exact absurd rfl hne
    | cons a r => show ((a.map fnd).map enc).length = a.length; rw [List.length_map, List.length_map]
  rw [hh, List.all_map, List.all_map, all_and]
  refine all_eq fun p hp => ?_
  have e1 : isRow (enc (p.map fnd)) 1 = (decide (1 ≤ p.length ∧ p.length ≤ 60) && p.all fun s => decide (s = 35 ∨ s = 46)) := by
    show isRow (.list ((p.map fnd).map enc)) 1 = _
    rw [isRow_eq, List.length_map, List.length_map, List.all_map, List.all_map]
    congr 1
    exact all_eq fun s hs => fnd_num s
  have e2 : lenD (enc (p.map fnd)) = p.length := by show ((p.map fnd).map enc).length = _; rw [List.length_map, List.length_map]
  show (isRow (enc (p.map fnd)) 1 && decide (lenD (enc (p.map fnd)) = (ls.headD []).length)) = _
  rw [e1, e2]
  cases decide (1 ≤ p.length ∧ p.length ≤ 60) <;> cases decide (p.length = (ls.headD []).length) <;> simp
end DF

namespace DF
open Enc (enc)
open PySem PySem.Spec PyProof.Rows L2 Evl RT
/-! ### texts: rules -/
def rJoinK (K : PySem.W.Frag) : V → List V → Hp → VK → Prop := fun x xs H Q => ∃ a p, ∃ ys : List Str, x = .str a ∧ xs = [.ref p] ∧ (SqL K H p (ys.map V.str) ∨ SqT K H p (ys.map V.str)) ∧
    (ys.map (·.length)).sum + ys.length * a.length ≤ 16777216 ∧ Q (.str (Txt.join a ys)) H
theorem mt_joinK {X : Cx} (K : PySem.W.Frag) (h : X.K = K := by rfl) : MtR X "str.join" (rJoinK K) := by subst h; exact mt_join
def rSplit : V → List V → Hp → VK → Prop := fun x xs H Q => ∃ a b, x = .str a ∧ xs = [.str b] ∧ (b.length == 0) = false ∧ a.length + 2 ≤ sizeLine ∧ rNewStrs (Txt.split a b) H Q
theorem mt_splitR {X : Cx} : MtR X "str.split" rSplit := mt_split
def rFind : V → List V → Hp → VK → Prop := fun x xs H Q => ∃ a b, x = .str a ∧ xs = [.str b] ∧ Q (.int (Txt.find a b)) H
theorem mt_findR {X : Cx} : MtR X "str.find" rFind := mt_find
def repS (l : List Nat) (k : Nat) : List Nat := (List.replicate k l).flatten
def rMulS : R2 := fun x y H Q => ∃ (a : List Nat) (n : Int), x = .str (S a) ∧ y = .int n ∧ -1000 ≤ n ∧ n ≤ 100000 ∧ a.length * n.toNat ≤ 1000000 ∧ Q (.str (S (repS a n.toNat))) H
theorem repS_len (l : List Nat) (k : Nat) : (repS l k).length = l.length * k := by
  unfold repS
  induction k with
  | zero => rfl
  | succ k ih => rw [List.replicate_succ, List.flatten_cons, List.length_append, ih, Nat.mul_succ]; omega
theorem foldl_repN (its : List Nat) : ∀ (k : Nat) (acc : List Nat), List.foldl (fun x1 x2 => x1 ++ x2) acc.toArray (List.replicate k its.toArray) = (acc ++ (List.replicate k its).flatten).toArray
  | 0, acc => by simp
  | k + 1, acc => by
    have ih := foldl_repN its k (acc ++ its)
    rw [List.replicate_succ, List.foldl_cons, List.replicate_succ, List.flatten_cons, ← List.append_assoc]
    rw [show acc.toArray ++ its.toArray = (acc ++ its).toArray by simp]
    exact ih
theorem op_mulS {X : Cx} : OpR X (binaryOp .Mult) rMulS := by
  intro pins s σ H x y v u Q I rx ry h
  obtain ⟨a, n, rfl, rfl, h1, h2, h3, q⟩ := h
  obtain ⟨t, rfl⟩ := rx
  obtain ⟨t', rfl⟩ := ry
  have hl := S_len a
  refine PySem.P.mul_str (by rw [decide_eq_false (by omega), decide_eq_false (by omega)]; rfl) (fun hn _ => ?_) (fun hn _ => ?_) ?_
  · have hn' : 0 < n := by omega
    refine Int.not_lt.mpr (Int.le_ediv_of_mul_le hn' ?_)
    rw [hl]
    have : ((a.length : Int)) * n = ((a.length * n.toNat : Nat) : Int) := by rw [Int.natCast_mul, Int.toNat_of_nonneg (by omega)]
    rw [this]
    omega
  · rw [hl]
    unfold Builtin.Str.tooLong
    rw [sizeLine_eq]
    exact decide_eq_false (by omega)
  · have fin : ∀ t' k, EP X pins σ Q (.str (S (repS a n.toNat)) t') { s with toks := k } := fun t' k => ⟨.str _, H, I.tok _, ⟨_, rfl⟩, q⟩
    split
    · rename_i hn
      have e : repS a n.toNat = [] := by rw [show n.toNat = 0 by omega]; rfl
      rw [e] at fin
      exact ⟨by decide, fin _ _⟩
    · split
      · rename_i hn hc
        have e : repS a n.toNat = a := by
          rw [Bool.or_eq_true, beq_iff_eq, beq_iff_eq, hl] at hc
          rcases hc with rfl | hc
          · show (List.replicate 1 a).flatten = a
            simp
          · have : a = [] := List.length_eq_zero_iff.mp hc
            subst this
            unfold repS
            simp
        rw [e] at fin
        exact fin _ _
      · have e : (⟨(List.replicate n.toNat (S a).cps).foldl (· ++ ·) #[]⟩ : Str) = S (repS a n.toNat) := by
          have := foldl_repN a n.toNat []
          rw [List.nil_append] at this
          show (⟨(List.replicate n.toNat a.toArray).foldl (· ++ ·) #[]⟩ : Str) = ⟨(List.replicate n.toNat a).flatten.toArray⟩
          congr 1
        rw [e]
        refine ⟨?_, fin _ _⟩
        rw [S_len, repS_len, sizeLine_eq]
        omega
section
variable {K : PySem.W.Frag} {H H' : Hp} {σ : L2.St} {D : Ends} {t u : TS} {ρ : Rho} {tt tu : TT} {te tb tl to : TE} {ta : TE} {l m : List Nat} {b : Str} {i : Int}
theorem Tp.strs {H : Hp} : ∀ {ls : List (List Nat)} {vs : List V}, TpAll H vs (ls.map fun p => PyData.str (S p)) → vs = (ls.map S).map V.str
  | [], _, h => by cases h; rfl
  | p :: ls, _, h => by
    cases h with
    | cons h1 h2 => cases Tp.str_inv h1; rw [Tp.strs h2]; rfl
theorem tp_strs {H : Hp} : ∀ ls : List (List Nat), TpAll H ((ls.map S).map V.str) (ls.map fun p => PyData.str (S p))
  | [] => .nil
  | p :: ls => .cons (.str _) (tp_strs ls)
theorem v_strL (e : b = S l) : VD K (tC (.str b)) ρ (.str (S l)) := by subst e; exact v_str
theorem join_txt (a : Str) (ys : List Str) : Txt.join a ys = Str.join a ys := StrLaws.glued_eq_join a ys
theorem v_join {c : Nat} {ls : List (List Nat)} (e : b = S [c]) (hs : VD K to ρ (.str b)) (hl : VD K te ρ (.list (ls.map fun p => .str (S p)))) (hz : (ls.map (·.length)).sum + ls.length ≤ 16777216) :
    VD K (tBM K "str" (rJoinK K) to (tCons te tNil)) ρ (.str (S (joinL c ls))) := fun σ H n Q q => hs σ H n _ fun x H1 e1 r1 => by
  cases Tp.str_inv r1
  refine ⟨rfl, hl σ H1 (n.mono e1) _ fun v H2 e2 r2 => ?_⟩
  obtain ⟨a, xs, rfl, ha, tx⟩ := Tp.lst_inv r2
  have hx := Tp.strs tx
  subst hx
  refine ⟨b, a, ls.map S, rfl, rfl, .inl (SqL.of ha), ?_, ?_⟩
  · rw [e, S_len, List.map_map, List.length_map]
    have : ((fun x : Str => x.length) ∘ S) = fun p : List Nat => p.length := funext fun p => S_len p
    rw [this]
    simpa using hz
  · rw [join_txt, e, join_S]
    exact q _ H2 (e1.trans e2) (.str _)
theorem v_joinE {ls : List (List Nat)} (e : b = S []) (hs : VD K to ρ (.str b)) (hl : VD K te ρ (.list (ls.map fun p => .str (S p)))) (hz : (ls.map (·.length)).sum ≤ 16777216) :
    VD K (tBM K "str" (rJoinK K) to (tCons te tNil)) ρ (.str (S ls.flatten)) := fun σ H n Q q => hs σ H n _ fun x H1 e1 r1 => by
  cases Tp.str_inv r1
  refine ⟨rfl, hl σ H1 (n.mono e1) _ fun v H2 e2 r2 => ?_⟩
  obtain ⟨a, xs, rfl, ha, tx⟩ := Tp.lst_inv r2
  have hx := Tp.strs tx
  subst hx
  refine ⟨b, a, ls.map S, rfl, rfl, .inl (SqL.of ha), ?_, ?_⟩
  · rw [e, S_len, List.map_map, List.length_map]
    have : ((fun x : Str => x.length) ∘ S) = fun p : List Nat => p.length := funext fun p => S_len p
    rw [this]
    simpa using hz
  · rw [join_txt, e, join_E]
    exact q _ H2 (e1.trans e2) (.str _)
theorem n_split (e : b = S [10]) (ha : VD K to ρ (.str (S l))) (hb : VD K te ρ (.str b)) (hz : l.length ≤ 100000) : VN K (tBM K "str" rSplit to (tCons te tNil)) ρ (.list ((splitL l).map fun p => .str (S p))) := fun σ H n Q q => ha σ H n _ fun x H1 e1 r1 => by
  cases Tp.str_inv r1
  refine ⟨rfl, hb σ H1 (n.mono e1) _ fun v H2 e2 r2 => ?_⟩
  cases Tp.str_inv r2
  refine ⟨_, _, rfl, rfl, by rw [e]; rfl, by rw [S_len, sizeLine_eq]; omega, fun p hp => q _ _ ((e1.trans e2).trans (Ex.new hp)) ?_⟩
  rw [e, split_S]
  exact (new_plain (H' := H2) hp (tp_strs _) fun d hd => by obtain ⟨p, _, rfl⟩ := List.mem_map.mp hd; rfl).back (e1.trans e2)
theorem v_find {a c : Str} (ha : VD K to ρ (.str a)) (hb : VD K te ρ (.str c)) : VD K (tBM K "str" rFind to (tCons te tNil)) ρ (.int (Txt.find a c)) := fun σ H n Q q => ha σ H n _ fun x H1 e1 r1 => by
  cases Tp.str_inv r1
  refine ⟨rfl, hb σ H1 (n.mono e1) _ fun v H2 e2 r2 => ?_⟩
  cases Tp.str_inv r2
  exact ⟨_, _, rfl, rfl, q _ H2 (e1.trans e2) (.int _)⟩
theorem find_sgn (c : Nat) : Txt.find (S [46, 35]) (S [c]) = fnd c := by
  unfold fnd
  by_cases h : c = 46
  · subst h; rw [if_pos rfl]; decide +kernel
  · rw [if_neg h]
    by_cases k : c = 35
    · subst k; rw [if_pos rfl]; decide +kernel
    · rw [if_neg k]
      have f := StrLaws.found_one (S [46, 35]) c
      rw [decide_eq_false (show ¬ c ∈ (S [46, 35]).cps.toList by rw [S_cps]; simp; exact ⟨h, k⟩)] at f
      have f' : (Builtin.Str.occurrences (S [46, 35]) (S [c]) 0 (S [46, 35]).length 1) = [] := by
        have : (Builtin.Str.occurrences (S [46, 35]) (S [c]) 0 (S [46, 35]).length 1).isEmpty = true := by
          cases hh : (Builtin.Str.occurrences (S [46, 35]) (S [c]) 0 (S [46, 35]).length 1).isEmpty with
          | true => rfl
          | false =>
            have f2 : (!(Builtin.Str.occurrences (S [46, 35]) (S [c]) 0 (S [46, 35]).length 1).isEmpty) = false := f
            rw [hh] at f2
            cases f2
        exact List.isEmpty_iff.mp this
      unfold Txt.find
      rw [f']
abbrev rCat : R2 := fun x y H Q => ∃ i j, x = .str i ∧ y = .str j ∧ i.length + j.length ≤ sizeLine ∧ Q (.str (i ++ j)) H
theorem v_sadd (ha : VD K ta ρ (.str (S l))) (hb : VD K tb ρ (.str (S m))) (hz : l.length + m.length ≤ 16777216) : VD K (tOp rCat ta tb) ρ (.str (S (l ++ m))) := v_two ha hb fun H u v Q r1 r2 q => by
  cases Tp.str_inv r1
  cases Tp.str_inv r2
  exact ⟨_, _, rfl, rfl, by rw [S_len, S_len, sizeLine_eq]; exact hz, by rw [S_app]; exact q _ H (Ex.refl H) (.str _)⟩
theorem v_smul (e : b = S l) (ha : VD K ta ρ (.str b)) (hb : VD K tb ρ (.int i)) (h : -1000 ≤ i ∧ i ≤ 100000) (hz : l.length * i.toNat ≤ 1000000) : VD K (tOp rMulS ta tb) ρ (.str (S (repS l i.toNat))) := v_two ha hb fun H u v Q r1 r2 q => by
  cases Tp.str_inv r1
  cases Tp.int_inv r2
  exact ⟨l, i, by rw [e], rfl, h.1, h.2, hz, q _ H (Ex.refl H) (.str _)⟩
theorem v_sTo (k : Nat) (ha : VD K ta ρ (.str (S l))) (hb : VD K tb ρ (.int i)) (e : i = (k : Int)) (hz : l.length ≤ 100000) : VD K (tSl rSlS ta tNoPart (tPart tb)) ρ (.str (S (l.take k))) := fun σ H n Q q =>
  ha σ H n _ fun v H1 e1 r => o_none (K := K) (ρ := ρ) σ H1 (n.mono e1) _ fun H2 e2 => o_some hb σ H2 (n.mono (e1.trans e2)) _ fun H3 e3 => by
    subst e
    cases Tp.str_inv r
    refine ⟨_, rfl, by rw [S_len, sizeLine_eq]; omega, ?_⟩
    unfold cutS
    rw [S_len, S_cps, sl_to]
    exact q _ H3 ((e1.trans e2).trans e3) (.str _)
theorem v_sFrom (k : Nat) (ha : VD K ta ρ (.str (S l))) (hb : VD K tb ρ (.int i)) (e : i = (k : Int)) (hz : l.length ≤ 100000) : VD K (tSl rSlS ta (tPart tb) tNoPart) ρ (.str (S (l.drop k))) := fun σ H n Q q =>
  ha σ H n _ fun v H1 e1 r => o_some hb σ H1 (n.mono e1) _ fun H2 e2 => o_none (K := K) (ρ := ρ) σ H2 (n.mono (e1.trans e2)) _ fun H3 e3 => by
    subst e
    cases Tp.str_inv r
    refine ⟨_, rfl, by rw [S_len, sizeLine_eq]; omega, ?_⟩
    unfold cutS
    rw [S_len, S_cps, sl_from]
    exact q _ H3 ((e1.trans e2).trans e3) (.str _)
theorem v_niSign {c : Nat} (e : b = S m) (ha : VD K ta ρ (.str (S [c]))) (hb : VD K tb ρ (.str b)) : VD K (tOp (fun x y H Q => ∃ (c : Nat) (z : Str), x = .str ⟨#[c]⟩ ∧ y = .str z ∧ Q (.bl (!decide (c ∈ z.cps.toList))) H) ta tb) ρ (.bool (!decide (c ∈ m))) := v_two ha hb fun H u v Q r1 r2 q => by
  cases Tp.str_inv r1
  cases Tp.str_inv r2
  subst e
  exact ⟨c, _, rfl, rfl, q _ H (Ex.refl H) (.bl _)⟩
theorem v_eqS (ha : VD K ta ρ (.str (S l))) (hb : VD K tb ρ (.str b)) (e : b = S m) (hl : okL l) (hm : okL m) : VD K (tOp (rEqD K) ta tb) ρ (.bool (decide (l = m))) := by
  subst e
  exact (v_eqD ha hb hl.shaped hm.shaped).eq (by rw [eqv_S])
theorem v_neS (ha : VD K ta ρ (.str (S l))) (hb : VD K tb ρ (.str b)) (e : b = S m) (hl : okL l) (hm : okL m) : VD K (tOp (rNeD K) ta tb) ρ (.bool (!decide (l = m))) := by
  subst e
  exact (v_neD ha hb hl.shaped hm.shaped).eq (by rw [eqv_S])
theorem v_intB {k : Bool} (ha : VD K ta ρ (.bool k)) : VD K (tCB (fun xs H Q => (∃ i, xs = [.int i] ∧ Q (.int i) H) ∨ ∃ k, xs = [.bl k] ∧ Q (.int (if k then 1 else 0)) H) (tCons ta tNil)) ρ (.int (if k then 1 else 0)) := fun σ H n Q q =>
  ha σ H n _ fun v H1 e1 r => by
    cases Tp.bl_inv r
    exact .inr ⟨k, rfl, q _ H1 e1 (.int _)⟩
/-- [e for x in xs], whatever it is -/
theorem n_lcG {α : Type} [Enc α] {xs : List α} {j : Nat} {vs : List Nat} (f : α → PyData) (hl : VD K tl ρ (enc xs)) (hz : xs.length ≤ 10000) (hj : j ∈ vs)
    (he : ∀ x ∈ xs, VN K te ((wipeR ρ vs).set j (some (.d (enc x)))) (f x)) : VN K (tLc (iList K tl) (gName j) tYes te vs) ρ (.list (xs.map f)) := by
  refine fun σ H n Q q => hl σ H n _ fun v H1 e1 r1 => ?_
  obtain ⟨a, us, rfl, ea, t⟩ := Tp.lst_inv r1
  refine ⟨a, rfl, ⟨us, SqL.of ea⟩, fun D hD => ?_⟩
  refine lc_list (xs := us) (fun i H' => PvN H1 D ((xs.take i).map f) H') (by simpa using PvN.start hD) (fun i H' _ pv => SqL.of (pv.1 _ _ ea)) (fun i x H' hx pv => ⟨wipe_back hj, ?_⟩) (fun H' pv => ?_)
  · obtain ⟨d, hd, td⟩ := t.getV hx
    rw [List.getElem?_map] at hd
    cases hxi : xs[i]? with
    | none => rw [hxi] at hd; cases hd
    | some y =>
      rw [hxi] at hd
      cases hd
      have hm : y ∈ xs := List.mem_of_getElem? hxi
      have hi : i < xs.length := (List.getElem?_eq_some_iff.mp hxi).1
      refine turnN hD pv (((n.mono e1).wipe vs).set j (z := .d (enc y)) td) t_yes (fun _ => he y hm) (by rw [List.length_map, List.length_take]; omega) (fun _ => ?_) (fun z => nomatch z)
      rw [List.take_add_one, hxi]
      simp
  · rw [t.len, List.length_map, List.take_length] at pv
    exact q _ H' (e1.trans pv.1) (pv.done e1 hD)
/-- [e for c in text] -/
theorem n_lcS {β : Type} [Enc β] {j : Nat} {vs : List Nat} (f : Nat → β) (hl : VD K tl ρ (.str (S l))) (hz : l.length ≤ 10000) (hj : j ∈ vs)
    (he : ∀ c ∈ l, VN K te ((wipeR ρ vs).set j (some (.d (.str (S [c]))))) (enc (f c))) : VN K (tLc (iStr tl) (gName j) tYes te vs) ρ (enc (l.map f)) := by
  refine fun σ H n Q q => hl σ H n _ fun v H1 e1 r1 => ?_
  cases Tp.str_inv r1
  refine ⟨S l, rfl, fun D hD => ?_⟩
  refine ⟨fun i m H' => m = l.length - i ∧ i ≤ l.length ∧ PvN H1 D ((l.take i).map fun x => enc (f x)) H', ⟨l.length, by simp, Nat.zero_le _, by simpa using PvN.start hD⟩, ?_⟩
  rintro i m H' ⟨rfl, hi, pv⟩
  have hsz : (S l).cps.size = l.length := S_len l
  by_cases hlt : i < l.length
  · refine .inr ⟨by show i < (S l).cps.size; omega, fun H' => PvN H1 D ((l.take (i + 1)).map fun x => enc (f x)) H', fun H2 p2 => ⟨l.length - (i + 1), by omega, rfl, hlt, p2⟩, fun x H2 y => ?_⟩
    obtain ⟨rfl, c, hc, rfl⟩ := y
    have hci : l[i]? = some c := by
      have : (l.toArray)[i]? = some c := hc
      rw [List.getElem?_toArray] at this
      exact this
    refine ⟨wipe_back hj, turnN hD pv (((n.mono e1).wipe vs).set j (z := .d (.str (S [c]))) (.str _)) t_yes (fun _ => he c (List.mem_of_getElem? hci)) (by rw [List.length_map, List.length_take]; omega) (fun _ => ?_) (fun z => nomatch z)⟩
    rw [List.take_add_one, hci]
    simp
  · have hie : i = l.length := by omega
    refine .inl ⟨by show (S l).cps.size ≤ i; omega, ?_⟩
    rw [hie, List.take_length] at pv
    have w := pv.done e1 hD
    rw [show (l.map fun x => enc (f x)) = (l.map f).map enc by rw [List.map_map]; rfl] at w
    exact q _ H' (e1.trans pv.1) w
/-- loops, by a word of one's own -/
theorem s_loopP {a : Addr} {xs : List V} {j : Nat} (Pv : Nat → L2.St → Hp → Prop) (h0 : Pv 0 σ H) (hl : ∀ k σ H, Pv k σ H → H a = some (.lst xs))
    (turn : ∀ (k : Nat) (x : V), xs[k]? = some x → ∀ (σ' : L2.St) (H' : Hp) (D' : Ends), Pv k σ' H' → D'.rt = D.rt → (∀ σ2 H2, Pv (k + 1) σ2 H2 → D'.nx σ2 H2) → t D' (σ'.set j (some x)) H')
    (done : ∀ σ' H', Pv xs.length σ' H' → D.nx σ' H') : tFor (iList K (tC (.ref a))) (gName j) t D σ H := by
  refine ⟨a, rfl, ⟨xs, SqL.of (hl 0 σ H h0)⟩, ?_⟩
  refine for_list (xs := xs) Pv h0 (fun k σ' H' _ pv => SqL.of (hl k σ' H' pv)) (fun k x σ' H' hx pv => ?_) done
  exact turn k x hx σ' H' _ pv rfl fun σ2 H2 b => b
theorem s_loopS {j : Nat} (Pv : Nat → L2.St → Hp → Prop) (h0 : Pv 0 σ H)
    (turn : ∀ (k : Nat) (c : Nat), l[k]? = some c → ∀ (σ' : L2.St) (H' : Hp) (D' : Ends), Pv k σ' H' → D'.rt = D.rt → (∀ σ2 H2, Pv (k + 1) σ2 H2 → D'.nx σ2 H2) → t D' (σ'.set j (some (.str (S [c])))) H')
    (done : ∀ σ' H', Pv l.length σ' H' → D.nx σ' H') : tFor (iStr (tC (.str (S l)))) (gName j) t D σ H := by
  refine ⟨S l, rfl, ?_⟩
  refine ⟨fun i m σ' H' => m = l.length - i ∧ i ≤ l.length ∧ Pv i σ' H', ⟨l.length, by simp, Nat.zero_le _, h0⟩, ?_⟩
  rintro i m σ' H' ⟨rfl, hi, pv⟩
  have hsz : (S l).cps.size = l.length := S_len l
  by_cases hlt : i < l.length
  · refine .inr ⟨by show i < (S l).cps.size; omega, fun σ2 H2 => Pv (i + 1) σ2 H2, fun σ2 H2 p2 => ⟨l.length - (i + 1), by omega, rfl, hlt, p2⟩, fun x H2 y => ?_⟩
    obtain ⟨rfl, c, hc, rfl⟩ := y
    have hci : l[i]? = some c := by
      have : (l.toArray)[i]? = some c := hc
      rw [List.getElem?_toArray] at this
      exact this
    exact turn i c hci σ' H2 _ pv rfl fun σ2 H2 b => b
  · have hie : i = l.length := by omega
    subst hie
    exact .inl ⟨by show (S l).cps.size ≤ l.length; omega, done σ' H' pv⟩
theorem s_forS {z : Ent} {j : Nat} (h : VE K te ρ z) (n : Env K H σ ρ) (k : ∀ v H', Ex H H' → Rep K H' v z → tFor (iStr (tC v)) (gName j) t D σ H') : tFor (iStr te) (gName j) t D σ H := h σ H n _ fun v H' e r => k v H' e r
theorem q_forS {z : Ent} {j : Nat} (h : VE K te ρ z) (n : Env K H σ ρ) (k : ∀ v H', Ex H H' → Rep K H' v z → tSeq (tFor (iStr (tC v)) (gName j) t) u D σ H') : tSeq (tFor (iStr te) (gName j) t) u D σ H := h σ H n _ fun v H' e r => k v H' e r
theorem q_loopP {a : Addr} {xs : List V} {j : Nat} (Pv : Nat → L2.St → Hp → Prop) (h0 : Pv 0 σ H) (hl : ∀ k σ H, Pv k σ H → H a = some (.lst xs))
    (turn : ∀ (k : Nat) (x : V), xs[k]? = some x → ∀ (σ' : L2.St) (H' : Hp) (D' : Ends), Pv k σ' H' → D'.rt = D.rt → (∀ σ2 H2, Pv (k + 1) σ2 H2 → D'.nx σ2 H2) → t D' (σ'.set j (some x)) H')
    (done : ∀ σ' H', Pv xs.length σ' H' → u D σ' H') : tSeq (tFor (iList K (tC (.ref a))) (gName j) t) u D σ H := s_loopP (D := { D with nx := u D }) Pv h0 hl turn done
theorem q_loopS {j : Nat} (Pv : Nat → L2.St → Hp → Prop) (h0 : Pv 0 σ H)
    (turn : ∀ (k : Nat) (c : Nat), l[k]? = some c → ∀ (σ' : L2.St) (H' : Hp) (D' : Ends), Pv k σ' H' → D'.rt = D.rt → (∀ σ2 H2, Pv (k + 1) σ2 H2 → D'.nx σ2 H2) → t D' (σ'.set j (some (.str (S [c])))) H')
    (done : ∀ σ' H', Pv l.length σ' H' → u D σ' H') : tSeq (tFor (iStr (tC (.str (S l)))) (gName j) t) u D σ H := s_loopS (D := { D with nx := u D }) Pv h0 turn done
end
/-- the same list, of a later heap but itself -/
def less (H : Hp) (p : Addr) : Hp := fun x => if x = p then none else H x
theorem less_p (H : Hp) (p : Addr) : less H p p = none := if_pos rfl
theorem less_ne {H : Hp} {p x : Addr} (h : x ≠ p) : less H p x = H x := if_neg h
theorem less_ex (H : Hp) (p : Addr) : Ex (less H p) H := fun x o h => by
  unfold less at h
  split at h
  · cases h
  · exact h
theorem ex_less {H0 H : Hp} {p : Addr} (e : Ex H0 H) (h : H0 p = none) : Ex H0 (less H p) := fun x o hx => by
  rw [less_ne (fun z => by rw [z, h] at hx; cases hx)]
  exact e x o hx
theorem grown_less {H : Hp} {p : Addr} (h : H p = some (.lst [])) : Grown (less H p) H p [] := grown_start (less_p H p) (less_ex H p) h
end DF
namespace DF
open Enc (enc)
open PySem PySem.Spec PyProof.Rows L2 Evl RT
section
variable {K : PySem.W.Frag} {H H' : Hp} {σ : L2.St} {D : Ends} {t u : TS} {ρ : Rho} {te tb ta : TE} {i : Int} {ds : List PyData}
theorem v_repD {k : Int} (ha : VD K ta ρ (.list ds)) (hb : VD K tb ρ (.int k)) (hk : 0 ≤ k ∧ k ≤ 100000) (hz : ds.length * k.toNat ≤ 100000) : VD K (tOp rRep ta tb) ρ (.list (rep ds k.toNat)) := v_two ha hb fun H u v Q r1 r2 q => by
  cases Tp.int_inv r2
  obtain ⟨a, xs, rfl, ea, t⟩ := Tp.lst_inv r1
  exact ⟨a, k, xs, rfl, rfl, ea, by omega, by omega, sz_of (by rw [t.len]; exact hz), fun p hp => q _ _ (Ex.new hp) (.lst upd_same ((tpAll_rep t k.toNat).mono (Ex.new hp)))⟩
theorem rep_map {α β : Type} (f : α → β) (xs : List α) (k : Nat) : rep (xs.map f) k = (rep xs k).map f := by unfold rep; rw [List.map_flatten, List.map_replicate]
theorem atI_strs {ls : List (List Nat)} {k : Nat} (h : k < ls.length) : atI (ls.map fun q => PyData.str (S q)) (k : Int) = some (.str (S (ls.getD k []))) := by
  refine atI_nat ?_
  rw [List.getElem?_map, List.getElem?_eq_getElem h, List.getD_eq_getElem?_getD, List.getElem?_eq_getElem h]
  rfl
/-- one of some texts -/
theorem v_oneOf {ls : List (List Nat)} {k : Nat} (e : i = (k : Int)) (h : k < ls.length) (ha : VD K ta ρ (.list (ls.map fun q => .str (S q)))) (hb : VD K tb ρ (.int i)) : VD K (tOp (rIx K) ta tb) ρ (.str (S (ls.getD k []))) := by
  subst e
  exact v_ixL ha hb (atI_strs h)
end
def lits8 : List (List Nat) := [[], [10], [35, 10], [10, 46], [35], [46, 35, 10, 35, 46, 10], [35, 35, 10, 10, 35, 35], [48]]
def lits4 : List (List Nat) := [joinL 10 (rep [[35, 46]] 61), repS [35] 61, joinL 10 (rep [[35, 46]] 60), repS [46] 60]
def fineL (l : List Nat) : Bool := decide (l.length ≤ 9000) && l.all fun x => decide (x < 1114112)
theorem fineL.is {l : List Nat} (h : fineL l = true) : l.length ≤ 9000 ∧ okL l := by
  unfold fineL at h
  rw [Bool.and_eq_true, decide_eq_true_eq, List.all_eq_true] at h
  exact ⟨h.1, fun x hx => of_decide_eq_true (h.2 x hx)⟩
theorem fine_at {ls : List (List Nat)} (h : ls.all fineL = true) {k : Nat} (hk : k < ls.length) : (ls.getD k []).length ≤ 9000 ∧ okL (ls.getD k []) := by
  rw [List.all_eq_true] at h
  refine fineL.is (h _ ?_)
  rw [List.getD_eq_getElem?_getD, List.getElem?_eq_getElem hk]
  exact List.getElem_mem hk
end DF

namespace DF
open Enc (enc)
open PySem PySem.Spec PyProof.Rows L2 Evl RT
section
variable {P : Program} {w : World} {K : PySem.W.Frag} {mg : Str → Option Value} {base : Heap}
/-- a def that tells data of its own, or raises -/
theorem cal_RX {x : Str} {st : Stmt} {N ps : List Str} {k : Nat} {R : List Ent → PyData → Prop} {S : List Ent → Addr → Prop} (D : Dfn K mg x st ps) (Sc : FnScope N ps (defScope st)) (len : ∀ zs r, R zs r → zs.length = ps.length) (lenS : ∀ zs C, S zs C → zs.length = ps.length)
    (hbody : ∀ (f : Addr) (cdv : Value) (A : Around) (outer : List PySem.Env) (s : Shared) (H : Hp) (E : XK), Room k (A.deeper (envOfC x (defScope st) s.heap.objs.size f cdv)) →
      ∃ t, PSs (cxOf (L2N.CX P w) P w K mg base N x (defScope st) f cdv A outer s H E) (defBody st) t ∧ (∀ zs r, R zs r → RD K t (startR N zs) (.ret r) ∨ (r = .none ∧ ∃ ρ', RD K t (startR N zs) (.nx ρ'))) ∧
        ∀ zs C, S zs C → ∀ D σ, Env K H σ (startR N zs) → (∀ H', Ex H H' → E (.ref C) none H') → t D σ H) : Cal P w K mg base (L2N.CX P w) (k + 1) x ps (spX K R S) := by
  refine cal_spX D Sc (fun vs H Q E h => ?_) (fun f cdv A outer s H vs Q E hr h => ?_)
  · obtain ⟨zs, r1, ⟨r, hR, _⟩ | ⟨C, hS, _⟩⟩ := h
    · rw [r1.len]; exact len zs r hR
    · rw [r1.len]; exact lenS zs C hS
  · obtain ⟨t, h1, h2, h3⟩ := hbody f cdv A outer s H E hr
    obtain ⟨zs, r1, ⟨r, hR, q⟩ | ⟨C, hS, q⟩⟩ := h
    · refine ⟨t, h1, ?_⟩
      rcases h2 zs r hR with h5 | ⟨rfl, ρ', h5⟩
      · exact h5 _ _ H (Env.start r1) fun v H' e w => q v H' e w
      · exact h5 _ _ H (Env.start r1) fun σ' H' e n => q .non H' e ⟨[], .non, fun _ z => nomatch z⟩
    · exact ⟨t, h1, h3 zs C hS _ _ (Env.start r1) q⟩
end
/-- a def that tells some data of its own with a property, or raises -/
def spXP (K : PySem.W.Frag) (A : List Ent → Prop) (P : List Ent → PyData → Prop) (S : List Ent → Addr → Prop) : Sp := fun vs H Q E => ∃ zs, RepAll K H vs zs ∧ ((A zs ∧ ∀ r, P zs r → ∀ v H', Ex H H' → New H H' v r → Q v H') ∨ ∃ C, S zs C ∧ ∀ H', Ex H H' → E (.ref C) none H')
/-- a def that tells some data with a property -/
def spT (K : PySem.W.Frag) (A : List Ent → Prop) (P : List Ent → PyData → Prop) : Sp := fun vs H Q _ => ∃ zs, RepAll K H vs zs ∧ A zs ∧ ∀ r, P zs r → ∀ v H', Ex H H' → Tp H' v r → Q v H'
/-- the first argument is none -/
def noC (n : Nat) (C : Addr) : List Ent → Addr → Prop := fun zs D => ∃ d rest, zs = .d d :: rest ∧ rest.length = n ∧ isCloth d = false ∧ D = C
def noD (n : Nat) (C : Addr) : List Ent → Addr → Prop := fun zs D => ∃ d rest, zs = .d d :: rest ∧ rest.length = n ∧ isDraft d = false ∧ D = C
section
variable {K : PySem.W.Frag} {ρ : Rho} {H H' : Hp} {σ : L2.St} {D : Ends} {u : TS} {ta : TA} {zs : List Ent} {A : List Ent → Prop} {P : List Ent → PyData → Prop} {R : List Ent → PyData → Prop} {S : List Ent → Addr → Prop} {E : L2.St → XK} {C : Addr} {i : Nat} {F : XK}
theorem q_setXbad (ha : AE K ta ρ zs) (n : Env K H σ ρ) (hS : S zs C) (k : ∀ H', Ex H H' → E σ (.ref C) none H') : tSeq (tAsg (tCallS (spX K R S) E ta) (gName i)) u D σ H := ha σ H n _ fun vs H1 e1 r1 => ⟨zs, r1, .inr ⟨C, hS, fun H' e2 => k H' (e1.trans e2)⟩⟩
theorem q_badX (ha : AE K ta ρ zs) (n : Env K H σ ρ) (hS : S zs C) (k : ∀ H', Ex H H' → E σ (.ref C) none H') : tSeq (tDrop (tCallS (spX K R S) E ta)) u D σ H := q_callX ha n (.inr ⟨C, hS, k⟩)
theorem s_badX (ha : AE K ta ρ zs) (n : Env K H σ ρ) (hS : S zs C) (k : ∀ H', Ex H H' → E σ (.ref C) none H') : tDrop (tCallS (spX K R S) E ta) D σ H := ha σ H n _ fun vs H1 e1 r1 => ⟨zs, r1, .inr ⟨C, hS, fun H' e2 => k H' (e1.trans e2)⟩⟩
theorem s_goodX {d : PyData} (ha : AE K ta ρ zs) (n : Env K H σ ρ) (hR : R zs d) (k : ∀ H', Ex H H' → D.nx σ H') : tDrop (tCallS (spX K R S) E ta) D σ H := ha σ H n _ fun vs H1 e1 r1 => ⟨zs, r1, .inl ⟨d, hR, fun v H' e2 _ => k H' (e1.trans e2)⟩⟩
theorem s_badXP (ha : AE K ta ρ zs) (n : Env K H σ ρ) (hS : S zs C) (k : ∀ H', Ex H H' → E σ (.ref C) none H') : tDrop (tCallS (spXP K A P S) E ta) D σ H := ha σ H n _ fun vs H1 e1 r1 => ⟨zs, r1, .inr ⟨C, hS, fun H' e2 => k H' (e1.trans e2)⟩⟩
theorem s_goodXP (ha : AE K ta ρ zs) (n : Env K H σ ρ) (hA : A zs) (k : ∀ H', Ex H H' → D.nx σ H') : tDrop (tCallS (spXP K A P S) E ta) D σ H := ha σ H n _ fun vs H1 e1 r1 => ⟨zs, r1, .inl ⟨hA, fun r _ v H' e2 _ => k H' (e1.trans e2)⟩⟩
theorem q_setT (ha : AE K ta ρ zs) (hA : A zs) (n : Env K H σ ρ) (k : ∀ r v H', P zs r → Ex H H' → Tp H' v r → Env K H' (σ.set i (some v)) (ρ.set i (some (.d r))) → u D (σ.set i (some v)) H') : tSeq (tAsg (tCall (spT K A P) [] F ta) (gName i)) u D σ H :=
  ha σ H n _ fun vs H1 e1 r1 => by
    show spT K A P (vs ++ []) H1 _ F
    rw [List.append_nil]
    exact ⟨zs, r1, hA, fun r hr v H' e2 w => k r v H' hr (e1.trans e2) w ((n.mono (e1.trans e2)).set i (z := .d r) w)⟩
end
end DF

namespace DF
open Enc (enc)
open PySem PySem.Spec PyProof.Rows L2 Evl RT
section
variable {K : PySem.W.Frag} {ρ : Rho} {H H' : Hp} {σ : L2.St} {D : Ends} {t u : TS} {tt : TT} {b : Bool} {ta : TA} {zs : List Ent} {R : List Ent → PyData → Prop} {S : List Ent → Addr → Prop} {E : L2.St → XK}
theorem s_ifNo (hc : VT K tt ρ b) (hb : b = false) (n : Env K H σ ρ) (k : ∀ H', Ex H H' → u D σ H') : tIfS tt t u D σ H := hc σ H n _ fun H' e => by
  subst hb
  exact k H' e
theorem s_ifYes (hc : VT K tt ρ b) (hb : b = true) (n : Env K H σ ρ) (k : ∀ H', Ex H H' → t D σ H') : tIfS tt t u D σ H := hc σ H n _ fun H' e => by
  subst hb
  exact k H' e
theorem s_callX2 (ha : AE K ta ρ zs) (n : Env K H σ ρ) (h : (∃ d, R zs d ∧ ∀ H', Ex H H' → D.nx σ H') ∨ ∃ C, S zs C ∧ ∀ H', Ex H H' → E σ (.ref C) none H') : tDrop (tCallS (spX K R S) E ta) D σ H :=
  ha σ H n _ fun vs H1 e1 r1 => ⟨zs, r1, h.elim (fun ⟨d, hR, k⟩ => .inl ⟨d, hR, fun v H' e2 _ => k H' (e1.trans e2)⟩) fun ⟨C, hS, k⟩ => .inr ⟨C, hS, fun H' e2 => k H' (e1.trans e2)⟩⟩
end
/-- which refusal is due: 0 NoCloth, 1 NoDraft, 2 NoFit -/
def Bad (w : Int) (c o d m : PyData) (e : Nat) : Prop := (0 ≤ w ∧ w ≤ 17) ∧ ((w < 14 ∧ isCloth c = false ∧ e = 0) ∨ (14 ≤ w ∧ isDraft d = false ∧ e = 1) ∨ ((w = 11 ∨ w = 12) ∧ isCloth c = true ∧ isCloth o = false ∧ e = 0) ∨ (w = 17 ∧ isDraft d = true ∧ isDraft m = false ∧ e = 1) ∨ (w = 13 ∧ (∃ c0 : Cl, Good c0 ∧ c = enc c0) ∧ e = 2))
def Fine (w : Int) (c d : PyData) : Prop := ((0 ≤ w ∧ w ≤ 10) ∨ (14 ≤ w ∧ w ≤ 16)) ∧ (∃ c0 : Cl, Good c0 ∧ c = enc c0) ∧ ∃ d0 : Dr, GoodD d0 ∧ d = enc d0
def errAt (aC aD aF : Addr) (e : Nat) : Addr := if e = 0 then aC else if e = 1 then aD else aF
/-- of the one-argument ones -/
def Bad1 (w : Int) (c d : PyData) (e : Nat) : Prop := (0 ≤ w ∧ w ≤ 16 ∧ w ≠ 11 ∧ w ≠ 12) ∧ ((w < 14 ∧ isCloth c = false ∧ e = 0) ∨ (14 ≤ w ∧ isDraft d = false ∧ e = 1) ∨ (w = 13 ∧ (∃ c0 : Cl, Good c0 ∧ c = enc c0) ∧ e = 2))
def namesE (e : Nat) : PyData := .list [.bool (decide (e = 0)), .bool (decide (e = 1)), .bool (decide (e = 2)), .bool false, .bool false]
theorem Bad.of {w : Int} {c o d m : PyData} {e : Nat} (h : Bad w c o d m e) (h1 : w ≠ 11) (h2 : w ≠ 12) (h3 : w ≠ 17) : Bad1 w c d e := by
  obtain ⟨hw, h⟩ := h
  refine ⟨by omega, ?_⟩
  rcases h with h | h | ⟨h, _⟩ | ⟨h, _⟩ | h
  · exact .inl h
  · exact .inr (.inl h)
  · omega
  · omega
  · exact .inr (.inr h)
end DF

namespace DF
open Enc (enc)
open PySem PySem.Spec PyProof.Rows L2 Evl RT
/-! ### data that is no cloth -/
theorem isCloth_row {ds : List PyData} {x : PyData} (hx : x ∈ ds) (h : isRow x 1 = false) : isCloth (.list ds) = false := by
  rw [isCloth_eq]
  have : (ds.all fun x => isRow x 1) = false := by
    rw [List.all_eq_false]
    exact ⟨x, hx, by rw [h]; decide⟩
  rw [this, Bool.false_and, Bool.and_false]
theorem isCloth_lens {ds : List PyData} {x : PyData} (hx : x ∈ ds) (h : lenD x ≠ lenD (ds.headD .none)) : isCloth (.list ds) = false := by
  rw [isCloth_eq]
  have : (ds.all fun x => decide (lenD x = lenD (ds.headD .none))) = false := by
    rw [List.all_eq_false]
    exact ⟨x, hx, by rw [decide_eq_false h]; decide⟩
  rw [this, Bool.and_false, Bool.and_false]
theorem isCloth_long {ds : List PyData} (h : 60 < ds.length) : isCloth (.list ds) = false := by
  rw [isCloth_eq, decide_eq_false (by omega)]; rfl
theorem isRow_num {xs : List PyData} {y : PyData} {hi : Int} (hy : y ∈ xs) (h : isNum y 0 hi = false) : isRow (.list xs) hi = false := by
  rw [isRow_eq]
  have : (xs.all fun x => isNum x 0 hi) = false := by
    rw [List.all_eq_false]
    exact ⟨y, hy, by rw [h]; decide⟩
  rw [this, Bool.and_false]
theorem isRow_long {xs : List PyData} {hi : Int} (h : 60 < xs.length) : isRow (.list xs) hi = false := by
  rw [isRow_eq, decide_eq_false (by omega)]; rfl
theorem mem_set_self {α : Type} {xs : List α} {k : Nat} (h : k < xs.length) (y : α) : y ∈ xs.set k y := List.mem_set h y
theorem TpAll.ofGet {H : Hp} : ∀ {vs : List V} {ds : List PyData}, vs.length = ds.length → (∀ (i : Nat) v d, vs[i]? = some v → ds[i]? = some d → Tp H v d) → TpAll H vs ds
  | [], [], _, _ => .nil
  | [], _ :: _, h, _ => by cases h
  | _ :: _, [], h, _ => by cases h
  | v :: vs, d :: ds, h, k => .cons (k 0 v d rfl rfl) (TpAll.ofGet (by simpa using h) fun i v d h1 h2 => k (i + 1) v d (by simpa using h1) (by simpa using h2))
/-- a value of one's own since B -/
def newE (B : Hp) (d : PyData) : Ent := .pr (fun H v => New B H v d) (fun _ _ _ e h => h.mono e)
theorem OwnAll.get {H : Hp} : ∀ {vs : List V} {ds : List PyData} {F : List Addr} {i : Nat} {d : PyData}, OwnAll H vs ds F → ds[i]? = some d → ∃ v G, vs[i]? = some v ∧ Own H v d G ∧ ∀ a ∈ G, a ∈ F
  | _, _, _, _, _, .nil, e => by simp at e
  | _, _, _, 0, _, .cons h _ _, e => by
    simp at e
    subst e
    exact ⟨_, _, rfl, h, fun a ha => List.mem_append_left _ ha⟩
  | _, _, _, i + 1, d, .cons _ t _, e => by
    obtain ⟨v, G, h1, h2, h3⟩ := OwnAll.get (i := i) (d := d) t (by simpa using e)
    exact ⟨v, G, by simpa using h1, h2, fun a ha => List.mem_append_right _ (h3 a ha)⟩
section
variable {K : PySem.W.Frag} {ρ : Rho} {H H' B : Hp} {σ : L2.St} {D : Ends} {t u : TS} {te ta tb to ti : TE} {z : Ent} {d : PyData} {i : Int} {p : Addr}
theorem VE.newD (h : VE K te ρ (newE B d)) : VD K te ρ d := fun σ H n Q q => h σ H n Q fun v H' e w => q v H' e (New.tp w)
theorem v_ixNew {ds : List PyData} (ha : VE K ta ρ (newE B (.list ds))) (hb : VD K tb ρ (.int i)) (h : atI ds i = some d) : VE K (tOp (rIx K) ta tb) ρ (newE B d) := fun σ H n Q q =>
  ha σ H n _ fun u H1 e1 r1 => hb σ H1 (n.mono e1) _ fun v H2 e2 r2 => by
    cases Tp.int_inv r2
    obtain ⟨F, o, f⟩ := New.mono e2 (show New B H1 u (.list ds) from r1)
    obtain ⟨a, xs, G, rfl, rfl, ea, oa, _⟩ := o.lst_inv
    have hl := oa.len
    unfold L2.atI at h
    cases hk : ixN ds.length i with
    | none => rw [hk] at h; cases h
    | some k =>
      rw [hk] at h
      obtain ⟨w, G', h1, h2, h3⟩ := oa.get (i := k) (d := d) h
      exact .inl ⟨a, xs, i, w, rfl, rfl, SqL.of ea, by unfold L2.atI; rw [hl, hk]; exact h1, q w H2 (e1.trans e2) ⟨G', h2, fun x hx => f x (List.mem_cons_of_mem _ (h3 x hx))⟩⟩
theorem s_setD {k : Nat} {xs : List V} (h : VE K te ρ z) (m : Env K H σ ρ) (ho : ∀ H', Ex H H' → Val to σ H' (.ref p)) (hi : ∀ H', Ex H H' → Val ti σ H' (.int (k : Int))) (hp : H p = some (.lst xs)) (hk : k < xs.length)
    (q : ∀ v H', Ex H H' → Rep K H' v z → D.nx σ (upd H' p (.lst (xs.set k v)))) : tAsg te (gSub to ti rSetL) D σ H :=
  h σ H m _ fun v H' e r => ho H' e _ (hi H' e _ ⟨p, _, (k : Int), k, rfl, rfl, e _ _ hp, ixN_nat hk, q v H' e r⟩)
theorem q_setD {k : Nat} {xs : List V} (h : VE K te ρ z) (m : Env K H σ ρ) (ho : ∀ H', Ex H H' → Val to σ H' (.ref p)) (hi : ∀ H', Ex H H' → Val ti σ H' (.int (k : Int))) (hp : H p = some (.lst xs)) (hk : k < xs.length)
    (q : ∀ v H', Ex H H' → Rep K H' v z → u D σ (upd H' p (.lst (xs.set k v)))) : tSeq (tAsg te (gSub to ti rSetL)) u D σ H := s_setD (D := { D with nx := u D }) h m ho hi hp hk q
/-- an if whose suite is more than one statement and ends in a return -/
theorem q_ifR {tt : TT} {b : Bool} {a r : TS} (hc : VT K tt ρ b) (hb : b = true) (n : Env K H σ ρ) (k : ∀ H', Ex H H' → tSeq a r { D with nx := u D } σ H') : tSeq (tIfS tt (tSeq a r) tNext) u D σ H := hc σ H n _ fun H' e => by
  subst hb
  exact k H' e
def rTupOf (K : PySem.W.Frag) : List V → Hp → VK → Prop := fun xs H Q => ∃ p ys, xs = [.ref p] ∧ ((SqL K H p ys ∧ ∀ l, H l = none → Q (.ref l) (upd H l (.tup ys))) ∨ (SqT K H p ys ∧ Q (.ref p) H))
theorem call_tuple_ofK {X : Cx} (K : PySem.W.Frag) (h : X.K = K := by rfl) : CallR X (.type "tuple") (rTupOf K) := by subst h; exact call_tuple_of
theorem v_tupOf {ds : List PyData} (ha : VD K ta ρ (.list ds)) : VD K (tCB (rTupOf K) (tCons ta tNil)) ρ (.tuple ds) := fun σ H n Q q =>
  ha σ H n _ fun v H1 e r => by
    obtain ⟨a, xs, rfl, ea, t⟩ := Tp.lst_inv r
    exact ⟨a, xs, rfl, .inl ⟨SqL.of ea, fun l hl => q _ _ (e.trans (Ex.new hl)) (.tup upd_same (t.mono (Ex.new hl)))⟩⟩
theorem n_tupOf {ds : List PyData} (ha : VD K ta ρ (.list ds)) (hd : ∀ d ∈ ds, plain d = true) : VN K (tCB (rTupOf K) (tCons ta tNil)) ρ (.tuple ds) := fun σ H n Q q =>
  ha σ H n _ fun v H1 e r => by
    obtain ⟨a, xs, rfl, ea, t⟩ := Tp.lst_inv r
    exact ⟨a, xs, rfl, .inl ⟨SqL.of ea, fun l hl => q _ _ (e.trans (Ex.new hl)) ⟨[], .tup upd_same ((own_plain t hd).mono (Ex.new hl)), fun _ z => nomatch z⟩⟩⟩
theorem v_dnewK : VE K tDNewK ρ (.d (.dict [])) := fun σ H n Q q p hp => q (.ref p) _ (Ex.new hp) (Tp.dic upd_same)
theorem v_pow {i j : Int} (ha : VD K ta ρ (.int i)) (hb : VD K tb ρ (.int j)) (hc : CPow i j) : VD K (tOp (rI CPow fun i j => .int (i ^ j.toNat)) ta tb) ρ (.int (i ^ j.toNat)) := v_I (fun _ => .int _) ha hb hc
theorem s_setN {k : Nat} {xs : List V} (h : VN K te ρ d) (m : Env K H σ ρ) (ho : ∀ H', Ex H H' → Val to σ H' (.ref p)) (hi : ∀ H', Ex H H' → Val ti σ H' (.int (k : Int))) (hp : H p = some (.lst xs)) (hk : k < xs.length)
    (q : ∀ v H', Ex H H' → New H H' v d → D.nx σ (upd H' p (.lst (xs.set k v)))) : tAsg te (gSub to ti rSetL) D σ H :=
  h σ H m _ fun v H' e r => ho H' e _ (hi H' e _ ⟨p, _, (k : Int), k, rfl, rfl, e _ _ hp, ixN_nat hk, q v H' e r⟩)
theorem q_setNn {k : Nat} {xs : List V} (h : VN K te ρ d) (m : Env K H σ ρ) (ho : ∀ H', Ex H H' → Val to σ H' (.ref p)) (hi : ∀ H', Ex H H' → Val ti σ H' (.int (k : Int))) (hp : H p = some (.lst xs)) (hk : k < xs.length)
    (q : ∀ v H', Ex H H' → New H H' v d → u D σ (upd H' p (.lst (xs.set k v)))) : tSeq (tAsg te (gSub to ti rSetL)) u D σ H := s_setN (D := { D with nx := u D }) h m ho hi hp hk q
/-- xs.insert(i, v) -/
theorem s_insert {k : Nat} {xs : List V} (hs : Val to σ H (.ref p)) (hi : ∀ H', Ex H H' → Val ti σ H' (.int (k : Int))) (h : VN K te ρ d) (m : Env K H σ ρ) (hp : H p = some (.lst xs)) (hz : xs.length ≤ 1000) (hk : k ≤ 1000)
    (q : ∀ v H', Ex H H' → New H H' v d → D.nx σ (upd H' p (.lst (xs.take k ++ [v] ++ xs.drop k)))) :
    tDrop (tBM K "list" (fun x vs H Q => ∃ (l : Addr) (xs : List V) (i : Int) (y : V), x = .ref l ∧ vs = [.int i, y] ∧ H l = some (.lst xs) ∧ xs.length < sizeLine ∧ 0 ≤ i ∧ i < 2 ^ 63 ∧ Q .non (upd H l (.lst (xs.take i.toNat ++ [y] ++ xs.drop i.toNat)))) to (tCons ti (tCons te tNil))) D σ H := by
  refine hs _ ⟨.inl ⟨rfl, xs, SqL.of hp⟩, hi H (Ex.refl H) _ (h σ H m _ fun v H' e r => ⟨p, xs, (k : Int), v, rfl, rfl, e _ _ hp, sz_lt (by omega), by omega, by omega, ?_⟩)⟩
  rw [Int.toNat_natCast]
  exact q v H' e r
end
theorem tp_off {H : Hp} {b : Addr} {ys : List V} {o : HO} {v : V} {d : PyData} {F : List Addr} (hb : H b = some (.lst ys)) (h : Own H v d F) (n : b ∉ F) : Tp (L2.upd H b o) v d := (h.off hb n).tp
/-- the rows, with one item of the outer list exchanged -/
theorem cat_setOuter {H B : Hp} {p : Addr} {F : List Addr} {c : Cl} (C : CAt H p F c) {v : V} {d : PyData} (w : New B H v d) (hp : ∃ o, B p = Option.some o) (k : Nat) : Tp (upd H p (.lst ((F.map V.ref).set k v))) (.ref p) (.list ((c.map enc).set k d)) := by
  obtain ⟨G, o, f⟩ := w
  obtain ⟨op, hop⟩ := hp
  have nG : p ∉ G := fun h => by have := f p h; rw [hop] at this; cases this
  refine .lst upd_same (TpAll.set (o.off C.lst nG).tp k ?_)
  have r : RowsAt (upd H p (.lst ((F.map V.ref).set k v))) F c := C.rows.off (F := [p]) off_one fun a ha h => C.out (by rw [← List.mem_singleton.mp h]; exact ha)
  exact r.tp
theorem cat_insOuter {H B : Hp} {p : Addr} {F : List Addr} {c : Cl} (C : CAt H p F c) {v : V} {d : PyData} (w : New B H v d) (hp : ∃ o, B p = Option.some o) (k : Nat) : Tp (upd H p (.lst ((F.map V.ref).take k ++ [v] ++ (F.map V.ref).drop k))) (.ref p) (.list ((c.map enc).take k ++ [d] ++ (c.map enc).drop k)) := by
  obtain ⟨G, o, f⟩ := w
  obtain ⟨op, hop⟩ := hp
  have nG : p ∉ G := fun h => by have := f p h; rw [hop] at this; cases this
  have r : RowsAt (upd H p (.lst ((F.map V.ref).take k ++ [v] ++ (F.map V.ref).drop k))) F c := C.rows.off (F := [p]) off_one fun a ha h => C.out (by rw [← List.mem_singleton.mp h]; exact ha)
  exact .lst upd_same ((r.tp.drop k).append ((r.tp.take k).snoc (o.off C.lst nG).tp))
/-- .. with one cell exchanged -/
theorem cat_setCell {H B : Hp} {p r : Addr} {F : List Addr} {c : Cl} (C : CAt H p F c) {k j : Nat} (hr : F[k]? = Option.some r) (hk : k < c.length) {v : V} {d : PyData} (w : New B H v d) (hb : ∃ o, B r = Option.some o) :
    Tp (upd H r (.lst (((c.getD k default).map V.int).set j v))) (.ref p) (.list ((c.map enc).set k (.list (((c.getD k default).map enc).set j d)))) := by
  obtain ⟨G, o, f⟩ := w
  obtain ⟨op, hop⟩ := hb
  have nG : r ∉ G := fun h => by have := f r h; rw [hop] at this; cases this
  have hrF : r ∈ F := List.mem_of_getElem? hr
  have hrow : H r = some (.lst ((c.getD k default).map V.int)) := C.rows.at_ k r _ hr (by rw [List.getD_eq_getElem?_getD, List.getElem?_eq_getElem hk]; rfl)
  have np : p ≠ r := fun e => C.out (by rw [e]; exact hrF)
  refine .lst (by rw [upd_ne np]; exact C.lst) (TpAll.ofGet (by simp [C.rows.len]) fun i u e h1 h2 => ?_)
  rw [List.getElem?_map] at h1
  cases hFi : F[i]? with
  | none => rw [hFi] at h1; cases h1
  | some a =>
    rw [hFi] at h1
    cases h1
    by_cases hik : k = i
    · subst hik
      rw [hr] at hFi
      cases hFi
      rw [List.getElem?_set_self (by rw [List.length_map]; exact hk)] at h2
      cases h2
      exact .lst upd_same (TpAll.set (o.off hrow nG).tp j (tp_ints _))
    · rw [List.getElem?_set_ne hik, List.getElem?_map] at h2
      cases hci : c[i]? with
      | none => rw [hci] at h2; cases h2
      | some row =>
        rw [hci] at h2
        cases h2
        have nar : a ≠ r := fun e => hik ((List.getElem?_inj (List.getElem?_eq_some_iff.mp hr).1 C.rows.nd).mp (by rw [hr, hFi, e]))
        exact Tp.ints (by rw [upd_ne nar]; exact C.rows.at_ i a row hFi hci)
end DF

namespace DF
open Enc (enc)
open PySem PySem.Spec PyProof.Rows L2 Evl RT
/-! ### what is new since B -/
open Classical in
noncomputable def newH (B H : Hp) : Hp := fun x => if B x = none then H x else none
theorem newH_at {B H : Hp} {x : Addr} (h : B x = none) : newH B H x = H x := by unfold newH; rw [if_pos h]
theorem newH_sub {B H : Hp} {x : Addr} {o : HO} (h : newH B H x = some o) : H x = some o ∧ B x = none := by
  unfold newH at h
  by_cases hb : B x = none
  · rw [if_pos hb] at h; exact ⟨h, hb⟩
  · rw [if_neg hb] at h; cases h
theorem newH_ex {B H H' : Hp} (e : Ex H H') : Ex (newH B H) (newH B H') := fun x o h => by
  obtain ⟨h1, h2⟩ := newH_sub h
  rw [newH_at h2]; exact e x o h1
theorem newH_base {B B' H : Hp} (e : Ex B B') : Ex (newH B' H) (newH B H) := fun x o h => by
  obtain ⟨h1, h2⟩ := newH_sub h
  rw [newH_at (fresh_back e h2)]; exact h1
theorem newH_upd {B H : Hp} {p : Addr} {o : HO} (h : B p = none) : newH B (upd H p o) = upd (newH B H) p o := funext fun x => by
  by_cases e : x = p
  · subst e; rw [newH_at h, upd_same, upd_same]
  · rw [upd_ne e]
    by_cases hb : B x = none
    · rw [newH_at hb, newH_at hb, upd_ne e]
    · unfold newH; rw [if_neg hb, if_neg hb]
theorem newH_le (B H : Hp) : Ex (newH B H) H := fun x o h => (newH_sub h).1
/-- what stood may be changed -/
theorem newH_off {B H : Hp} {p : Addr} {o : HO} (h : B p ≠ none) : Ex (newH B H) (upd H p o) := fun x o' hx => by
  obtain ⟨h1, h2⟩ := newH_sub hx
  rw [upd_ne (fun e => h (by rw [← e]; exact h2))]; exact h1
mutual
def noTup : PyData → Bool
  | .list xs => noTupAll xs
  | .tuple _ => false
  | .dict _ => false
  | .none => true
  | .bool _ => true
  | .int _ => true
  | .str _ => true
def noTupAll : List PyData → Bool
  | [] => true
  | x :: xs => noTup x && noTupAll xs
end
theorem noTupAll_iff : ∀ {ds : List PyData}, (∀ d ∈ ds, noTup d = true) → noTupAll ds = true
  | [], _ => rfl
  | d :: ds, h => by
    show (noTup d && noTupAll ds) = true
    rw [h d List.mem_cons_self, noTupAll_iff fun x hx => h x (List.mem_cons_of_mem _ hx)]; rfl
theorem noTup_list {ds : List PyData} (h : ∀ d ∈ ds, noTup d = true) : noTup (.list ds) = true := noTupAll_iff h
theorem noTup_ints (ns : List Int) : noTup (enc ns) = true := noTup_list fun d hd => by
  obtain ⟨n, _, rfl⟩ := List.mem_map.mp hd
  rfl
theorem noTup_cl (c : Cl) : noTup (enc c) = true := noTup_list fun d hd => by
  obtain ⟨n, _, rfl⟩ := List.mem_map.mp hd
  exact noTup_ints n
mutual
theorem Own.newH {B H : Hp} : ∀ {v : V} {d : PyData} {F : List Addr}, Own H v d F → noTup d = true → (∀ a ∈ F, B a = none) → Own (DF.newH B H) v d F
  | _, _, _, .non, _, _ => .non
  | _, _, _, .bl b, _, _ => .bl b
  | _, _, _, .int i, _, _ => .int i
  | _, _, _, .str x, _, _ => .str x
  | _, _, _, .lst h t n, k, f => .lst (by rw [newH_at (f _ List.mem_cons_self)]; exact h) (OwnAll.newH t k fun a ha => f a (List.mem_cons_of_mem _ ha)) n
  | _, _, _, .tup _ _, k, _ => by simp [noTup] at k
theorem OwnAll.newH {B H : Hp} : ∀ {vs : List V} {ds : List PyData} {F : List Addr}, OwnAll H vs ds F → noTupAll ds = true → (∀ a ∈ F, B a = none) → OwnAll (DF.newH B H) vs ds F
  | _, _, _, .nil, _, _ => .nil
  | _, _, _, .cons h t n, k, f => by
    simp only [noTupAll, Bool.and_eq_true] at k
    exact .cons (Own.newH h k.1 fun a ha => f a (List.mem_append_left _ ha)) (OwnAll.newH t k.2 fun a ha => f a (List.mem_append_right _ ha)) n
end
/-- new since B, told in what is new since A -/
theorem new_newH {A B H : Hp} {v : V} {d : PyData} (w : New B H v d) (e : Ex A B) (k : noTup d = true) : New B (newH A H) v d := by
  obtain ⟨G, o, f⟩ := w
  exact ⟨G, o.newH k fun a ha => fresh_back e (f a ha), f⟩
theorem cat_newH {B H : Hp} {p : Addr} {F : List Addr} {c : Cl} (C : CAt H p F c) (hp : B p = none) (hF : ∀ x ∈ F, B x = none) : CAt (newH B H) p F c :=
  ⟨by rw [newH_at hp]; exact C.lst, ⟨C.rows.nd, C.rows.len, fun i a row h1 h2 => by rw [newH_at (hF a (List.mem_of_getElem? h1))]; exact C.rows.at_ i a row h1 h2⟩, C.out⟩
/-- a def that tells some new data with a property -/
def spF (K : PySem.W.Frag) (A : List Ent → Prop) (P : List Ent → PyData → Prop) : Sp := fun vs H Q _ => ∃ zs, RepAll K H vs zs ∧ A zs ∧ ∀ r, P zs r → ∀ v H', Ex H H' → Tp (newH H H') v r → Q v H'
def freshE (B : Hp) (d : PyData) : Ent := .pr (fun H v => Tp (newH B H) v d) (fun _ _ _ e h => Tp.mono (newH_ex e) h)
section
variable {K : PySem.W.Frag} {ρ : Rho} {H H' B : Hp} {σ : L2.St} {D : Ends} {t u : TS} {te ta tb to ti : TE} {z : Ent} {d : PyData} {i : Int} {p : Addr} {ds es : List PyData} {hB : True}
/-- the slots know that B stands -/
def Base (K : PySem.W.Frag) (B : Hp) (ρ : Rho) : Prop := ∀ σ H, Env K H σ ρ → Ex B H
theorem VE.freshD (h : VE K te ρ (freshE B d)) : VD K te ρ d := fun σ H n Q q => h σ H n Q fun v H' e w => q v H' e (Tp.mono (newH_le B H') w)
theorem fr_plain (h : VD K te ρ d) (p : plain d = true) : VE K te ρ (freshE B d) := fun σ H n Q q => h σ H n Q fun v H' e w => q v H' e (Tp.plain (H' := newH B H') w p).tp
theorem fr_dic (b : Base K B ρ) : VE K tDNewK ρ (freshE B (.dict [])) := fun σ H n Q q p hp => q (.ref p) _ (Ex.new hp) (by
  show Tp (newH B (upd H p (.dK []))) (.ref p) (.dict [])
  rw [newH_upd (fresh_back (b σ H n) hp)]
  exact .dic upd_same)
theorem RepAll.fresh {H : Hp} : ∀ {ds : List PyData} {vs : List V}, RepAll K H vs (ds.map (freshE B)) → TpAll (newH B H) vs ds
  | [], _, h => by cases h; exact .nil
  | _ :: _, _, h => by
    cases h with
    | cons h1 h2 => exact .cons h1 (RepAll.fresh h2)
theorem fr_lst {ta : TA} (b : Base K B ρ) (h : AE K ta ρ (ds.map (freshE B))) (hz : ds.length ≤ 100000) : VE K (tLst ta) ρ (freshE B (.list ds)) := fun σ H n Q q =>
  h σ H n _ fun vs H1 e r => by
    have t := r.fresh
    refine ⟨sz_of (by rw [t.len]; exact hz), fun p hp => q _ _ (e.trans (Ex.new hp)) ?_⟩
    show Tp (newH B (upd H1 p (.lst vs))) (.ref p) (.list ds)
    exact .lst (by rw [newH_upd (fresh_back ((b σ H n).trans e) hp)]; exact upd_same) (t.mono (newH_ex (Ex.new hp)))
theorem fr_cat (b : Base K B ρ) (ha : VE K ta ρ (freshE B (.list ds))) (hb : VE K tb ρ (freshE B (.list es))) (hz : ds.length + es.length ≤ 100000) : VE K (tOp L2.rCat ta tb) ρ (freshE B (.list (ds ++ es))) := fun σ H n Q q =>
  ha σ H n _ fun u H1 e1 r1 => hb σ H1 (n.mono e1) _ fun v H2 e2 r2 => by
    obtain ⟨a, xs, rfl, ea, t⟩ := Tp.lst_inv (Tp.mono (newH_ex e2) (show Tp (newH B H1) u (.list ds) from r1))
    obtain ⟨b', ys, rfl, eb, t'⟩ := Tp.lst_inv (show Tp (newH B H2) v (.list es) from r2)
    refine ⟨a, b', xs, ys, rfl, rfl, (newH_sub ea).1, (newH_sub eb).1, sz_of (by rw [t.len, t'.len]; exact hz), fun p hp => q _ _ ((e1.trans e2).trans (Ex.new hp)) ?_⟩
    show Tp (newH B (upd H2 p (.lst (xs ++ ys)))) (.ref p) (.list (ds ++ es))
    exact .lst (by rw [newH_upd (fresh_back ((b σ H n).trans (e1.trans e2)) hp)]; exact upd_same) ((t'.append t).mono (newH_ex (Ex.new hp)))
theorem fr_rep {k : Int} (b : Base K B ρ) (ha : VE K ta ρ (freshE B (.list ds))) (hb : VD K tb ρ (.int k)) (hk : 0 ≤ k ∧ k ≤ 100000) (hz : ds.length * k.toNat ≤ 100000) : VE K (tOp rRep ta tb) ρ (freshE B (.list (rep ds k.toNat))) := fun σ H n Q q =>
  ha σ H n _ fun u H1 e1 r1 => hb σ H1 (n.mono e1) _ fun v H2 e2 r2 => by
    cases Tp.int_inv r2
    obtain ⟨a, xs, rfl, ea, t⟩ := Tp.lst_inv (Tp.mono (newH_ex e2) (show Tp (newH B H1) u (.list ds) from r1))
    refine ⟨a, k, xs, rfl, rfl, (newH_sub ea).1, by omega, by omega, sz_of (by rw [t.len]; exact hz), fun p hp => q _ _ ((e1.trans e2).trans (Ex.new hp)) ?_⟩
    show Tp (newH B (upd H2 p (.lst (List.replicate k.toNat xs).flatten))) (.ref p) (.list (rep ds k.toNat))
    exact .lst (by rw [newH_upd (fresh_back ((b σ H n).trans (e1.trans e2)) hp)]; exact upd_same) ((tpAll_rep t k.toNat).mono (newH_ex (Ex.new hp)))
theorem fr_tupOf (b : Base K B ρ) (ha : VE K ta ρ (freshE B (.list ds))) : VE K (tCB (rTupOf K) (tCons ta tNil)) ρ (freshE B (.tuple ds)) := fun σ H n Q q =>
  ha σ H n _ fun v H1 e r => by
    obtain ⟨a, xs, rfl, ea, t⟩ := Tp.lst_inv (show Tp (newH B H1) v (.list ds) from r)
    refine ⟨a, xs, rfl, .inl ⟨SqL.of (newH_sub ea).1, fun l hl => q _ _ (e.trans (Ex.new hl)) ?_⟩⟩
    show Tp (newH B (upd H1 l (.tup xs))) (.ref l) (.tuple ds)
    exact .tup (by rw [newH_upd (fresh_back ((b σ H n).trans e) hl)]; exact upd_same) (t.mono (newH_ex (Ex.new hl)))
theorem fr_ix (ha : VE K ta ρ (freshE B (.list ds))) (hb : VD K tb ρ (.int i)) (h : atI ds i = some d) : VE K (tOp (rIx K) ta tb) ρ (freshE B d) := fun σ H n Q q =>
  ha σ H n _ fun u H1 e1 r1 => hb σ H1 (n.mono e1) _ fun v H2 e2 r2 => by
    cases Tp.int_inv r2
    obtain ⟨a, xs, rfl, ea, t⟩ := Tp.lst_inv (Tp.mono (newH_ex e2) (show Tp (newH B H1) u (.list ds) from r1))
    obtain ⟨w, ew, tw⟩ := t.atI h
    exact .inl ⟨a, xs, i, w, rfl, rfl, SqL.of (newH_sub ea).1, ew, q w H2 (e1.trans e2) tw⟩
/-- xs[i] = tuple(e), e's items plain -/
theorem s_setTup {k : Nat} {xs : List V} (ha : VD K ta ρ (.list ds)) (hd : ∀ d ∈ ds, plain d = true) (m : Env K H σ ρ) (ho : ∀ H', Ex H H' → Val to σ H' (.ref p)) (hi : ∀ H', Ex H H' → Val ti σ H' (.int (k : Int))) (hp : H p = some (.lst xs)) (hk : k < xs.length) (e0 : Ex B H)
    (q : ∀ v H', Ex H H' → New H (newH B H') v (.tuple ds) → D.nx σ (upd H' p (.lst (xs.set k v)))) : tAsg (tCB (rTupOf K) (tCons ta tNil)) (gSub to ti rSetL) D σ H :=
  ha σ H m _ fun v H1 e r => by
    obtain ⟨a, ys, rfl, ea, t⟩ := Tp.lst_inv r
    refine ⟨a, ys, rfl, .inl ⟨SqL.of ea, fun l hl => ?_⟩⟩
    have e' := e.trans (Ex.new (o := .tup ys) hl)
    refine ho _ e' _ (hi _ e' _ ⟨p, _, (k : Int), k, rfl, rfl, e' _ _ hp, ixN_nat hk, q (.ref l) _ e' ⟨[], ?_, fun _ z => nomatch z⟩⟩)
    exact .tup (by rw [newH_upd (fresh_back (e0.trans e) hl)]; exact upd_same) (own_plain t hd)
end
end DF

namespace DF
open Enc (enc)
open PySem PySem.Spec PyProof.Rows L2 Evl RT
/-- an entry that says that B stands -/
def baseE (B : Hp) : Ent := .pr (fun H _ => Ex B H) (fun _ _ _ e h => h.trans e)
section
variable {K : PySem.W.Frag} {ρ : Rho} {B : Hp} {te ta : TE} {d : PyData} {i : Nat}
theorem base_of (h : ρ[i]? = some (some (baseE B))) : Base K B ρ := fun σ H n => by
  obtain ⟨v, _, r⟩ := n.2 i _ h
  exact r
theorem VN.toFresh (b : Base K B ρ) (h : VN K te ρ d) (k : noTup d = true) : VE K te ρ (freshE B d) := fun σ H n Q q => h σ H n Q fun v H' e w => q v H' e (New.tp (new_newH w (b σ H n) k))
theorem cat_fresh {H' : Hp} {p : Addr} {F : List Addr} {c : Cl} (C : CAt H' p F c) (hp : B p = none) (hF : ∀ x ∈ F, B x = none) : Tp (newH B H') (.ref p) (enc c) := (cat_newH C hp hF).tp
theorem RepAll.mono' {H H' : Hp} (e : Ex H H') {vs : List V} {zs : List Ent} (h : RepAll K H vs zs) : RepAll K H' vs zs := RepAll.mono e h
/-- x = a def's fresh answer -/
theorem q_setF {A : List Ent → Prop} {P : List Ent → PyData → Prop} {F : XK} {σ : L2.St} {H : Hp} {D : Ends} {u : TS} {zs : List Ent} {ta : TA} (ha : AE K ta ρ zs) (hA : A zs) (n : Env K H σ ρ) (k : ∀ r v H', P zs r → Ex H H' → Tp H' v r → Env K H' (σ.set i (some v)) (ρ.set i (some (.d r))) → u D (σ.set i (some v)) H') : tSeq (tAsg (tCall (spF K A P) [] F ta) (gName i)) u D σ H :=
  ha σ H n _ fun vs H1 e1 r1 => by
    show spF K A P (vs ++ []) H1 _ F
    rw [List.append_nil]
    exact ⟨zs, r1, hA, fun r hr v H' e2 w => by
      have w' : Tp H' v r := Tp.mono (newH_le H1 H') w
      exact k r v H' hr (e1.trans e2) w' ((n.mono (e1.trans e2)).set i (z := .d r) w')⟩
end
end DF

namespace DF
open Enc (enc)
open PySem PySem.Spec PyProof.Rows L2 Evl RT
/-! ### a draft's parts, made wrong -/
/-- what stood at B already -/
def stE (B : Hp) (d : PyData) : Ent := .pr (fun _ v => Tp B v d) (fun _ _ _ _ h => h)
/-- a list of what stood at B already -/
def oddE (B : Hp) (ds : List PyData) : Ent := .pr (fun H v => ∃ p xs, v = .ref p ∧ H p = some (.lst xs) ∧ TpAll B xs ds) (fun _ _ _ e ⟨p, xs, h1, h2, h3⟩ => ⟨p, xs, h1, e _ _ h2, h3⟩)
/-- some fresh data with a property -/
def someE (B : Hp) (P : PyData → Prop) : Ent := .pr (fun H v => ∃ r, P r ∧ Tp (newH B H) v r) (fun _ _ _ e ⟨r, h1, h2⟩ => ⟨r, h1, Tp.mono (newH_ex e) h2⟩)
section
variable {K : PySem.W.Frag} {ρ : Rho} {H H' B : Hp} {σ : L2.St} {D : Ends} {t u : TS} {te ta tb to ti : TE} {z : Ent} {d : PyData} {i : Int} {p : Addr} {ds es : List PyData}
theorem v_ixB (ha : VE K ta ρ (oddE B ds)) (hb : VD K tb ρ (.int i)) (h : atI ds i = some d) : VE K (tOp (rIx K) ta tb) ρ (stE B d) := fun σ H n Q q =>
  ha σ H n _ fun u H1 e1 r1 => hb σ H1 (n.mono e1) _ fun v H2 e2 r2 => by
    cases Tp.int_inv r2
    obtain ⟨a, xs, rfl, ea, t⟩ := (show ∃ p xs, u = .ref p ∧ H1 p = some (.lst xs) ∧ TpAll B xs ds from r1)
    obtain ⟨w, ew, tw⟩ := t.atI h
    exact .inl ⟨a, xs, i, w, rfl, rfl, SqL.of (e2 _ _ ea), ew, q w H2 (e1.trans e2) tw⟩
theorem v_callF {A : List Ent → Prop} {P : List Ent → PyData → Prop} {F : XK} {ta : TA} {zs : List Ent} (b : Base K B ρ) (ha : AE K ta ρ zs) (hA : A zs) : VE K (tCall (spF K A P) [] F ta) ρ (someE B (P zs)) := fun σ H n Q q =>
  ha σ H n _ fun vs H1 e1 r1 => by
    show spF K A P (vs ++ []) H1 _ F
    rw [List.append_nil]
    exact ⟨zs, r1, hA, fun r hr v H' e2 w => q v H' (e1.trans e2) ⟨r, hr, Tp.mono (newH_base ((b σ H n).trans e1)) w⟩⟩
theorem fr_tupPl (b : Base K B ρ) (ha : VD K ta ρ (.list ds)) (hd : ∀ d ∈ ds, plain d = true) : VE K (tCB (rTupOf K) (tCons ta tNil)) ρ (freshE B (.tuple ds)) := fun σ H n Q q =>
  ha σ H n _ fun v H1 e r => by
    obtain ⟨a, ys, rfl, ea, t⟩ := Tp.lst_inv r
    refine ⟨a, ys, rfl, .inl ⟨SqL.of ea, fun l hl => q _ _ (e.trans (Ex.new (o := .tup ys) hl)) ?_⟩⟩
    show Tp (newH B (upd H1 l (.tup ys))) (.ref l) (.tuple ds)
    exact .tup (by rw [newH_upd (fresh_back ((b σ H n).trans e) hl)]; exact upd_same) (own_plain t hd).tp
/-- xs = [..], its items standing before it -/
theorem q_lstB {ta : TA} {i : Nat} (h : AE K ta ρ (ds.map Ent.d)) (hz : ds.length ≤ 100000) (m : Env K H σ ρ) (k : ∀ B p xs, Ex H B → B p = none → TpAll B xs ds → u D (σ.set i (some (.ref p))) (upd B p (.lst xs))) : tSeq (tAsg (tLst ta) (gName i)) u D σ H :=
  h σ H m _ fun vs H1 e r => ⟨sz_of (by rw [r.tp.len]; exact hz), fun p hp => k H1 p vs e hp r.tp⟩
theorem s_setG {k : Nat} {xs : List V} (h : VE K te ρ z) (m : Env K H σ ρ) (ho : ∀ H', Ex H H' → Val to σ H' (.ref p)) (hi : VD K ti ρ (.int (k : Int))) (hp : H p = some (.lst xs)) (hk : k < xs.length)
    (q : ∀ v H', Ex H H' → Rep K H' v z → D.nx σ (upd H' p (.lst (xs.set k v)))) : tAsg te (gSub to ti rSetL) D σ H :=
  h σ H m _ fun v H1 e r => ho H1 e _ (hi σ H1 (m.mono e) _ fun w H2 e2 r2 => by
    cases Tp.int_inv r2
    exact ⟨p, _, (k : Int), k, rfl, rfl, e2 _ _ (e _ _ hp), ixN_nat hk, q v H2 (e.trans e2) (r.mono e2)⟩)
theorem q_setG {k : Nat} {xs : List V} (h : VE K te ρ z) (m : Env K H σ ρ) (ho : ∀ H', Ex H H' → Val to σ H' (.ref p)) (hi : VD K ti ρ (.int (k : Int))) (hp : H p = some (.lst xs)) (hk : k < xs.length)
    (q : ∀ v H', Ex H H' → Rep K H' v z → u D σ (upd H' p (.lst (xs.set k v)))) : tSeq (tAsg te (gSub to ti rSetL)) u D σ H := s_setG (D := { D with nx := u D }) h m ho hi hp hk q
end
/-- a draft's parts in a list -/
structure PAt (H : Hp) (p a b c : Addr) (F : List Addr) (d : Dr) : Prop where
  lst : H p = some (.lst [.ref a, .ref b, .ref c])
  th : H a = some (.lst (d.th.map V.int))
  ti : CAt H b F d.ti
  tr : H c = some (.lst (d.tr.map V.int))
theorem PAt.tp {H : Hp} {t a b c : Addr} {F : List Addr} {d : Dr} (h : PAt H t a b c F d) : Tp H (.ref t) (.list [enc d.th, enc d.ti, enc d.tr]) := .lst h.lst (.cons (Tp.ints h.th) (.cons h.ti.tp (.cons (Tp.ints h.tr) .nil)))
theorem PAt.mono {H H' : Hp} {t a b c : Addr} {F : List Addr} {d : Dr} (e : Ex H H') (h : PAt H t a b c F d) : PAt H' t a b c F d := ⟨e _ _ h.lst, e _ _ h.th, h.ti.mono e, e _ _ h.tr⟩
/-- .. each once, and none stood at B -/
structure PSep (B : Hp) (p a b c : Addr) (F : List Addr) : Prop where
  p0 : B p = none
  a0 : B a = none
  b0 : B b = none
  c0 : B c = none
  F0 : ∀ x ∈ F, B x = none
  pa : p ≠ a
  pb : p ≠ b
  pc : p ≠ c
  pF : p ∉ F
  ab : a ≠ b
  ac : a ≠ c
  bc : b ≠ c
  aF : a ∉ F
  cF : c ∉ F
theorem New.parts {B H : Hp} {v : V} {d : Dr} (w : New B H v (.list [enc d.th, enc d.ti, enc d.tr])) : ∃ p a b c F, v = .ref p ∧ PAt H p a b c F d ∧ PSep B p a b c F := by
  obtain ⟨G, o, f⟩ := w
  obtain ⟨p, xs, G, rfl, rfl, hp, o, np⟩ := o.lst_inv
  cases o with
  | cons o1 o2 j1 =>
    cases o2 with
    | cons o2 o3 j2 =>
      cases o3 with
      | cons o3 o4 j3 =>
        cases o4
        obtain ⟨a, rfl, rfl, ha⟩ := own_intList o1
        obtain ⟨b, F, rfl, rfl, hb⟩ := Own.cat o2
        obtain ⟨c, rfl, rfl, hc⟩ := own_intList o3
        have k1 := j1 a List.mem_cons_self
        have k2 := fun x hx => j2 x hx
        simp only [List.append_nil, List.mem_append, List.mem_cons, List.not_mem_nil, or_false, not_or] at k1 k2 np f
        exact ⟨p, a, b, c, F, rfl, ⟨hp, ha, hb, hc⟩, ⟨f p (.inl rfl), f a (.inr (.inl rfl)), f b (.inr (.inr (.inl (.inl rfl)))), f c (.inr (.inr (.inr rfl))), fun x hx => f x (.inr (.inr (.inl (.inr hx)))), np.1, np.2.1.1, np.2.2, np.2.1.2, k1.1.1, k1.2, k2 b (.inl rfl), k1.1.2, fun hm => k2 c (.inr hm) rfl⟩⟩
theorem CAt.one {H : Hp} {p x : Addr} {F : List Addr} {c : Cl} {o : HO} (C : CAt H p F c) (h1 : p ≠ x) (h2 : x ∉ F) : CAt (upd H x o) p F c :=
  ⟨by rw [upd_ne h1]; exact C.lst, C.rows.off (F := [x]) off_one fun a ha h => h2 (by rw [← List.mem_singleton.mp h]; exact ha), C.out⟩
theorem PAt.one {H : Hp} {p a b c x : Addr} {F : List Addr} {d : Dr} {o : HO} (h : PAt H p a b c F d) (hp : p ≠ x) (ha : a ≠ x) (hb : b ≠ x) (hc : c ≠ x) (hF : x ∉ F) : PAt (upd H x o) p a b c F d :=
  ⟨by rw [upd_ne hp]; exact h.lst, by rw [upd_ne ha]; exact h.th, h.ti.one hb hF, by rw [upd_ne hc]; exact h.tr⟩
theorem PAt.setTh {B H : Hp} {p a b c : Addr} {F : List Addr} {d : Dr} (h : PAt H p a b c F d) (s : PSep B p a b c F) {v : V} {e : PyData} (E : Ex B H) (t : Tp B v e) (k : Nat) :
    Tp (upd H a (.lst ((d.th.map V.int).set k v))) (.ref p) (.list [.list ((d.th.map enc).set k e), enc d.ti, enc d.tr]) :=
  .lst (by rw [upd_ne s.pa]; exact h.lst) (.cons (.lst upd_same (TpAll.set (t.mono (E.mut s.a0)) k (tp_ints _))) (.cons (h.ti.one s.ab.symm s.aF).tp (.cons (Tp.ints (by rw [upd_ne s.ac.symm]; exact h.tr)) .nil)))
theorem PAt.setTr {B H : Hp} {p a b c : Addr} {F : List Addr} {d : Dr} (h : PAt H p a b c F d) (s : PSep B p a b c F) {v : V} {e : PyData} (E : Ex B H) (t : Tp B v e) (k : Nat) :
    Tp (upd H c (.lst ((d.tr.map V.int).set k v))) (.ref p) (.list [enc d.th, enc d.ti, .list ((d.tr.map enc).set k e)]) :=
  .lst (by rw [upd_ne s.pc]; exact h.lst) (.cons (Tp.ints (by rw [upd_ne s.ac]; exact h.th)) (.cons (h.ti.one s.bc s.cF).tp (.cons (.lst upd_same (TpAll.set (t.mono (E.mut s.c0)) k (tp_ints _))) .nil)))
/-- an item of the outer list exchanged for what is fresh -/
theorem PAt.set {B B' H : Hp} {p a b c : Addr} {F : List Addr} {d : Dr} (h : PAt H p a b c F d) (s : PSep B p a b c F) {v : V} {e : PyData} (hp : B' p ≠ none) (t : Tp (newH B' H) v e) (k : Nat) :
    Tp (upd H p (.lst ([V.ref a, .ref b, .ref c].set k v))) (.ref p) (.list ([enc d.th, enc d.ti, enc d.tr].set k e)) :=
  .lst upd_same (TpAll.set (t.mono (newH_off hp)) k (.cons (Tp.ints (by rw [upd_ne s.pa.symm]; exact h.th)) (.cons (h.ti.one s.pb.symm s.pF).tp (.cons (Tp.ints (by rw [upd_ne s.pc.symm]; exact h.tr)) .nil))))
/-- no draft: a part of it is none -/
theorem bad_th {a b c : PyData} (h : isRow a ((lenD b : Int) - 1) = false) : isDraft (.tuple [a, b, c]) = false := by rw [isDraft_eq, h, Bool.false_and, Bool.and_false]
theorem bad_ti {a b c : PyData} (h : isCloth b = false) : isDraft (.tuple [a, b, c]) = false := by rw [isDraft_eq, h, Bool.false_and]
theorem bad_tr {a c : PyData} {ti : Cl} (g : Good ti) (h : isRow c ((wd ti : Int) - 1) = false) : isDraft (.tuple [a, enc ti, c]) = false := by
  have := g.pos
  cases ti with
  | nil => simp at this
  | cons r t =>
    have h : isRow c ((r.length : Int) - 1) = false := h
    show (isCloth (enc (r :: t)) && (isRow a ((lenD (enc (r :: t)) : Int) - 1) && isRow c (((r.map enc).length : Int) - 1))) = false
    rw [List.length_map, h, Bool.and_false, Bool.and_false]
theorem lenD_cl (ti : Cl) : lenD (enc ti) = ti.length := by show (ti.map enc).length = _; rw [List.length_map]
/-- values that are no number below n -/
def oddX (i : Int) : PyData := [PyData.str "0", .list [.int 0], .int ((10 : Int) ^ (20 : Int).toNat)].getD i.toNat .none
def oddsD (n i : Int) : List PyData := [.int n, .int (-1), .bool (decide (i % 2 = 0)), oddX (i % 3), .none]
theorem oddsD_bad {n i : Int} (h0 : n ≤ 1000) {k : Nat} (h : k < 5) : isNum ((oddsD n i).getD k .none) 0 (n - 1) = false := by
  rcases k with _ | _ | _ | _ | _ | k
  · show (decide ((0 : Int) ≤ n) && decide (n ≤ n - 1)) = false
    rw [decide_eq_false (p := n ≤ n - 1) (by omega), Bool.and_false]
  · rfl
  · rfl
  · show isNum (oddX (i % 3)) 0 (n - 1) = false
    have h1 := Int.emod_nonneg i (show (3 : Int) ≠ 0 by decide)
    have h2 := Int.emod_lt_of_pos i (show (0 : Int) < 3 by decide)
    have h3 : i % 3 = 0 ∨ i % 3 = 1 ∨ i % 3 = 2 := by omega
    rcases h3 with h | h | h <;> rw [h]
    · rfl
    · rfl
    · show (decide ((0 : Int) ≤ (10 : Int) ^ (20 : Int).toNat) && decide ((10 : Int) ^ (20 : Int).toNat ≤ n - 1)) = false
      rw [decide_eq_false (p := (10 : Int) ^ (20 : Int).toNat ≤ n - 1) (by
        have : (10 : Int) ^ (20 : Int).toNat = 100000000000000000000 := by decide +kernel
        omega), Bool.and_false]
  · rfl
  · omega
end DF

namespace DF
open Enc (enc)
open PySem PySem.Spec PyProof.Rows L2 Evl RT
section
variable {K : PySem.W.Frag} {ρ : Rho} {ta tb : TE}
/-- i in (a, b, c) -/
theorem v_in3 {i a b c : Int} (ha : VD K ta ρ (.int i)) (hb : VD K tb ρ (.tuple [.int a, .int b, .int c])) : VD K (tOp (rIn K false) ta tb) ρ (.bool (decide (i = a ∨ i = b ∨ i = c))) := v_two ha hb fun H u v Q r1 r2 q => by
  cases Tp.int_inv r1
  obtain ⟨p, xs, rfl, hp, t⟩ := Tp.tup_inv r2
  cases t with
  | cons t1 t =>
    cases Tp.int_inv t1
    cases t with
    | cons t2 t =>
      cases Tp.int_inv t2
      cases t with
      | cons t3 t =>
        cases Tp.int_inv t3
        cases t
        refine ⟨p, _, rfl, .inr (SqT.of hp), rfl, rfl, ?_⟩
        have e : inV (V.int i) [.int a, .int b, .int c] = decide (i = a ∨ i = b ∨ i = c) := by
          show ((a == i) || ((b == i) || ((c == i) || false))) = _
          rw [Bool.or_false]
          by_cases h1 : a = i
          · subst h1; simp
          by_cases h2 : b = i
          · subst h2; simp
          by_cases h3 : c = i
          · subst h3; simp
          rw [decide_eq_false (by omega), beq_false_of_ne h1, beq_false_of_ne h2, beq_false_of_ne h3]; rfl
        show Q (.bl (inV (V.int i) [.int a, .int b, .int c])) H
        rw [e]
        exact q _ H (Ex.refl H) (.bl _)
end
/-- the first one's error, as a list of truths -/
def firstE (w : Int) : List Bool := [decide (w < 14), decide (14 ≤ w), false, false, false]
theorem firstE_is (w : Int) : (enc (firstE w) : PyData) = namesE (if w < 14 then 0 else 1) := by
  by_cases h : w < 14
  · rw [if_pos h]
    show PyData.list [.bool (decide (w < 14)), .bool (decide (14 ≤ w)), .bool false, .bool false, .bool false] = _
    rw [decide_eq_true h, decide_eq_false (p := 14 ≤ w) (by omega)]; rfl
  · rw [if_neg h]
    show PyData.list [.bool (decide (w < 14)), .bool (decide (14 ≤ w)), .bool false, .bool false, .bool false] = _
    rw [decide_eq_false h, decide_eq_true (p := 14 ≤ w) (by omega)]; rfl
end DF

namespace DF
open Enc (enc)
open PySem PySem.Spec PyProof.Rows L2 Evl RT
def topS (i : Nat) : Stmt := PySem.Challenge.pw_drafthall_k02_what_is_refused.main.body.getD i (.Pass ⟨0, 0, 0, 0⟩)
section
variable {P : Program} {w : World} {K : PySem.W.Frag} {mg : Str → Option Value} {base : Heap}
/-! is_number -/
abbrev s_is_number : Stmt := topS 8
abbrev N_is_number : List Str := ["thing", "least", "most"]
theorem sc_is_number : FnScope N_is_number ["thing", "least", "most"] (defScope s_is_number) := ⟨rfl, rfl, rfl, by decide +kernel, rfl, by decide +kernel, by decide +kernel⟩

def R_is_number : List Ent → PyData → Prop := fun zs r => ∃ (d : PyData) (lo hi : Int), zs = [.d d, .d (.int lo), .d (.int hi)] ∧ r = .bool (isNum d lo hi)
theorem c_is_number (B : Blt mg) (D_ : Dfn K mg "is_number" s_is_number ["thing", "least", "most"]) : Cal P w K mg base CX0 1 "is_number" ["thing", "least", "most"] (spR K R_is_number) := by
  refine cal_R D_ sc_is_number (fun zs r h => by obtain ⟨d, lo, hi, rfl, _⟩ := h; rfl) fun f cdv A outer s H E hr => ⟨_, (pss_one (ps_ret (pe_and (pe_callB (call_isiK' K) (by rfl) B.isinstance (by decide +kernel) (pa_cons (pv 0) (pa_cons (pe_bltn (v := .ty "int") (by rfl) B.int (by decide +kernel) rfl) pa_nil))) (pe_and (pe_not (pe_callB (call_isiK' K) (by rfl) B.isinstance (by decide +kernel) (pa_cons (pv 0) (pa_cons (pe_bltn (v := .ty "bool") (by rfl) B.bool (by decide +kernel) rfl) pa_nil)))) (pe_one (pe_chain op_le op_le (pv 1) (pv 0) (pv 2))))))), ?_⟩
  rintro zs r ⟨d, lo, hi, rfl, rfl⟩
  refine .inl (r_ret (VD.toN ?_ rfl))
  cases d with
  | int i => exact VE.eq (v_and (v_isi (v_var rfl) kit_int) fun _ => v_and (v_not (v_isi (v_var rfl) kit_bool)) fun _ => v_chain (v_var rfl) (v_var rfl) fun _ => v_var rfl) (by rw [isI_int_int, isI_bool_int]; rfl)
  | bool b => exact VE.eq (v_and (c := false) (v_isi (v_var rfl) kit_int) fun _ => VE.eq (v_and (c := false) (v_not (v_isi (v_var rfl) kit_bool)) fun h => by rw [isI_bool_bool] at h; cases h) (by rw [isI_bool_bool]; rfl)) (by rw [Bool.and_false]; rfl)
  | none => exact VE.eq (v_and (c := false) (v_isi (v_var rfl) kit_int) fun h => by rw [isI_int_none] at h; cases h) (by rw [Bool.and_false]; rfl)
  | str x => exact VE.eq (v_and (c := false) (v_isi (v_var rfl) kit_int) fun h => by rw [isI_int_str] at h; cases h) (by rw [Bool.and_false]; rfl)
  | list x => exact VE.eq (v_and (c := false) (v_isi (v_var rfl) kit_int) fun h => by rw [isI_int_list] at h; cases h) (by rw [Bool.and_false]; rfl)
  | tuple x => exact VE.eq (v_and (c := false) (v_isi (v_var rfl) kit_int) fun h => by rw [isI_int_tuple] at h; cases h) (by rw [Bool.and_false]; rfl)
  | dict x => exact VE.eq (v_and (c := false) (v_isi (v_var rfl) kit_int) fun h => by rw [isI_int_dict] at h; cases h) (by rw [Bool.and_false]; rfl)

/-! is_row -/
abbrev s_is_row : Stmt := topS 9
abbrev N_is_row : List Str := ["thing", "most", "one"]
theorem sc_is_row : FnScope N_is_row ["thing", "most"] (defScope s_is_row) := ⟨rfl, rfl, rfl, by decide +kernel, rfl, by decide +kernel, by decide +kernel⟩

def R_is_row : List Ent → PyData → Prop := fun zs r => ∃ (d : PyData) (hi : Int), zs = [.d d, .d (.int hi)] ∧ r = .bool (isRow d hi)
theorem c_is_row (B : Blt mg) (C_is_number : Cal P w K mg base CX0 1 "is_number" ["thing", "least", "most"] (spR K R_is_number)) (D_ : Dfn K mg "is_row" s_is_row ["thing", "most"]) : Cal P w K mg base CX0 2 "is_row" ["thing", "most"] (spR K R_is_row) := by
  refine cal_R D_ sc_is_row (fun zs r h => by obtain ⟨d, hi, rfl, _⟩ := h; rfl) fun f cdv A outer s H E hr => ⟨_, (pss_cons (ps_if (PW.pt (pw_or (pt_not (pt_val (pe_callB (call_isiK' K) (by rfl) B.isinstance (by decide +kernel) (pa_cons (pv 0) (pa_cons (pe_bltn (v := .ty "list") (by rfl) B.list (by decide +kernel) rfl) pa_nil))))) (pw_or1 (pt_not (pt_chain op_le op_le pe_int (pe_callB (call_lenK K) (by rfl) B.len (by decide +kernel) (pa_cons (pv 0) pa_nil)) (pe_most rfl B.most))))))
    (pss_one (ps_ret pe_bl))
    pss_nil)
    (pss_one (ps_ret (pe_callB (cr_allK K rfl) (by rfl) B.all (by decide +kernel) (pa_cons (pe_lc (own := [("one", 2)]) (g := gName 2) (tt := tYes) rfl sc_is_row.nd (pi_listK K (pv 0)) (blkOk_by (N := N_is_row) (sc := defScope s_is_row) (by decide +kernel)) (fun _ _ _ _ _ => pg_name (i := 2) sc_is_row.nd rfl (Or.inl rfl)) (fun _ _ _ _ _ => pts_nil) (fun _ _ _ _ _ => (pe_calK K P w mg base C_is_number (hr.mono (by decide)) (by rfl) (pa_cons (pv 2) (pa_cons pe_int (pa_cons (pv 1) pa_nil)))))) pa_nil))))), ?_⟩
  rintro zs r ⟨d, hi, rfl, rfl⟩
  refine .inl ?_
  cases hL : isI "list" d with
  | false =>
    rw [isRow_no hL]
    exact r_seqR (r_if (b := true) (VT.eq (t_or (c := false) (t_not (t_B (v_isi (v_var rfl) kit_list))) fun q => by rw [hL] at q; cases q) (by rw [hL]; rfl)) (fun _ => r_ret (VD.toN v_bl rfl)) fun q => nomatch q)
  | true =>
    obtain ⟨ds, rfl⟩ := isI_list_inv hL
    by_cases hl : 1 ≤ ds.length ∧ ds.length ≤ 60
    · refine r_seq (ρ' := startR N_is_row [.d (.list ds), .d (.int hi)]) (r_if (b := false) (VT.eq (t_or (t_not (t_B (v_isi (v_var rfl) kit_list))) fun _ => t_not (t_test (v_chain v_int (v_lenL (v_var rfl)) fun _ => v_int))) ?_) (fun q => nomatch q) fun _ => r_next) ?_
      · rw [isI_list_list, decide_eq_true (by omega), decide_eq_true (by omega)]; rfl
      · refine r_ret (VD.toN (VE.eq (v_all (bs := ds.map fun x => isNum x 0 hi) (VN.toD (VN.eq (n_lcD (fun _ => true) (fun x => .bool (isNum x 0 hi)) (v_var rfl) (by omega) (by decide) (fun _ _ => t_yes) fun x hx _ => n_call (a_cons (v_var rfl) (a_cons v_int (a_cons (v_var rfl) a_nil))) ⟨x, 0, hi, rfl, rfl⟩) ?_))) ?_) rfl)
        · rw [accs_yes]; show _ = PyData.list _; rw [List.map_map]; rfl
        · rw [isRow_eq, decide_eq_true hl]; simp [List.all_map, Function.comp_def]
    · rw [show isRow (.list ds) hi = false by rw [isRow_eq, decide_eq_false hl]; rfl]
      refine r_seqR (r_if (b := true) (VT.eq (t_or (t_not (t_B (v_isi (v_var rfl) kit_list))) fun _ => t_not (t_test (v_chain v_int (v_lenL (v_var rfl)) fun _ => v_int))) ?_) (fun _ => r_ret (VD.toN v_bl rfl)) fun q => nomatch q)
      rw [isI_list_list]
      by_cases h1 : 1 ≤ ds.length
      · rw [decide_eq_false (show ¬ ((ds.length : Int) ≤ 60) by omega), Bool.and_false]; rfl
      · rw [decide_eq_false (show ¬ ((1 : Int) ≤ (ds.length : Int)) by omega)]; rfl

/-! is_cloth -/
abbrev s_is_cloth : Stmt := topS 10
abbrev N_is_cloth : List Str := ["thing", "row"]
theorem sc_is_cloth : FnScope N_is_cloth ["thing"] (defScope s_is_cloth) := ⟨rfl, rfl, rfl, by decide +kernel, rfl, by decide +kernel, by decide +kernel⟩

def R_is_cloth : List Ent → PyData → Prop := fun zs r => ∃ (d : PyData), zs = [.d d] ∧ r = .bool (isCloth d)
theorem c_is_cloth (B : Blt mg) (C_is_row : Cal P w K mg base CX0 2 "is_row" ["thing", "most"] (spR K R_is_row)) (D_ : Dfn K mg "is_cloth" s_is_cloth ["thing"]) : Cal P w K mg base CX0 3 "is_cloth" ["thing"] (spR K R_is_cloth) := by
  refine cal_R D_ sc_is_cloth (fun zs r h => by obtain ⟨d, rfl, _⟩ := h; rfl) fun f cdv A outer s H E hr => ⟨_, (pss_cons (ps_if (PW.pt (pw_or (pt_not (pt_val (pe_callB (call_isiK' K) (by rfl) B.isinstance (by decide +kernel) (pa_cons (pv 0) (pa_cons (pe_bltn (v := .ty "list") (by rfl) B.list (by decide +kernel) rfl) pa_nil))))) (pw_or1 (pt_not (pt_chain op_le op_le pe_int (pe_callB (call_lenK K) (by rfl) B.len (by decide +kernel) (pa_cons (pv 0) pa_nil)) (pe_most rfl B.most))))))
    (pss_one (ps_ret pe_bl))
    pss_nil)
    (pss_one (ps_ret (pe_and (pe_callB (cr_allK K rfl) (by rfl) B.all (by decide +kernel) (pa_cons (pe_lc (own := [("row", 1)]) (g := gName 1) (tt := tYes) rfl sc_is_cloth.nd (pi_listK K (pv 0)) (blkOk_by (N := N_is_cloth) (sc := defScope s_is_cloth) (by decide +kernel)) (fun _ _ _ _ _ => pg_name (i := 1) sc_is_cloth.nd rfl (Or.inl rfl)) (fun _ _ _ _ _ => pts_nil) (fun _ _ _ _ _ => (pe_calK K P w mg base C_is_row (hr.mono (by decide)) (by rfl) (pa_cons (pv 1) (pa_cons pe_int pa_nil))))) pa_nil)) (pe_one (pe_callB (cr_allK K rfl) (by rfl) B.all (by decide +kernel) (pa_cons (pe_lc (own := [("row", 1)]) (g := gName 1) (tt := tYes) rfl sc_is_cloth.nd (pi_listK K (pv 0)) (blkOk_by (N := N_is_cloth) (sc := defScope s_is_cloth) (by decide +kernel)) (fun _ _ _ _ _ => pg_name (i := 1) sc_is_cloth.nd rfl (Or.inl rfl)) (fun _ _ _ _ _ => pts_nil) (fun _ _ _ _ _ => (pe_cmpR (op_eqDK K hr.units) (pe_callB (call_lenK K) (by rfl) B.len (by decide +kernel) (pa_cons (pv 1) pa_nil)) (pe_callB (call_lenK K) (by rfl) B.len (by decide +kernel) (pa_cons (pe_ix (ix_seqK K) (pv 0) pe_int (fun _ _ => rfl)) pa_nil)) (nomark _)))) pa_nil))))))), ?_⟩
  rintro zs r ⟨d, rfl, rfl⟩
  refine .inl ?_
  cases hL : isI "list" d with
  | false =>
    rw [isCloth_no hL]
    exact r_seqR (r_if (b := true) (VT.eq (t_or (c := false) (t_not (t_B (v_isi (v_var rfl) kit_list))) fun q => by rw [hL] at q; cases q) (by rw [hL]; rfl)) (fun _ => r_ret (VD.toN v_bl rfl)) fun q => nomatch q)
  | true =>
    obtain ⟨ds, rfl⟩ := isI_list_inv hL
    by_cases hl : 1 ≤ ds.length ∧ ds.length ≤ 60
    · refine r_seq (ρ' := startR N_is_cloth [.d (.list ds)]) (r_if (b := false) (VT.eq (t_or (t_not (t_B (v_isi (v_var rfl) kit_list))) fun _ => t_not (t_test (v_chain v_int (v_lenL (v_var rfl)) fun _ => v_int))) ?_) (fun q => nomatch q) fun _ => r_next) ?_
      · rw [isI_list_list, decide_eq_true (by omega), decide_eq_true (by omega)]; rfl
      · refine r_ret (VD.toN (VE.eq (v_and (b := ds.all fun x => isRow x 1) (c := ds.all fun x => decide (lenD x = lenD (ds.headD .none))) ?_ fun hrow => ?_) ?_) rfl)
        · refine VE.eq (v_all (bs := ds.map fun x => isRow x 1) (VN.toD (VN.eq (n_lcD (fun _ => true) (fun x => .bool (isRow x 1)) (v_var rfl) (by omega) (by decide) (fun _ _ => t_yes) fun x hx _ => n_call (a_cons (v_var rfl) (a_cons v_int a_nil)) ⟨x, 1, rfl, rfl⟩) ?_))) ?_
          · rw [accs_yes]; show _ = PyData.list _; rw [List.map_map]; rfl
          · simp [List.all_map, Function.comp_def]
        · have hrows : ∀ x ∈ ds, isRow x 1 = true := by simpa using hrow
          obtain ⟨d0, dr, rfl⟩ : ∃ d0 dr, ds = d0 :: dr := by
            cases ds with
            | nil => simp at hl
            | cons a b => exact ⟨a, b, rfl⟩
          obtain ⟨e0, rfl, _⟩ := isRow_list (hrows d0 List.mem_cons_self)
          refine VE.eq (v_all (bs := (PyData.list e0 :: dr).map fun x => decide (lenD x = e0.length)) (VN.toD (VN.eq (n_lcD (fun _ => true) (fun x => .bool (decide (lenD x = e0.length))) (v_var rfl) (by omega) (by decide) (fun _ _ => t_yes) fun x hx _ => ?_) ?_))) ?_
          · obtain ⟨e1, rfl, _⟩ := isRow_list (hrows x hx)
            refine VD.toN (VE.eq (v_eqI (v_lenL (v_var rfl)) (v_lenL (v_ixL (v_var rfl) v_int (atI_nat (j := 0) rfl)))) ?_) rfl
            show Ent.d (.bool (decide ((e1.length : Int) = (e0.length : Int)))) = Ent.d (.bool (decide (e1.length = e0.length)))
            rw [decide_eq_decide.mpr (Int.ofNat_inj)]
          · rw [accs_yes]; show _ = PyData.list _; rw [List.map_map]; rfl
          · rw [List.all_map]; rfl
        · rw [isCloth_eq, decide_eq_true hl]; rfl
    · rw [show isCloth (.list ds) = false by rw [isCloth_eq, decide_eq_false hl]; rfl]
      refine r_seqR (r_if (b := true) (VT.eq (t_or (t_not (t_B (v_isi (v_var rfl) kit_list))) fun _ => t_not (t_test (v_chain v_int (v_lenL (v_var rfl)) fun _ => v_int))) ?_) (fun _ => r_ret (VD.toN v_bl rfl)) fun q => nomatch q)
      rw [isI_list_list]
      by_cases h1 : 1 ≤ ds.length
      · rw [decide_eq_false (show ¬ ((ds.length : Int) ≤ 60) by omega), Bool.and_false]; rfl
      · rw [decide_eq_false (show ¬ ((1 : Int) ≤ (ds.length : Int)) by omega)]; rfl

/-! is_draft -/
abbrev s_is_draft : Stmt := topS 11
abbrev N_is_draft : List Str := ["thing"]
theorem sc_is_draft : FnScope N_is_draft ["thing"] (defScope s_is_draft) := ⟨rfl, rfl, rfl, by decide +kernel, rfl, by decide +kernel, by decide +kernel⟩

def R_is_draft : List Ent → PyData → Prop := fun zs r => ∃ (d : PyData), zs = [.d d] ∧ r = .bool (isDraft d)
theorem c_is_draft (B : Blt mg) (C_is_cloth : Cal P w K mg base CX0 3 "is_cloth" ["thing"] (spR K R_is_cloth)) (C_is_row : Cal P w K mg base CX0 2 "is_row" ["thing", "most"] (spR K R_is_row)) (D_ : Dfn K mg "is_draft" s_is_draft ["thing"]) : Cal P w K mg base CX0 4 "is_draft" ["thing"] (spR K R_is_draft) := by
  refine cal_R D_ sc_is_draft (fun zs r h => by obtain ⟨d, rfl, _⟩ := h; rfl) fun f cdv A outer s H E hr => ⟨_, (pss_cons (ps_if (PW.pt (pw_or (pt_not (pt_val (pe_callB (call_isiK' K) (by rfl) B.isinstance (by decide +kernel) (pa_cons (pv 0) (pa_cons (pe_bltn (v := .ty "tuple") (by rfl) B.tuple (by decide +kernel) rfl) pa_nil))))) (pw_or (pt_cmpR (op_neDK K hr.units) (pe_callB (call_lenK K) (by rfl) B.len (by decide +kernel) (pa_cons (pv 0) pa_nil)) pe_int (nomark _)) (pw_or1 (pt_not (pt_val (pe_calK K P w mg base C_is_cloth (hr.mono (by decide)) (by rfl) (pa_cons (pe_ix (ix_seqK K) (pv 0) pe_int (fun _ _ => rfl)) pa_nil))))))))
    (pss_one (ps_ret pe_bl))
    pss_nil)
    (pss_one (ps_ret (pe_and (pe_calK K P w mg base C_is_row (hr.mono (by decide)) (by rfl) (pa_cons (pe_ix (ix_seqK K) (pv 0) pe_int (fun _ _ => rfl)) (pa_cons (pe_op op_sub (pe_callB (call_lenK K) (by rfl) B.len (by decide +kernel) (pa_cons (pe_ix (ix_seqK K) (pv 0) pe_int (fun _ _ => rfl)) pa_nil)) pe_int) pa_nil))) (pe_one (pe_calK K P w mg base C_is_row (hr.mono (by decide)) (by rfl) (pa_cons (pe_ix (ix_seqK K) (pv 0) pe_int (fun _ _ => rfl)) (pa_cons (pe_op op_sub (pe_callB (call_lenK K) (by rfl) B.len (by decide +kernel) (pa_cons (pe_ix (ix_seqK K) (pe_ix (ix_seqK K) (pv 0) pe_int (fun _ _ => rfl)) pe_int (fun _ _ => rfl)) pa_nil)) pe_int) pa_nil)))))))), ?_⟩
  rintro zs r ⟨d, rfl, rfl⟩
  refine .inl ?_
  cases hL : isI "tuple" d with
  | false =>
    rw [isDraft_no hL]
    exact r_seqR (r_if (b := true) (VT.eq (t_or (c := false) (t_not (t_B (v_isi (v_var rfl) kit_tuple))) fun q => by rw [hL] at q; cases q) (by rw [hL]; rfl)) (fun _ => r_ret (VD.toN v_bl rfl)) fun q => nomatch q)
  | true =>
    obtain ⟨ds, rfl⟩ := isI_tuple_inv hL
    by_cases h3 : ds.length = 3
    · obtain ⟨a, b, c, rfl⟩ : ∃ a b c, ds = [a, b, c] := by
        match ds, h3 with
        | [a, b, c], _ => exact ⟨a, b, c, rfl⟩
      have test : ∀ {E : XK}, VT K (tOr (tNot (tB (tCB (rIsi K) (tCons (tVar 0) (tCons (tC (.ty "tuple")) tNil))))) (tOr (tTest (tOp (rNeD K) (tCB (rLen K) (tCons (tVar 0) tNil)) (tC (.int 3)))) (tNot (tB (tCall (spR K R_is_cloth) [] E (tCons (tOp (rIx K) (tVar 0) (tC (.int 1))) tNil)))))) (startR N_is_draft [.d (.tuple [a, b, c])]) (!isCloth b) := fun {E} =>
        VT.eq (t_or (t_not (t_B (v_isi (v_var rfl) kit_tuple))) fun _ => t_or (t_test (v_neI (v_lenT (v_var rfl)) v_int)) fun _ => t_not (t_B (VN.toD (n_call (a_cons (v_ixT (v_var rfl) v_int rfl) a_nil) ⟨b, rfl, rfl⟩)))) (by rw [isI_tuple_tuple]; rfl)
      cases hc : isCloth b with
      | false =>
        rw [show isDraft (.tuple [a, b, c]) = false by rw [isDraft_eq, hc]; rfl]
        exact r_seqR (r_if (b := true) (VT.eq test (by rw [hc]; rfl)) (fun _ => r_ret (VD.toN v_bl rfl)) fun q => nomatch q)
      | true =>
        refine r_seq (r_if (b := false) (VT.eq test (by rw [hc]; rfl)) (fun q => nomatch q) fun _ => r_next) ?_
        obtain ⟨e0, dr, rfl⟩ := isCloth_cons hc
        refine r_ret (VD.toN (VE.eq (v_and (VN.toD (n_call (d := .bool (isRow a (((PyData.list e0 :: dr).length : Int) - 1))) (a_cons (v_ixT (v_var rfl) v_int rfl) (a_cons (v_sub (v_lenL (v_ixT (v_var rfl) v_int rfl)) v_int) a_nil)) ⟨a, _, rfl, rfl⟩)) fun _ => VN.toD (n_call (d := .bool (isRow c ((e0.length : Int) - 1))) (a_cons (v_ixT (v_var rfl) v_int rfl) (a_cons (v_sub (v_lenL (v_ixL (v_ixT (v_var rfl) v_int rfl) v_int (atI_nat (j := 0) rfl))) v_int) a_nil)) ⟨c, _, rfl, rfl⟩)) ?_) rfl)
        rw [isDraft_eq, hc]
        rfl
    · rw [isDraft_len h3]
      refine r_seqR (r_if (b := true) (VT.eq (t_or (t_not (t_B (v_isi (v_var rfl) kit_tuple))) fun _ => t_or (c := false) (t_test (v_neI (v_lenT (v_var rfl)) v_int)) fun q => ?_) ?_) (fun _ => r_ret (VD.toN v_bl rfl)) fun q => nomatch q)
      · rw [decide_eq_false (by omega)] at q; cases q
      · rw [decide_eq_false (by omega)]; simp

/-! need_cloth -/
abbrev s_need_cloth : Stmt := topS 12
abbrev N_need_cloth : List Str := ["thing"]
theorem sc_need_cloth : FnScope N_need_cloth ["thing"] (defScope s_need_cloth) := ⟨rfl, rfl, rfl, by decide +kernel, rfl, by decide +kernel, by decide +kernel⟩

def R_need_cloth : List Ent → PyData → Prop := fun zs r => ∃ (d : PyData), zs = [.d d] ∧ isCloth d = true ∧ r = .none
theorem c_need_cloth (B : Blt mg) {aL aC aD aF aN : Addr} (XC_ : FitX K mg "NoCloth" "NoDraft" "NoFit" "NoNote" aL aC aD aF aN) (XD_ : FitX K mg "NoDraft" "NoCloth" "NoFit" "NoNote" aL aD aC aF aN) (XF_ : FitX K mg "NoFit" "NoCloth" "NoDraft" "NoNote" aL aF aC aD aN) (C_is_cloth : Cal P w K mg base CX0 3 "is_cloth" ["thing"] (spR K R_is_cloth)) (D_ : Dfn K mg "need_cloth" s_need_cloth ["thing"]) : Cal P w K mg base (L2N.CX P w) 4 "need_cloth" ["thing"] (spX K R_need_cloth (noC 0 aC)) := by
  refine cal_spX D_ sc_need_cloth (fun vs H Q E h => ?_) (fun f cdv A outer s H vs Q E hr h => ⟨_, (pss_one (ps_if (pt_not (pt_val (pe_calK K P w mg base C_is_cloth (hr.mono (by decide)) (by rfl) (pa_cons (pv 0) pa_nil))))
    (pss_one (L2N.ps_raise rfl (L2N.takes_of rfl rfl rfl rfl) (L2N.pmk_own PySem.F.excBase_ValueError XC_.ex XC_.g XC_.kp (raises_own XC_.sb XC_.ty) rfl)))
    pss_nil)), ?_⟩)
  · obtain ⟨zs, r1, ⟨r, ⟨d, rfl, _⟩, _⟩ | ⟨C, ⟨d, rest, rfl, hl, _⟩, _⟩⟩ := h
    · exact r1.len
    · rw [r1.len, List.length_cons, hl]; rfl
  · obtain ⟨zs, r1, ⟨r, ⟨d, rfl, hd, rfl⟩, k⟩ | ⟨C, ⟨d, rest, rfl, hl, hd, rfl⟩, k⟩⟩ := h
    · exact s_ifF (t_not (t_B (VN.toD (n_call (d := .bool true) (a_cons (v_var rfl) a_nil) ⟨d, rfl, by rw [hd]⟩)))) rfl (Env.start r1) fun H' e => k .non H' e ⟨[], .non, fun _ z => nomatch z⟩
    · cases rest with
      | cons a r => cases hl
      | nil => exact (t_not (t_B (VN.toD (n_call (d := .bool false) (a_cons (v_var rfl) a_nil) ⟨d, rfl, by rw [hd]⟩)))) _ _ (Env.start r1) _ fun H' e => k H' e

/-! need_draft -/
abbrev s_need_draft : Stmt := topS 13
abbrev N_need_draft : List Str := ["thing"]
theorem sc_need_draft : FnScope N_need_draft ["thing"] (defScope s_need_draft) := ⟨rfl, rfl, rfl, by decide +kernel, rfl, by decide +kernel, by decide +kernel⟩

def R_need_draft : List Ent → PyData → Prop := fun zs r => ∃ (d : PyData), zs = [.d d] ∧ isDraft d = true ∧ r = .none
theorem c_need_draft (B : Blt mg) {aL aC aD aF aN : Addr} (XC_ : FitX K mg "NoCloth" "NoDraft" "NoFit" "NoNote" aL aC aD aF aN) (XD_ : FitX K mg "NoDraft" "NoCloth" "NoFit" "NoNote" aL aD aC aF aN) (XF_ : FitX K mg "NoFit" "NoCloth" "NoDraft" "NoNote" aL aF aC aD aN) (C_is_draft : Cal P w K mg base CX0 4 "is_draft" ["thing"] (spR K R_is_draft)) (D_ : Dfn K mg "need_draft" s_need_draft ["thing"]) : Cal P w K mg base (L2N.CX P w) 5 "need_draft" ["thing"] (spX K R_need_draft (noD 0 aD)) := by
  refine cal_spX D_ sc_need_draft (fun vs H Q E h => ?_) (fun f cdv A outer s H vs Q E hr h => ⟨_, (pss_one (ps_if (pt_not (pt_val (pe_calK K P w mg base C_is_draft (hr.mono (by decide)) (by rfl) (pa_cons (pv 0) pa_nil))))
    (pss_one (L2N.ps_raise rfl (L2N.takes_of rfl rfl rfl rfl) (L2N.pmk_own PySem.F.excBase_ValueError XD_.ex XD_.g XD_.kp (raises_own XD_.sb XD_.ty) rfl)))
    pss_nil)), ?_⟩)
  · obtain ⟨zs, r1, ⟨r, ⟨d, rfl, _⟩, _⟩ | ⟨C, ⟨d, rest, rfl, hl, _⟩, _⟩⟩ := h
    · exact r1.len
    · rw [r1.len, List.length_cons, hl]; rfl
  · obtain ⟨zs, r1, ⟨r, ⟨d, rfl, hd, rfl⟩, k⟩ | ⟨C, ⟨d, rest, rfl, hl, hd, rfl⟩, k⟩⟩ := h
    · exact s_ifF (t_not (t_B (VN.toD (n_call (d := .bool true) (a_cons (v_var rfl) a_nil) ⟨d, rfl, by rw [hd]⟩)))) rfl (Env.start r1) fun H' e => k .non H' e ⟨[], .non, fun _ z => nomatch z⟩
    · cases rest with
      | cons a r => cases hl
      | nil => exact (t_not (t_B (VN.toD (n_call (d := .bool false) (a_cons (v_var rfl) a_nil) ⟨d, rfl, by rw [hd]⟩)))) _ _ (Env.start r1) _ fun H' e => k H' e

/-! warp_of -/
abbrev s_warp_of : Stmt := topS 14
abbrev N_warp_of : List Str := ["cloth", "at", "row"]
theorem sc_warp_of : FnScope N_warp_of ["cloth", "at"] (defScope s_warp_of) := ⟨rfl, rfl, rfl, by decide +kernel, rfl, by decide +kernel, by decide +kernel⟩

def R_warp_of : List Ent → PyData → Prop := fun zs r => ∃ (c : List (List Int)) (k : Nat), zs = [.d (enc c), .d (.int (k : Int))] ∧ (∀ row ∈ c, k < row.length) ∧ c.length ≤ 60 ∧ r = enc (warpOf c k)
theorem c_warp_of (B : Blt mg) (D_ : Dfn K mg "warp_of" s_warp_of ["cloth", "at"]) : Cal P w K mg base CX0 1 "warp_of" ["cloth", "at"] (spR K R_warp_of) := by
  refine cal_R D_ sc_warp_of (fun zs r h => by obtain ⟨c, k, rfl, _⟩ := h; rfl) fun f cdv A outer s H E hr => ⟨_, (pss_one (ps_ret (pe_lc (own := [("row", 2)]) (g := gName 2) (tt := tYes) rfl sc_warp_of.nd (pi_listK K (pv 0)) (blkOk_by (N := N_warp_of) (sc := defScope s_warp_of) (by decide +kernel)) (fun _ _ _ _ _ => pg_name (i := 2) sc_warp_of.nd rfl (Or.inl rfl)) (fun _ _ _ _ _ => pts_nil) (fun _ _ _ _ _ => (pe_ix (ix_seqK K) (pv 2) (pv 1) (fun _ _ => rfl)))))), ?_⟩
  rintro zs r ⟨c, k, rfl, h1, h2, rfl⟩
  refine .inl (r_ret (n_lc (fun row : List Int => row.getD k default) (v_var rfl) (by omega) (by decide) fun row hrow => ?_))
  have := h1 row hrow
  exact VD.toN (VE.eq (v_ix (xs := row) (v_var rfl) (v_var rfl) (by omega) (by omega)) (by rw [Int.toNat_natCast])) rfl

/-! first_places -/
abbrev s_first_places : Stmt := topS 15
abbrev N_first_places : List Str := ["rows", "at"]
theorem sc_first_places : FnScope N_first_places ["rows"] (defScope s_first_places) := ⟨rfl, rfl, rfl, by decide +kernel, rfl, by decide +kernel, by decide +kernel⟩

def R_first_places : List Ent → PyData → Prop := fun zs r => ∃ (c : Cl), zs = [.d (enc c)] ∧ c.length ≤ 1000 ∧ r = enc (firstPlaces c)
theorem c_first_places (B : Blt mg) (D_ : Dfn K mg "first_places" s_first_places ["rows"]) : Cal P w K mg base CX0 1 "first_places" ["rows"] (spR K R_first_places) := by
  refine cal_R D_ sc_first_places (fun zs r h => by obtain ⟨c, rfl, _⟩ := h; rfl) fun f cdv A outer s H E hr => ⟨_, (pss_one (ps_ret (pe_lc (own := [("at", 1)]) (g := gName 1) rfl sc_first_places.nd (pi_range1 (by rfl) B.range (pa_cons (pe_callB (call_lenK K) (by rfl) B.len (by decide +kernel) (pa_cons (pv 0) pa_nil)) pa_nil)) (blkOk_by (N := N_first_places) (sc := defScope s_first_places) (by decide +kernel)) (fun _ _ _ _ _ => pg_name (i := 1) sc_first_places.nd rfl (Or.inl rfl)) (fun _ _ _ _ _ => (pts_one (pt_cmpR (op_niDK K (hu65 hr)) (pe_ix (ix_seqK K) (pv 0) (pv 1) (fun _ _ => rfl)) (pe_slice (sl_listK K) (pv 0) po_none (po_some (pv 1))) (by rfl)))) (fun _ _ _ _ _ => (pv 1))))), ?_⟩
  rintro zs r ⟨c, rfl, hz, rfl⟩
  refine .inl (r_ret (n_rgIf (m := (c.length : Int)) (firstK c) (fun k : Nat => (k : Int)) (v_len (xs := c) (v_var rfl)) (by omega) (by omega) (by decide) (fun k hk => ?_) fun k hk _ => VD.toN (v_var rfl) rfl))
  refine t_test (VE.eq (v_ni (α := List Int) (x := c.getD k default) (xs := c.take k) (VE.eq (v_ix (xs := c) (v_var rfl) (v_var rfl) (by omega) (by omega)) (by rw [Int.toNat_natCast])) (v_slTo k (xs := c) (v_var rfl) (v_var rfl) rfl)) (congrArg (fun b => Ent.d (PyData.bool (!b))) (decide_eq_decide.mpr Iff.rfl)))

/-! first_warps -/
abbrev s_first_warps : Stmt := topS 16
abbrev N_first_warps : List Str := ["cloth", "at"]
theorem sc_first_warps : FnScope N_first_warps ["cloth"] (defScope s_first_warps) := ⟨rfl, rfl, rfl, by decide +kernel, rfl, by decide +kernel, by decide +kernel⟩

def R_first_warps : List Ent → PyData → Prop := fun zs r => ∃ (c : Cl), zs = [.d (enc c)] ∧ Good c ∧ r = enc (firstPlaces (columns c))
theorem c_first_warps (B : Blt mg) {aL aC aD aF aN : Addr} (XC_ : FitX K mg "NoCloth" "NoDraft" "NoFit" "NoNote" aL aC aD aF aN) (XD_ : FitX K mg "NoDraft" "NoCloth" "NoFit" "NoNote" aL aD aC aF aN) (XF_ : FitX K mg "NoFit" "NoCloth" "NoDraft" "NoNote" aL aF aC aD aN) (C_need_cloth : Cal P w K mg base (L2N.CX P w) 4 "need_cloth" ["thing"] (spX K R_need_cloth (noC 0 aC))) (C_first_places : Cal P w K mg base CX0 1 "first_places" ["rows"] (spR K R_first_places)) (C_warp_of : Cal P w K mg base CX0 1 "warp_of" ["cloth", "at"] (spR K R_warp_of)) (D_ : Dfn K mg "first_warps" s_first_warps ["cloth"]) : Cal P w K mg base (L2N.CX P w) 5 "first_warps" ["cloth"] (spX K R_first_warps (noC 0 aC)) := by
  refine cal_RX D_ sc_first_warps (fun zs r h => by obtain ⟨c, rfl, _⟩ := h; rfl) (fun zs C h => by obtain ⟨d, rest, rfl, hl, _⟩ := h; rw [List.length_cons, hl]; rfl) fun f cdv A outer s H E hr => ⟨_, (pss_cons (ps_expr (pe_calX P w mg base C_need_cloth (hr.mono (by decide)) (L2N.takes_of rfl rfl rfl rfl) (by rfl) (pa_cons (pv 0) pa_nil)))
    (pss_one (ps_ret (pe_calK K P w mg base C_first_places (hr.mono (by decide)) (by rfl) (pa_cons (pe_lc (own := [("at", 1)]) (g := gName 1) (tt := tYes) rfl sc_first_warps.nd (pi_range1 (by rfl) B.range (pa_cons (pe_callB (call_lenK K) (by rfl) B.len (by decide +kernel) (pa_cons (pe_ix (ix_seqK K) (pv 0) pe_int (fun _ _ => rfl)) pa_nil)) pa_nil)) (blkOk_by (N := N_first_warps) (sc := defScope s_first_warps) (by decide +kernel)) (fun _ _ _ _ _ => pg_name (i := 1) sc_first_warps.nd rfl (Or.inl rfl)) (fun _ _ _ _ _ => pts_nil) (fun _ _ _ _ _ => (pe_calK K P w mg base C_warp_of (hr.mono (by decide)) (by rfl) (pa_cons (pv 0) (pa_cons (pv 1) pa_nil))))) pa_nil))))), ?good, ?bad⟩
  case bad =>
    intro zs C h D σ n k
    obtain ⟨d, rest, rfl, hl, hd, rfl⟩ := h
    exact q_badX (zs := [.d d]) (a_cons (v_var rfl) a_nil) n ⟨d, [], rfl, rfl, hd, rfl⟩ k
  rintro zs r ⟨c, rfl, g, rfl⟩
  have g1 := g.len
  have g2 := g.wide
  refine .inl (r_seq (r_drop (VN.toD (v_callXL (a_cons (v_var rfl) a_nil) ⟨_, rfl, g.is, rfl⟩))) (r_ret (n_call (a_cons (VN.toD (n_rg (m := ((c.getD 0 default).length : Int)) (fun k => warpOf c k) (v_len (v_ix (xs := c) (v_var rfl) v_int (by omega) (by omega))) (by omega) (by omega) (by decide) fun k hk => ?_)) a_nil) ⟨columns c, rfl, by rw [columns_len]; omega, rfl⟩)))
  exact n_call (a_cons (v_var rfl) (a_cons (v_var rfl) a_nil)) ⟨c, k, rfl, (fun row hr => by rw [g.rows row hr]; omega), by omega, rfl⟩

/-! first_wefts -/
abbrev s_first_wefts : Stmt := topS 17
abbrev N_first_wefts : List Str := ["cloth"]
theorem sc_first_wefts : FnScope N_first_wefts ["cloth"] (defScope s_first_wefts) := ⟨rfl, rfl, rfl, by decide +kernel, rfl, by decide +kernel, by decide +kernel⟩

def R_first_wefts : List Ent → PyData → Prop := fun zs r => ∃ (c : Cl), zs = [.d (enc c)] ∧ Good c ∧ r = enc (firstPlaces c)
theorem c_first_wefts (B : Blt mg) {aL aC aD aF aN : Addr} (XC_ : FitX K mg "NoCloth" "NoDraft" "NoFit" "NoNote" aL aC aD aF aN) (XD_ : FitX K mg "NoDraft" "NoCloth" "NoFit" "NoNote" aL aD aC aF aN) (XF_ : FitX K mg "NoFit" "NoCloth" "NoDraft" "NoNote" aL aF aC aD aN) (C_need_cloth : Cal P w K mg base (L2N.CX P w) 4 "need_cloth" ["thing"] (spX K R_need_cloth (noC 0 aC))) (C_first_places : Cal P w K mg base CX0 1 "first_places" ["rows"] (spR K R_first_places)) (D_ : Dfn K mg "first_wefts" s_first_wefts ["cloth"]) : Cal P w K mg base (L2N.CX P w) 5 "first_wefts" ["cloth"] (spX K R_first_wefts (noC 0 aC)) := by
  refine cal_RX D_ sc_first_wefts (fun zs r h => by obtain ⟨c, rfl, _⟩ := h; rfl) (fun zs C h => by obtain ⟨d, rest, rfl, hl, _⟩ := h; rw [List.length_cons, hl]; rfl) fun f cdv A outer s H E hr => ⟨_, (pss_cons (ps_expr (pe_calX P w mg base C_need_cloth (hr.mono (by decide)) (L2N.takes_of rfl rfl rfl rfl) (by rfl) (pa_cons (pv 0) pa_nil)))
    (pss_one (ps_ret (pe_calK K P w mg base C_first_places (hr.mono (by decide)) (by rfl) (pa_cons (pv 0) pa_nil))))), ?good, ?bad⟩
  case bad =>
    intro zs C h D σ n k
    obtain ⟨d, rest, rfl, hl, hd, rfl⟩ := h
    exact q_badX (zs := [.d d]) (a_cons (v_var rfl) a_nil) n ⟨d, [], rfl, rfl, hd, rfl⟩ k
  rintro zs r ⟨c, rfl, g, rfl⟩
  have g1 := g.len
  exact .inl (r_seq (r_drop (VN.toD (v_callXL (a_cons (v_var rfl) a_nil) ⟨_, rfl, g.is, rfl⟩))) (r_ret (n_call (a_cons (v_var rfl) a_nil) ⟨c, rfl, by omega, rfl⟩)))

/-! place_between -/
abbrev s_place_between : Stmt := topS 18
abbrev N_place_between : List Str := ["one", "other", "at"]
theorem sc_place_between : FnScope N_place_between ["one", "other"] (defScope s_place_between) := ⟨rfl, rfl, rfl, by decide +kernel, rfl, by decide +kernel, by decide +kernel⟩

def R_place_between : List Ent → PyData → Prop := fun zs r => ∃ (a b : List Int), zs = [.d (enc a), .d (enc b)] ∧ a.length ≤ 1000 ∧ a.length = b.length ∧ r = encO (placeBetween a b)
theorem c_place_between (B : Blt mg) (D_ : Dfn K mg "place_between" s_place_between ["one", "other"]) : Cal P w K mg base CX0 1 "place_between" ["one", "other"] (spR K R_place_between) := by
  refine cal_R D_ sc_place_between (fun zs r h => by obtain ⟨a, b, rfl, _⟩ := h; rfl) fun f cdv A outer s H E hr => ⟨_, (pss_cons (ps_for PassesOwn.never rfl (pi_range1 (by rfl) B.range (pa_cons (pe_callB (call_lenK K) (by rfl) B.len (by decide +kernel) (pa_cons (pv 0) pa_nil)) pa_nil)) (pg_name (i := 2) sc_place_between.nd rfl (.inl rfl))
    (pss_one (ps_if (pt_cmpR (op_neDK K hr.units) (pe_ix (ix_seqK K) (pv 0) (pv 2) (fun _ _ => rfl)) (pe_ix (ix_seqK K) (pv 1) (pv 2) (fun _ _ => rfl)) (nomark _))
    (pss_one (ps_ret (pv 2)))
    pss_nil)))
    (pss_one (ps_ret pe_non))), ?_⟩
  rintro zs r ⟨a, b, rfl, hz, hl, rfl⟩
  refine .inl (r_seqFirst (n := (a.length : Int).toNat) (r_forR1 (m := (a.length : Int)) (fun k => if a.getD k default = b.getD k default then none else some (.int (k : Int))) (v_len (xs := a) (v_var rfl)) (by omega) (by omega) ⟨rfl, fun i z h => h⟩ fun k hk => ?_) (fun hn => RD.eq (r_ret (VD.toN v_non rfl)) ?_) fun i hi d hn hd => ?_)
  · have test : VT K (tTest (tOp (rNeD K) (tOp (rIx K) (tVar 0) (tVar 2)) (tOp (rIx K) (tVar 1) (tVar 2)))) [some (.d (enc a)), some (.d (enc b)), some (.d (.int (k : Int)))] (!decide (a.getD k default = b.getD k default)) :=
      VT.eq (t_test (v_ne (α := Int) (v_ix (xs := a) (v_var rfl) (v_var rfl) (by omega) (by omega)) (v_ix (xs := b) (v_var rfl) (v_var rfl) (by omega) (by omega)))) (by rw [Int.toNat_natCast])
    by_cases h : a.getD k default = b.getD k default
    · rw [if_pos h]
      exact RD.weak (ρ2 := [some (.d (enc a)), some (.d (enc b)), none]) (ρ' := [some (.d (enc a)), some (.d (enc b)), some (.d (.int (k : Int)))]) ⟨rfl, fun i z h => by rcases i with _ | _ | _ | i <;> first | exact h | cases h⟩ (r_if (b := false) (VT.eq test (by rw [decide_eq_true h]; rfl)) (fun q => nomatch q) fun _ => r_next)
    · rw [if_neg h]
      exact r_if (b := true) (VT.eq test (by rw [decide_eq_false h]; rfl)) (fun _ => r_ret (VD.toN (v_var rfl) rfl)) fun q => nomatch q
  · rw [placeBetween_none fun k hk => ?_]
    · rfl
    · have := hn k (by omega)
      by_cases h : a.getD k default = b.getD k default
      · exact h
      · rw [if_neg h] at this; cases this
  · by_cases h : a.getD i default = b.getD i default
    · rw [if_pos h] at hd; cases hd
    · rw [if_neg h] at hd
      cases hd
      rw [placeBetween_some (i := i) (by omega) h fun j hj => ?_]
      · rfl
      · have := hn j hj
        by_cases h : a.getD j default = b.getD j default
        · exact h
        · rw [if_neg h] at this; cases this

/-! weft_between -/
abbrev s_weft_between : Stmt := topS 19
abbrev N_weft_between : List Str := ["cloth", "one", "other"]
theorem sc_weft_between : FnScope N_weft_between ["cloth", "one", "other"] (defScope s_weft_between) := ⟨rfl, rfl, rfl, by decide +kernel, rfl, by decide +kernel, by decide +kernel⟩

def R_weft_between : List Ent → PyData → Prop := fun zs r => ∃ (c : Cl) (i j : Nat), zs = [.d (enc c), .d (.int (i : Int)), .d (.int (j : Int))] ∧ Good c ∧ i < (c.getD 0 default).length ∧ j < (c.getD 0 default).length ∧ r = encO (placeBetween (warpOf c i) (warpOf c j))
theorem c_weft_between (B : Blt mg) {aL aC aD aF aN : Addr} (XC_ : FitX K mg "NoCloth" "NoDraft" "NoFit" "NoNote" aL aC aD aF aN) (XD_ : FitX K mg "NoDraft" "NoCloth" "NoFit" "NoNote" aL aD aC aF aN) (XF_ : FitX K mg "NoFit" "NoCloth" "NoDraft" "NoNote" aL aF aC aD aN) (C_need_cloth : Cal P w K mg base (L2N.CX P w) 4 "need_cloth" ["thing"] (spX K R_need_cloth (noC 0 aC))) (C_place_between : Cal P w K mg base CX0 1 "place_between" ["one", "other"] (spR K R_place_between)) (C_warp_of : Cal P w K mg base CX0 1 "warp_of" ["cloth", "at"] (spR K R_warp_of)) (D_ : Dfn K mg "weft_between" s_weft_between ["cloth", "one", "other"]) : Cal P w K mg base (L2N.CX P w) 5 "weft_between" ["cloth", "one", "other"] (spX K R_weft_between (noC 2 aC)) := by
  refine cal_RX D_ sc_weft_between (fun zs r h => by obtain ⟨c, i, j, rfl, _⟩ := h; rfl) (fun zs C h => by obtain ⟨d, rest, rfl, hl, _⟩ := h; rw [List.length_cons, hl]; rfl) fun f cdv A outer s H E hr => ⟨_, (pss_cons (ps_expr (pe_calX P w mg base C_need_cloth (hr.mono (by decide)) (L2N.takes_of rfl rfl rfl rfl) (by rfl) (pa_cons (pv 0) pa_nil)))
    (pss_one (ps_ret (pe_calK K P w mg base C_place_between (hr.mono (by decide)) (by rfl) (pa_cons (pe_calK K P w mg base C_warp_of (hr.mono (by decide)) (by rfl) (pa_cons (pv 0) (pa_cons (pv 1) pa_nil))) (pa_cons (pe_calK K P w mg base C_warp_of (hr.mono (by decide)) (by rfl) (pa_cons (pv 0) (pa_cons (pv 2) pa_nil))) pa_nil)))))), ?good, ?bad⟩
  case bad =>
    intro zs C h D σ n k
    obtain ⟨d, rest, rfl, hl, hd, rfl⟩ := h
    exact q_badX (zs := [.d d]) (a_cons (v_var rfl) a_nil) n ⟨d, [], rfl, rfl, hd, rfl⟩ k
  rintro zs r ⟨c, i, j, rfl, g, hi, hj, rfl⟩
  have g1 := g.len
  exact .inl (r_seq (r_drop (VN.toD (v_callXL (a_cons (v_var rfl) a_nil) ⟨_, rfl, g.is, rfl⟩))) (r_ret (n_call (a_cons (VN.toD (n_call (a_cons (v_var rfl) (a_cons (v_var rfl) a_nil)) ⟨c, i, rfl, (fun row hr => by rw [g.rows row hr]; omega), by omega, rfl⟩)) (a_cons (VN.toD (n_call (a_cons (v_var rfl) (a_cons (v_var rfl) a_nil)) ⟨c, j, rfl, (fun row hr => by rw [g.rows row hr]; omega), by omega, rfl⟩)) a_nil)) ⟨warpOf c i, warpOf c j, rfl, by unfold warpOf; rw [List.length_map]; omega, by unfold warpOf; rw [List.length_map, List.length_map], rfl⟩)))

/-! warp_between -/
abbrev s_warp_between : Stmt := topS 20
abbrev N_warp_between : List Str := ["cloth", "one", "other"]
theorem sc_warp_between : FnScope N_warp_between ["cloth", "one", "other"] (defScope s_warp_between) := ⟨rfl, rfl, rfl, by decide +kernel, rfl, by decide +kernel, by decide +kernel⟩

def R_warp_between : List Ent → PyData → Prop := fun zs r => ∃ (c : Cl) (i j : Nat), zs = [.d (enc c), .d (.int (i : Int)), .d (.int (j : Int))] ∧ Good c ∧ i < c.length ∧ j < c.length ∧ r = encO (placeBetween (c.getD i default) (c.getD j default))
theorem c_warp_between (B : Blt mg) {aL aC aD aF aN : Addr} (XC_ : FitX K mg "NoCloth" "NoDraft" "NoFit" "NoNote" aL aC aD aF aN) (XD_ : FitX K mg "NoDraft" "NoCloth" "NoFit" "NoNote" aL aD aC aF aN) (XF_ : FitX K mg "NoFit" "NoCloth" "NoDraft" "NoNote" aL aF aC aD aN) (C_need_cloth : Cal P w K mg base (L2N.CX P w) 4 "need_cloth" ["thing"] (spX K R_need_cloth (noC 0 aC))) (C_place_between : Cal P w K mg base CX0 1 "place_between" ["one", "other"] (spR K R_place_between)) (D_ : Dfn K mg "warp_between" s_warp_between ["cloth", "one", "other"]) : Cal P w K mg base (L2N.CX P w) 5 "warp_between" ["cloth", "one", "other"] (spX K R_warp_between (noC 2 aC)) := by
  refine cal_RX D_ sc_warp_between (fun zs r h => by obtain ⟨c, i, j, rfl, _⟩ := h; rfl) (fun zs C h => by obtain ⟨d, rest, rfl, hl, _⟩ := h; rw [List.length_cons, hl]; rfl) fun f cdv A outer s H E hr => ⟨_, (pss_cons (ps_expr (pe_calX P w mg base C_need_cloth (hr.mono (by decide)) (L2N.takes_of rfl rfl rfl rfl) (by rfl) (pa_cons (pv 0) pa_nil)))
    (pss_one (ps_ret (pe_calK K P w mg base C_place_between (hr.mono (by decide)) (by rfl) (pa_cons (pe_ix (ix_seqK K) (pv 0) (pv 1) (fun _ _ => rfl)) (pa_cons (pe_ix (ix_seqK K) (pv 0) (pv 2) (fun _ _ => rfl)) pa_nil)))))), ?good, ?bad⟩
  case bad =>
    intro zs C h D σ n k
    obtain ⟨d, rest, rfl, hl, hd, rfl⟩ := h
    exact q_badX (zs := [.d d]) (a_cons (v_var rfl) a_nil) n ⟨d, [], rfl, rfl, hd, rfl⟩ k
  rintro zs r ⟨c, i, j, rfl, g, hi, hj, rfl⟩
  have g1 := g.len
  have h1 := g.rows _ (g.at_ hi)
  have h2 := g.rows _ (g.at_ hj)
  have h3 := g.wide
  exact .inl (r_seq (r_drop (VN.toD (v_callXL (a_cons (v_var rfl) a_nil) ⟨_, rfl, g.is, rfl⟩))) (r_ret (n_call (a_cons (VE.eq (v_ix (xs := c) (v_var rfl) (v_var rfl) (by omega) (by omega)) (by rw [Int.toNat_natCast])) (a_cons (VE.eq (v_ix (xs := c) (v_var rfl) (v_var rfl) (by omega) (by omega)) (by rw [Int.toNat_natCast])) a_nil)) ⟨c.getD i default, c.getD j default, rfl, by omega, by omega, rfl⟩)))

/-! weave -/
abbrev s_weave : Stmt := topS 22
abbrev N_weave : List Str := ["draft", "treadle", "shaft"]
theorem sc_weave : FnScope N_weave ["draft"] (defScope s_weave) := ⟨rfl, rfl, rfl, by decide +kernel, rfl, by decide +kernel, by decide +kernel⟩

def R_weave : List Ent → PyData → Prop := fun zs r => ∃ (d : Dr), zs = [.d (enc d)] ∧ GoodD d ∧ r = enc (woven d)
theorem c_weave (B : Blt mg) {aL aC aD aF aN : Addr} (XC_ : FitX K mg "NoCloth" "NoDraft" "NoFit" "NoNote" aL aC aD aF aN) (XD_ : FitX K mg "NoDraft" "NoCloth" "NoFit" "NoNote" aL aD aC aF aN) (XF_ : FitX K mg "NoFit" "NoCloth" "NoDraft" "NoNote" aL aF aC aD aN) (C_need_draft : Cal P w K mg base (L2N.CX P w) 5 "need_draft" ["thing"] (spX K R_need_draft (noD 0 aD))) (D_ : Dfn K mg "weave" s_weave ["draft"]) : Cal P w K mg base (L2N.CX P w) 6 "weave" ["draft"] (spX K R_weave (noD 0 aD)) := by
  refine cal_RX D_ sc_weave (fun zs r h => by obtain ⟨d, rfl, _⟩ := h; rfl) (fun zs C h => by obtain ⟨d, rest, rfl, hl, _⟩ := h; rw [List.length_cons, hl]; rfl) fun f cdv A outer s H E hr => ⟨_, (pss_cons (ps_expr (pe_calX P w mg base C_need_draft (hr.mono (by decide)) (L2N.takes_of rfl rfl rfl rfl) (by rfl) (pa_cons (pv 0) pa_nil)))
    (pss_one (ps_ret (pe_lc (own := [("treadle", 1)]) (g := gName 1) (tt := tYes) rfl sc_weave.nd (pi_listK K (pe_ix (ix_seqK K) (pv 0) pe_int (fun _ _ => rfl))) (blkOk_by (N := N_weave) (sc := defScope s_weave) (by decide +kernel)) (fun _ _ _ _ _ => pg_name (i := 1) sc_weave.nd rfl (Or.inr rfl)) (fun _ _ _ _ _ => pts_nil) (fun _ _ _ _ _ => (pe_lc (own := [("shaft", 2)]) (g := gName 2) (tt := tYes) rfl sc_weave.nd (pi_listK K (pe_ix (ix_seqK K) (pv 0) pe_int (fun _ _ => rfl))) (blkOk_by (N := N_weave) (sc := relS ({ kind := PySem.ScopeKind.function, names := [ (PySem.Str.ofString ".0", PySem.NameKind.local), (PySem.Str.ofString "treadle", PySem.NameKind.cell), (PySem.Str.ofString "draft", PySem.NameKind.free)], isGenerator := false, isCoroutine := false, more := [] : PySem.Scope }) (defScope s_weave)) (by decide +kernel)) (fun _ _ _ _ _ => pg_name (i := 2) sc_weave.nd rfl (Or.inl rfl)) (fun _ _ _ _ _ => pts_nil) (fun _ _ _ _ _ => (pe_ix (ix_seqK K) (pe_ix (ix_seqK K) (pe_ix (ix_seqK K) (pv 0) pe_int (fun _ _ => rfl)) (pv 2) (fun _ _ => rfl)) (pv 1) (fun _ _ => rfl))))))))), ?good, ?bad⟩
  case bad =>
    intro zs C h D σ n k
    obtain ⟨d, rest, rfl, hl, hd, rfl⟩ := h
    exact q_badX (zs := [.d d]) (a_cons (v_var rfl) a_nil) n ⟨d, [], rfl, rfl, hd, rfl⟩ k
  rintro zs r ⟨d, rfl, gd, rfl⟩
  have g1 := gd.th
  have g2 := gd.tr
  refine .inl (r_seq (r_drop (VN.toD (v_callXL (a_cons (v_var rfl) a_nil) ⟨_, rfl, gd.is, rfl⟩))) (r_ret ?_))
  refine VN.eq (n_lc (xs := d.tr) (fun t : Int => d.th.map fun s => (d.ti.getD s.toNat default).getD t.toNat default) (v_tr (v_var rfl)) (by omega) (by decide) fun t ht => ?_) rfl
  refine VN.eq (n_lc (xs := d.th) (fun s : Int => (d.ti.getD s.toNat default).getD t.toNat default) (v_th (v_var rfl)) (by omega) (by decide) fun s hs => ?_) rfl
  have gs := gd.sh s hs
  have gt := gd.tl t ht
  have hrow := gd.ti.rows _ (gd.ti.at_ (k := s.toNat) (by omega))
  exact VD.toN (v_ix (xs := d.ti.getD s.toNat default) (v_ix (xs := d.ti) (v_ti (v_var rfl)) (v_var rfl) (by omega) (by omega)) (v_var rfl) (by omega) (by omega)) rfl

/-! numbers_of -/
abbrev s_numbers_of : Stmt := topS 23
abbrev N_numbers_of : List Str := ["rows", "firsts", "heads", "at", "row"]
theorem sc_numbers_of : FnScope N_numbers_of ["rows", "firsts"] (defScope s_numbers_of) := ⟨rfl, rfl, rfl, by decide +kernel, rfl, by decide +kernel, by decide +kernel⟩

def R_numbers_of : List Ent → PyData → Prop := fun zs r => ∃ (c : Cl), zs = [.d (enc c), .d (enc (firstPlaces c))] ∧ c.length ≤ 1000 ∧ r = enc (numbersOf c)
theorem c_numbers_of (B : Blt mg) (D_ : Dfn K mg "numbers_of" s_numbers_of ["rows", "firsts"]) : Cal P w K mg base CX0 1 "numbers_of" ["rows", "firsts"] (spR K R_numbers_of) := by
  refine cal_R D_ sc_numbers_of (fun zs r h => by obtain ⟨c, rfl, _⟩ := h; rfl) fun f cdv A outer s H E hr => ⟨_, (pss_cons (ps_set (i := 2) sc_numbers_of.nd rfl (.inr rfl) (pe_lc (own := [("at", 3)]) (g := gName 3) (tt := tYes) rfl sc_numbers_of.nd (pi_listK K (pv 1)) (blkOk_by (N := N_numbers_of) (sc := defScope s_numbers_of) (by decide +kernel)) (fun _ _ _ _ _ => pg_name (i := 3) sc_numbers_of.nd rfl (Or.inl rfl)) (fun _ _ _ _ _ => pts_nil) (fun _ _ _ _ _ => (pe_ix (ix_seqK K) (pv 0) (pv 3) (fun _ _ => rfl)))))
    (pss_one (ps_ret (pe_lc (own := [("row", 4)]) (g := gName 4) (tt := tYes) rfl sc_numbers_of.nd (pi_listK K (pv 0)) (blkOk_by (N := N_numbers_of) (sc := defScope s_numbers_of) (by decide +kernel)) (fun _ _ _ _ _ => pg_name (i := 4) sc_numbers_of.nd rfl (Or.inl rfl)) (fun _ _ _ _ _ => pts_nil) (fun _ _ _ _ _ => (pe_bmK K PySem.F.plainAttrs_list PySem.F.slot_list_index PySem.F.type_list_index (mt_indexDK K (hu65 hr)) (pv 2) (pa_cons (pv 4) pa_nil))))))), ?_⟩
  rintro zs r ⟨c, rfl, hz, rfl⟩
  have hf := firstPlaces_len c
  refine .inl (r_seq (r_set (z := .d (enc (heads c))) (VE.eq (v_lc (xs := firstPlaces c) (fun k : Int => c.getD k.toNat default) (v_var rfl) (by omega) (by decide) fun k hk => ?_) (by rw [heads_eq]))) (r_ret (n_lc (xs := c) (fun row : List Int => ((idxD (heads c) row : Nat) : Int)) (v_var rfl) (by omega) (by decide) fun row hrow => ?_)))
  · have := mem_first hk
    exact s_ix (xs := c) (s_var rfl) (v_var rfl) this.1 this.2.1
  · exact VD.toN (v_index (xs := heads c) (v_var rfl) (v_var rfl) (mem_heads hrow)) rfl

/-! least_draft -/
abbrev s_least_draft : Stmt := topS 24
abbrev N_least_draft : List Str := ["cloth", "warps", "wefts", "threading", "ties", "at", "warp", "weft"]
theorem sc_least_draft : FnScope N_least_draft ["cloth"] (defScope s_least_draft) := ⟨rfl, rfl, rfl, by decide +kernel, rfl, by decide +kernel, by decide +kernel⟩

def R_least_draft : List Ent → PyData → Prop := fun zs r => ∃ (c : Cl), zs = [.d (enc c)] ∧ Good c ∧ r = enc (leastDraft c)
theorem c_least_draft (B : Blt mg) {aL aC aD aF aN : Addr} (XC_ : FitX K mg "NoCloth" "NoDraft" "NoFit" "NoNote" aL aC aD aF aN) (XD_ : FitX K mg "NoDraft" "NoCloth" "NoFit" "NoNote" aL aD aC aF aN) (XF_ : FitX K mg "NoFit" "NoCloth" "NoDraft" "NoNote" aL aF aC aD aN) (C_first_warps : Cal P w K mg base (L2N.CX P w) 5 "first_warps" ["cloth"] (spX K R_first_warps (noC 0 aC))) (C_first_wefts : Cal P w K mg base (L2N.CX P w) 5 "first_wefts" ["cloth"] (spX K R_first_wefts (noC 0 aC))) (C_numbers_of : Cal P w K mg base CX0 1 "numbers_of" ["rows", "firsts"] (spR K R_numbers_of)) (C_warp_of : Cal P w K mg base CX0 1 "warp_of" ["cloth", "at"] (spR K R_warp_of)) (D_ : Dfn K mg "least_draft" s_least_draft ["cloth"]) : Cal P w K mg base (L2N.CX P w) 6 "least_draft" ["cloth"] (spX K R_least_draft (noC 0 aC)) := by
  refine cal_RX D_ sc_least_draft (fun zs r h => by obtain ⟨c, rfl, _⟩ := h; rfl) (fun zs C h => by obtain ⟨d, rest, rfl, hl, _⟩ := h; rw [List.length_cons, hl]; rfl) fun f cdv A outer s H E hr => ⟨_, (pss_cons (ps_set (i := 1) sc_least_draft.nd rfl (.inl rfl) (pe_calX P w mg base C_first_warps (hr.mono (by decide)) (L2N.takes_of rfl rfl rfl rfl) (by rfl) (pa_cons (pv 0) pa_nil)))
    (pss_cons (ps_set (i := 2) sc_least_draft.nd rfl (.inr rfl) (pe_calX P w mg base C_first_wefts (hr.mono (by decide)) (L2N.takes_of rfl rfl rfl rfl) (by rfl) (pa_cons (pv 0) pa_nil)))
    (pss_cons (ps_set (i := 3) sc_least_draft.nd rfl (.inl rfl) (pe_calK K P w mg base C_numbers_of (hr.mono (by decide)) (by rfl) (pa_cons (pe_lc (own := [("at", 5)]) (g := gName 5) (tt := tYes) rfl sc_least_draft.nd (pi_range1 (by rfl) B.range (pa_cons (pe_callB (call_lenK K) (by rfl) B.len (by decide +kernel) (pa_cons (pe_ix (ix_seqK K) (pv 0) pe_int (fun _ _ => rfl)) pa_nil)) pa_nil)) (blkOk_by (N := N_least_draft) (sc := defScope s_least_draft) (by decide +kernel)) (fun _ _ _ _ _ => pg_name (i := 5) sc_least_draft.nd rfl (Or.inl rfl)) (fun _ _ _ _ _ => pts_nil) (fun _ _ _ _ _ => (pe_calK K P w mg base C_warp_of (hr.mono (by decide)) (by rfl) (pa_cons (pv 0) (pa_cons (pv 5) pa_nil))))) (pa_cons (pv 1) pa_nil))))
    (pss_cons (ps_setLc (i := 4) (own := [("warp", 6)]) (g := gName 6) (tt := tYes) rfl sc_least_draft.nd rfl rfl (sw_true rfl rfl rfl (by decide +kernel)) (pi_listK K (pv 1)) (blkOk_by (N := N_least_draft) (sc := defScope s_least_draft) (by decide +kernel)) (fun _ _ _ _ _ => pg_name (i := 6) sc_least_draft.nd rfl (Or.inr rfl)) (fun _ _ _ _ _ => pts_nil) (fun _ _ _ _ _ => (pe_lc (own := [("weft", 7)]) (g := gName 7) (tt := tYes) rfl sc_least_draft.nd (pi_listK K (pv 2)) (blkOk_by (N := N_least_draft) (sc := relS ({ kind := PySem.ScopeKind.function, names := [ (PySem.Str.ofString ".0", PySem.NameKind.local), (PySem.Str.ofString "warp", PySem.NameKind.cell), (PySem.Str.ofString "cloth", PySem.NameKind.free), (PySem.Str.ofString "wefts", PySem.NameKind.free)], isGenerator := false, isCoroutine := false, more := [] : PySem.Scope }) (defScope s_least_draft)) (by decide +kernel)) (fun _ _ _ _ _ => pg_name (i := 7) sc_least_draft.nd rfl (Or.inl rfl)) (fun _ _ _ _ _ => pts_nil) (fun _ _ _ _ _ => (pe_ix (ix_seqK K) (pe_ix (ix_seqK K) (pv 0) (pv 7) (fun _ _ => rfl)) (pv 6) (fun _ _ => rfl))))))
    (pss_one (ps_ret (pe_tup (pa_cons (pv 3) (pa_cons (pv 4) (pa_cons (pe_calK K P w mg base C_numbers_of (hr.mono (by decide)) (by rfl) (pa_cons (pv 0) (pa_cons (pv 2) pa_nil))) pa_nil)))))))))), ?good, ?bad⟩
  case bad =>
    intro zs C h D σ n k
    obtain ⟨d, rest, rfl, hl, hd, rfl⟩ := h
    exact q_setXbad (zs := [.d d]) (a_cons (v_var rfl) a_nil) n ⟨d, [], rfl, rfl, hd, rfl⟩ k
  rintro zs r ⟨c, rfl, g, rfl⟩
  have g1 := g.len
  have g2 := g.wide
  have lc := columns_len c
  have f1 := firstPlaces_len (columns c)
  have f2 := firstPlaces_len c
  refine .inl (r_seq (r_set (VN.toD (v_callXL (a_cons (v_var rfl) a_nil) ⟨c, rfl, g, rfl⟩))) (r_seq (r_set (VN.toD (v_callXL (a_cons (v_var rfl) a_nil) ⟨c, rfl, g, rfl⟩))) ?_))
  intro D σ H n q
  have l2 : σ.length = 8 := n.1
  refine q_setN (d := enc (numbersOf (columns c))) (n_call (a_cons (VN.toD (n_rg (m := ((c.getD 0 default).length : Int)) (fun k => warpOf c k) (v_len (v_ix (xs := c) (v_var rfl) v_int (by omega) (by omega))) (by omega) (by omega) (by decide) fun k hk => n_call (a_cons (v_var rfl) (a_cons (v_var rfl) a_nil)) ⟨c, k, rfl, (fun row hr => by rw [g.rows row hr]; omega), by omega, rfl⟩)) (a_cons (v_var rfl) a_nil)) ⟨columns c, rfl, by omega, rfl⟩) n fun v3 H1 e1 w1 n1 => ?_
  refine q_setN (d := enc (leastDraft c).ti) (VN.eq (n_lc (xs := firstPlaces (columns c)) (fun warp : Int => (firstPlaces c).map fun weft => (c.getD weft.toNat default).getD warp.toNat default) (v_var rfl) (by omega) (by decide) fun warp hw => VN.eq (n_lc (xs := firstPlaces c) (fun weft : Int => (c.getD weft.toNat default).getD warp.toNat default) (v_var rfl) (by omega) (by decide) fun weft hf => ?_) rfl) rfl) n1 fun v4 H2 e2 w2 n2 => ?_
  · have m1 := mem_first hw
    have m2 := mem_first hf
    have m3 := g.rows _ (g.at_ (k := weft.toNat) (by omega))
    exact VD.toN (v_ix (xs := c.getD weft.toNat default) (v_ix (xs := c) (v_var rfl) (v_var rfl) m2.1 m2.2.1) (v_var rfl) m1.1 (by omega)) rfl
  · obtain ⟨F, o1, fr1⟩ := w1
    obtain ⟨G, o2, fr2⟩ := w2
    refine s_ret_vvn (i := 3) (j := 4) (x := v3) (y := v4) (by rw [List.getElem?_set_ne (by decide), List.getElem?_set_self (by omega)]) (by rw [List.getElem?_set_self (by rw [List.length_set]; omega)]) (OwnAll.cons (o1.mono e2) (OwnAll.cons o2 .nil (fun _ _ z => nomatch z)) fun z hz hg => ?_) (H0 := H) (fun z hz => ?_) (e1.trans e2) n2 (n_call (a_cons (v_var rfl) (a_cons (v_var rfl) a_nil)) ⟨c, rfl, by omega, rfl⟩) fun v H3 e3 w => q v H3 (e1.trans (e2.trans e3)) w
    · rw [List.append_nil] at hg
      obtain ⟨xs, hx⟩ := o1.at_ z hz
      rw [fr2 z hg] at hx
      cases hx
    · rw [List.append_nil] at hz
      exact (List.mem_append.mp hz).elim (fr1 z) fun h => fresh_back e1 (fr2 z h)

/-! threads_of -/
abbrev s_threads_of : Stmt := topS 26
abbrev N_threads_of : List Str := ["cloth", "at"]
theorem sc_threads_of : FnScope N_threads_of ["cloth"] (defScope s_threads_of) := ⟨rfl, rfl, rfl, by decide +kernel, rfl, by decide +kernel, by decide +kernel⟩

def R_threads_of : List Ent → PyData → Prop := fun zs r => ∃ (c : Cl), zs = [.d (enc c)] ∧ Good c ∧ r = enc (threads c)
theorem c_threads_of (B : Blt mg) (D_ : Dfn K mg "threads_of" s_threads_of ["cloth"]) : Cal P w K mg base CX0 1 "threads_of" ["cloth"] (spR K R_threads_of) := by
  refine cal_R D_ sc_threads_of (fun zs r h => by obtain ⟨c, rfl, _⟩ := h; rfl) fun f cdv A outer s H E hr => ⟨_, (pss_one (ps_ret (pe_op op_cat (pe_lc (own := [("at", 1)]) (g := gName 1) (tt := tYes) rfl sc_threads_of.nd (pi_range1 (by rfl) B.range (pa_cons (pe_callB (call_lenK K) (by rfl) B.len (by decide +kernel) (pa_cons (pe_ix (ix_seqK K) (pv 0) pe_int (fun _ _ => rfl)) pa_nil)) pa_nil)) (blkOk_by (N := N_threads_of) (sc := defScope s_threads_of) (by decide +kernel)) (fun _ _ _ _ _ => pg_name (i := 1) sc_threads_of.nd rfl (Or.inl rfl)) (fun _ _ _ _ _ => pts_nil) (fun _ _ _ _ _ => (pe_tup (pa_cons pe_str (pa_cons (pv 1) pa_nil))))) (pe_lc (own := [("at", 1)]) (g := gName 1) (tt := tYes) rfl sc_threads_of.nd (pi_range1 (by rfl) B.range (pa_cons (pe_callB (call_lenK K) (by rfl) B.len (by decide +kernel) (pa_cons (pv 0) pa_nil)) pa_nil)) (blkOk_by (N := N_threads_of) (sc := defScope s_threads_of) (by decide +kernel)) (fun _ _ _ _ _ => pg_name (i := 1) sc_threads_of.nd rfl (Or.inl rfl)) (fun _ _ _ _ _ => pts_nil) (fun _ _ _ _ _ => (pe_tup (pa_cons pe_str (pa_cons (pv 1) pa_nil)))))))), ?_⟩
  rintro zs r ⟨c, rfl, g, rfl⟩
  have g1 := g.len
  have g2 := g.wide
  refine .inl (r_ret (VN.eq (n_catN (ds := ((List.range (c.getD 0 default).length).map fun k : Nat => (⟨true, (k : Int)⟩ : Th)).map enc) (es := ((List.range c.length).map fun k : Nat => (⟨false, (k : Int)⟩ : Th)).map enc)
    (VN.eq (n_rg (m := ((c.getD 0 default).length : Int)) (fun k : Nat => (⟨true, (k : Int)⟩ : Th)) (v_len (xs := c.getD 0 default) (v_ix (xs := c) (v_var rfl) v_int (by omega) (by omega))) (by omega) (by omega) (by decide) fun k hk => n_tup (ds := [.str "warp", .int (k : Int)]) (an_cons (VD.toN v_str rfl) (an_cons (VD.toN (v_var rfl) rfl) an_nil)) (by simp)) (by rw [Int.toNat_natCast]; rfl))
    (VN.eq (n_rg (m := (c.length : Int)) (fun k : Nat => (⟨false, (k : Int)⟩ : Th)) (v_len (xs := c) (v_var rfl)) (by omega) (by omega) (by decide) fun k hk => n_tup (ds := [.str "weft", .int (k : Int)]) (an_cons (VD.toN v_str rfl) (an_cons (VD.toN (v_var rfl) rfl) an_nil)) (by simp)) (by rw [Int.toNat_natCast]; rfl)) (by simp only [List.length_map, List.length_range]; omega)) (by rw [← List.map_append]; rfl)))

/-! is_above -/
abbrev s_is_above : Stmt := topS 27
abbrev N_is_above : List Str := ["cloth", "one", "other"]
theorem sc_is_above : FnScope N_is_above ["cloth", "one", "other"] (defScope s_is_above) := ⟨rfl, rfl, rfl, by decide +kernel, rfl, by decide +kernel, by decide +kernel⟩

def R_is_above : List Ent → PyData → Prop := fun zs r => ∃ (c : Cl) (a b : Th), zs = [.d (enc c), .d (enc a), .d (enc b)] ∧ Good c ∧ a.ok c ∧ b.ok c ∧ r = .bool (aboveB c a b)
theorem c_is_above (B : Blt mg) (D_ : Dfn K mg "is_above" s_is_above ["cloth", "one", "other"]) : Cal P w K mg base CX0 1 "is_above" ["cloth", "one", "other"] (spR K R_is_above) := by
  refine cal_R D_ sc_is_above (fun zs r h => by obtain ⟨c, a, b, rfl, _⟩ := h; rfl) fun f cdv A outer s H E hr => ⟨_, (pss_cons (ps_if (pt_cmpR (op_eqDK K hr.units) (pe_ix (ix_seqK K) (pv 1) pe_int (fun _ _ => rfl)) (pe_ix (ix_seqK K) (pv 2) pe_int (fun _ _ => rfl)) (nomark _))
    (pss_one (ps_ret pe_bl))
    pss_nil)
    (pss_cons (ps_if (pt_cmpR (op_eqDK K hr.units) (pe_ix (ix_seqK K) (pv 1) pe_int (fun _ _ => rfl)) pe_str (nomark _))
    (pss_one (ps_ret (pe_cmpR (op_eqDK K hr.units) (pe_ix (ix_seqK K) (pe_ix (ix_seqK K) (pv 0) (pe_ix (ix_seqK K) (pv 2) pe_int (fun _ _ => rfl)) (fun _ _ => rfl)) (pe_ix (ix_seqK K) (pv 1) pe_int (fun _ _ => rfl)) (fun _ _ => rfl)) pe_int (nomark _))))
    pss_nil)
    (pss_one (ps_ret (pe_cmpR (op_eqDK K hr.units) (pe_ix (ix_seqK K) (pe_ix (ix_seqK K) (pv 0) (pe_ix (ix_seqK K) (pv 1) pe_int (fun _ _ => rfl)) (fun _ _ => rfl)) (pe_ix (ix_seqK K) (pv 2) pe_int (fun _ _ => rfl)) (fun _ _ => rfl)) pe_int (nomark _)))))), ?_⟩
  rintro zs r ⟨c, a, b, rfl, g, ha, hb, rfl⟩
  have g1 := g.len
  have g2 := g.wide
  refine .inl ?_
  by_cases hw : a.w = b.w
  · refine r_seqR (r_if (b := true) (VT.eq (t_test (v_eqD (d := .str (thS a.w)) (e := .str (thS b.w)) (v_thW (v_var rfl)) (v_thW (v_var rfl)) (shaped_thS _) (shaped_thS _))) (by rw [eqv_thS, decide_eq_true hw])) (fun _ => RD.eq (r_retP v_bl rfl) (by unfold aboveB; rw [if_pos hw])) (fun q => nomatch q))
  · refine r_seq (r_if (b := false) (VT.eq (t_test (v_eqD (d := .str (thS a.w)) (e := .str (thS b.w)) (v_thW (v_var rfl)) (v_thW (v_var rfl)) (shaped_thS _) (shaped_thS _))) (by rw [eqv_thS, decide_eq_false hw])) (fun q => nomatch q) fun _ => r_next) ?_
    unfold Th.ok at ha hb
    cases haw : a.w with
    | true =>
      have hbw : b.w = false := by cases h : b.w with
        | true => exact absurd (haw.trans h.symm) hw
        | false => rfl
      rw [haw, if_pos rfl] at ha
      rw [hbw, if_neg (by decide)] at hb
      have hr := g.rows _ (g.at_ (k := b.k.toNat) (by omega))
      exact r_seqR (r_if (b := true) (VT.eq (t_test (v_eqD (d := .str (thS a.w)) (e := .str "warp") (v_thW (v_var rfl)) v_str (shaped_thS _) (by decide +kernel))) (by rw [haw]; exact eqv_thS true true)) (fun _ => RD.eq (r_retP (v_eqI (v_ix (xs := c.getD b.k.toNat default) (i := a.k) (v_ix (xs := c) (i := b.k) (v_var rfl) (v_thK (t := b) (v_var rfl)) (by omega) (by omega)) (v_thK (t := a) (v_var rfl)) (by omega) (by omega)) v_int) rfl) (by unfold aboveB; rw [if_neg hw, if_pos haw])) (fun q => nomatch q))
    | false =>
      have hbw : b.w = true := by cases h : b.w with
        | false => exact absurd (haw.trans h.symm) hw
        | true => rfl
      rw [haw, if_neg (by decide)] at ha
      rw [hbw, if_pos rfl] at hb
      have hr := g.rows _ (g.at_ (k := a.k.toNat) (by omega))
      exact r_seq (r_if (b := false) (VT.eq (t_test (v_eqD (d := .str (thS a.w)) (e := .str "warp") (v_thW (v_var rfl)) v_str (shaped_thS _) (by decide +kernel))) (by rw [haw]; exact eqv_thS false true)) (fun q => nomatch q) fun _ => r_next) (RD.eq (r_retP (v_eqI (v_ix (xs := c.getD a.k.toNat default) (i := b.k) (v_ix (xs := c) (i := a.k) (v_var rfl) (v_thK (t := a) (v_var rfl)) (by omega) (by omega)) (v_thK (t := b) (v_var rfl)) (by omega) (by omega)) v_int) rfl) (by unfold aboveB; rw [if_neg hw, if_neg (by rw [haw]; decide)]))

/-! lies_above -/
abbrev s_lies_above : Stmt := topS 28
abbrev N_lies_above : List Str := ["cloth", "one", "other"]
theorem sc_lies_above : FnScope N_lies_above ["cloth", "one", "other"] (defScope s_lies_above) := ⟨rfl, rfl, rfl, by decide +kernel, rfl, by decide +kernel, by decide +kernel⟩

def R_lies_above : List Ent → PyData → Prop := R_is_above
theorem c_lies_above (B : Blt mg) {aL aC aD aF aN : Addr} (XC_ : FitX K mg "NoCloth" "NoDraft" "NoFit" "NoNote" aL aC aD aF aN) (XD_ : FitX K mg "NoDraft" "NoCloth" "NoFit" "NoNote" aL aD aC aF aN) (XF_ : FitX K mg "NoFit" "NoCloth" "NoDraft" "NoNote" aL aF aC aD aN) (C_need_cloth : Cal P w K mg base (L2N.CX P w) 4 "need_cloth" ["thing"] (spX K R_need_cloth (noC 0 aC))) (C_is_above : Cal P w K mg base CX0 1 "is_above" ["cloth", "one", "other"] (spR K R_is_above)) (D_ : Dfn K mg "lies_above" s_lies_above ["cloth", "one", "other"]) : Cal P w K mg base (L2N.CX P w) 5 "lies_above" ["cloth", "one", "other"] (spX K R_lies_above (noC 2 aC)) := by
  refine cal_RX D_ sc_lies_above (fun zs r h => by obtain ⟨c, a, b, rfl, _⟩ := h; rfl) (fun zs C h => by obtain ⟨d, rest, rfl, hl, _⟩ := h; rw [List.length_cons, hl]; rfl) fun f cdv A outer s H E hr => ⟨_, (pss_cons (ps_expr (pe_calX P w mg base C_need_cloth (hr.mono (by decide)) (L2N.takes_of rfl rfl rfl rfl) (by rfl) (pa_cons (pv 0) pa_nil)))
    (pss_one (ps_ret (pe_calK K P w mg base C_is_above (hr.mono (by decide)) (by rfl) (pa_cons (pv 0) (pa_cons (pv 1) (pa_cons (pv 2) pa_nil))))))), ?good, ?bad⟩
  case bad =>
    intro zs C h D σ n k
    obtain ⟨d, rest, rfl, hl, hd, rfl⟩ := h
    exact q_badX (zs := [.d d]) (a_cons (v_var rfl) a_nil) n ⟨d, [], rfl, rfl, hd, rfl⟩ k
  rintro zs r ⟨c, a, b, rfl, g, ha, hb, rfl⟩
  exact .inl (r_seq (r_drop (VN.toD (v_callXL (a_cons (v_var rfl) a_nil) ⟨enc c, rfl, g.is, rfl⟩))) (r_ret (n_call (a_cons (v_var rfl) (a_cons (v_var rfl) (a_cons (v_var rfl) a_nil))) ⟨c, a, b, rfl, g, ha, hb, rfl⟩)))

/-! led_on -/
abbrev s_led_on : Stmt := topS 29
abbrev N_led_on : List Str := ["cloth", "start", "up", "ahead", "waiting", "fresh", "thread", "other", "pair"]
theorem sc_led_on : FnScope N_led_on ["cloth", "start", "up"] (defScope s_led_on) := ⟨rfl, rfl, rfl, by decide +kernel, rfl, by decide +kernel, by decide +kernel⟩

theorem c_led_on (B : Blt mg) (C_threads_of : Cal P w K mg base CX0 1 "threads_of" ["cloth"] (spR K R_threads_of)) (C_is_above : Cal P w K mg base CX0 1 "is_above" ["cloth", "one", "other"] (spR K R_is_above)) (D_ : Dfn K mg "led_on" s_led_on ["cloth", "start", "up"]) : Cal P w K mg base CX0 2 "led_on" ["cloth", "start", "up"] (spLed K) := by
  refine cal_sp D_ sc_led_on (fun vs H Q E h => by obtain ⟨c, s, b, h1, _⟩ := h; exact h1.len) fun f cdv A outer s H0 vs Q E hr h => ⟨_, (pss_cons (ps_set (i := 3) sc_led_on.nd rfl (.inl rfl) pe_dnewT)
    (pss_cons (ps_dput (hu_of hr) (pv 3) (pv 1) pe_non rfl)
    (pss_cons (ps_set (i := 4) sc_led_on.nd rfl (.inl rfl) (pe_lst (pa_cons (pv 1) pa_nil)))
    (pss_cons (ps_while PassesOwn.never (pt_cmpR op_gt (pe_callB (call_lenK K) (by rfl) B.len (by decide +kernel) (pa_cons (pv 4) pa_nil)) pe_int (nomark _))
    (pss_cons (ps_set (i := 5) sc_led_on.nd rfl (.inl rfl) (pe_lst pa_nil))
    (pss_cons (ps_for PassesOwn.never rfl (pi_listK K (pv 4)) (pg_name (i := 6) sc_led_on.nd rfl (.inl rfl))
    (pss_one (ps_for PassesOwn.never rfl (pi_listK K (pe_calK K P w mg base C_threads_of (hr.mono (by decide)) (by rfl) (pa_cons (pv 0) pa_nil))) (pg_name (i := 7) sc_led_on.nd rfl (.inl rfl))
    (pss_cons (ps_set (i := 8) sc_led_on.nd rfl (.inl rfl) (pe_ifExp (pt_val (pv 2)) (pe_tup (pa_cons (pv 7) (pa_cons (pv 6) pa_nil))) (pe_tup (pa_cons (pv 6) (pa_cons (pv 7) pa_nil)))))
    (pss_one (ps_if (PW.pt (pw_and (pt_cmp (pc_dnotin (hu_of hr) (pv 7) (pv 3))) (pw_and1 (pt_val (pe_calK K P w mg base C_is_above (hr.mono (by decide)) (by rfl) (pa_cons (pv 0) (pa_cons (pe_ix (ix_seqK K) (pv 8) pe_int (fun _ _ => rfl)) (pa_cons (pe_ix (ix_seqK K) (pv 8) pe_int (fun _ _ => rfl)) pa_nil))))))))
    (pss_cons (ps_dput (hu_of hr) (pv 3) (pv 7) (pv 6) rfl)
    (pss_one (ps_expr (pe_bmK K PySem.F.plainAttrs_list PySem.F.slot_list_append PySem.F.type_list_append mt_append (pv 5) (pa_cons (pv 7) pa_nil)))))
    pss_nil))))))
    (pss_one (ps_set (i := 4) sc_led_on.nd rfl (.inl rfl) (pv 5))))))
    (pss_one (ps_ret (pv 3))))))), ?_⟩
  obtain ⟨c, s, up, r1, g, hs, q⟩ := h
  have n0 : Env K H0 (L2.start N_led_on vs) [some (.d (enc c)), some (.d (enc s)), some (.d (.bool up)), none, none, none, none, none, none] := Env.start (N := N_led_on) r1
  generalize L2.start N_led_on vs = σ0 at n0
  have l0 : σ0.length = 9 := n0.1
  have g1 := g.len
  have g2 := g.wide
  have hsT : s ∈ threads c := threads_ok.mpr hs
  have hN := threads_len c
  obtain ⟨v1, hv1, tv1⟩ := n0.2 1 _ rfl
  refine fun p hp => ?_
  have E1 : Ex H0 (upd H0 p (.dT [])) := Ex.new hp
  have d0 : DicAt (upd H0 p (.dT [])) p [] := ⟨⟨[], upd_same, .nil⟩, fun _ h => nomatch h⟩
  obtain ⟨o, hput, d1, eT1⟩ := d0.put (t := s) (x := .none) (w := .non) (v := v1) (Tp.mono E1 tv1) (by simp) .non (.inl rfl) (by decide)
  refine ⟨.ref p, List.getElem?_set_self (by omega), v1, by rw [List.getElem?_set_ne (by decide)]; exact hv1, p, _, rfl, hput, ?_⟩
  have E2 := Ex.mut (o := o) E1 hp
  generalize upd (upd H0 p (.dT [])) p o = H2 at d1 E2
  refine q_setV (z := .d (enc [s])) (v_lst (ds := [enc s]) (a_cons (v_var rfl) a_nil) (by simp)) ((n0.mono E2).drop 3) fun v4 H3 e3 w4 n3 => ?_
  obtain ⟨q4, rfl, t4⟩ := ThsAt.of (ts := [s]) w4
  have s3 : ((σ0.set 3 (some (V.ref p))).set 4 (some (V.ref q4)))[3]? = some (some (.ref p)) := by rw [List.getElem?_set_ne (by decide)]; exact List.getElem?_set_self (by omega)
  have s4 : ((σ0.set 3 (some (V.ref p))).set 4 (some (V.ref q4)))[4]? = some (some (.ref q4)) := List.getElem?_set_self (by simp [l0])
  have nb : Env K H0 ((σ0.set 3 (some (V.ref p))).set 4 (some (V.ref q4))) [some (.d (enc c)), some (.d (enc s)), some (.d (.bool up)), none, none, none, none, none, none] := (n0.drop 3).drop 4
  generalize ((σ0.set 3 (some (V.ref p))).set 4 (some (V.ref q4))) = σ3 at s3 s4 nb
  have lit : ∀ (σ : L2.St) (H : Hp), Buts [4, 5, 6, 7, 8] σ3 σ → Ex H0 H → Env K H σ [some (.d (enc c)), some (.d (enc s)), some (.d (.bool up)), none, none, none, none, none, none] := fun σ H bt E => ((bt.env nb).mono E).only rfl fun x z h => by
    rcases x with _ | _ | _ | _ | _ | _ | _ | _ | _ | x <;> first | exact h | cases h
  refine s_while (fun m σ H => ∃ (ps : List (Th × PyData)) (lev : Th → Nat) (L : Nat) (pr W : List Th) (f : Addr), m = 2 * ((threads c).length + 1 - ps.length) + (if W = [] then 0 else 1) ∧ Ex H0 H ∧ Buts [4, 5, 6, 7, 8] σ3 σ ∧ σ[4]? = some (some (.ref f)) ∧ ThsAt H f W ∧ DicAt H p ps ∧ Walk (threads c) (lkU c up) s ps lev L pr W [])
    ⟨_, _, _, _, _, q4, rfl, E2.trans e3, Buts.refl _ _, s4, t4, d1.mono e3, Walk.init hsT⟩ fun m σ H w => ?_
  clear d1 d0 hput eT1
  obtain ⟨ps, lev, L, pr, W, f, rfl, E3, bt, q4', tW, dp, wk⟩ := w
  have lps : ps.length ≤ (threads c).length := by
    have := nodup_le (xs := ps.map (·.1)) wk.nd wk.sub
    rw [List.length_map] at this
    exact this
  refine ⟨decide (0 < (W.length : Int)), t_test (v_gt (v_len (xs := W) (v_var rfl)) v_int) _ _ ((lit σ H bt E3).add 4 (z := .d (enc W)) q4' tW.tp), fun hb H' e' => ?_, fun hb H' D' e' rt' hn' => ?_⟩
  · have hW : W = [] := by
      rw [decide_eq_false_iff_not] at hb
      exact List.length_eq_zero_iff.mp (by omega)
    subst hW
    exact s_retVar (by rw [bt.at_ 3 (by decide)]; exact s3) (q p H' ps (E3.trans e') hp (dp.mono e') ⟨lev, wk.levels, wk.nd, wk.val⟩)
  · have hW : W ≠ [] := fun e => by rw [e] at hb; simp at hb
    refine q_empty fun f5 hf5 _ => ?_
    have X1 : Ex H (upd H' f5 (.lst [])) := e'.trans (Ex.new hf5)
    have dp1 := dp.mono X1
    have tW1 := tW.mono X1
    have tf : ThsAt (upd H' f5 (.lst [])) f5 [] := ⟨[], upd_same, .nil⟩
    have E4 := E3.trans X1
    have ne4 : f ≠ f5 := fun e => by
      obtain ⟨ws, h1, _⟩ := tW.ex
      have := e' _ _ h1
      rw [e, hf5] at this; cases this
    have h05 : H0 f5 = none := fresh_back (E3.trans e') hf5
    generalize upd H' f5 (.lst []) = H1 at X1 dp1 tW1 tf E4
    have nef : f ≠ p := fun e => by
      obtain ⟨ws, h1, _⟩ := tW1.ex
      exact dp1.nolst ws (by rw [← e]; exact h1)
    have ne5 : f5 ≠ p := fun e => by
      obtain ⟨ws, h1, _⟩ := tf.ex
      exact dp1.nolst ws (by rw [← e]; exact h1)
    have bt5 := bt.set (j := 5) (some (V.ref f5)) (by decide)
    have l5 : (σ.set 5 (some (V.ref f5))).length = 9 := by rw [bt5.len]; exact nb.1
    have z3 : (σ.set 5 (some (V.ref f5)))[3]? = some (some (.ref p)) := by rw [bt5.at_ 3 (by decide)]; exact s3
    have z4 : (σ.set 5 (some (V.ref f5)))[4]? = some (some (.ref f)) := by rw [List.getElem?_set_ne (by decide)]; exact q4'
    have z5 : (σ.set 5 (some (V.ref f5)))[5]? = some (some (.ref f5)) := List.getElem?_set_self (by have := bt.len; have := nb.1; simp at *; omega)
    generalize (σ.set 5 (some (V.ref f5))) = σ5 at bt5 z3 z4 z5 l5
    have hF : ∀ (Hx : Hp), (∀ ys, Hx p ≠ some (.tup ys)) → (∀ ys, Hx f5 ≠ some (.tup ys)) → ∀ Hy, ExF [p, f5] Hx Hy → ExT Hx Hy := fun Hx h1 h2 Hy X a xs h => X a _ (fun hm => by
      rcases List.mem_cons.mp hm with rfl | hm
      · exact h1 _ h
      · rw [List.mem_singleton.mp hm] at h; exact h2 _ h) h
    obtain ⟨ws, hws, tws⟩ := tW1.ex
    have lws : ws.length = W.length := by rw [tws.len, List.length_map]
    refine ⟨.ref f, z4, ?_⟩
    refine s_loopV (a := f) (xs := ws) (j := 6) (js := [6, 7, 8]) (D := { D' with nx := _ }) (fun k Hx => ∃ ps' lev' fr, ExF [p, f5] H1 Hx ∧ DicAt Hx p ps' ∧ ThsAt Hx f5 fr ∧ Walk (threads c) (lkU c up) s ps' lev' L (pr ++ W.take k) W fr ∧ ps'.length = ps.length + fr.length) (by decide)
      ⟨ps, lev, [], fun _ _ _ h => h, dp1, tf, by rw [List.take_zero, List.append_nil]; exact wk, rfl⟩ (fun k Hx ⟨_, _, _, X, _⟩ => X _ _ (by simp [nef, ne4]) hws) (fun k v6 hk σ6 H6 D6 bt6 hI rt6 hn6 => ?_) (fun σ6 H6 bt6 hI => ?_)
    · -- one thread of the shell
      obtain ⟨ps6, lev6, fr6, X6, d6, t6, wk6, c6⟩ := hI
      have hkW : k < W.length := by rw [← lws]; exact (List.getElem?_eq_some_iff.mp hk).1
      obtain ⟨th, hth, hthW⟩ : ∃ th, W[k]? = some th ∧ th ∈ W := ⟨_, List.getElem?_eq_getElem hkW, List.getElem_mem hkW⟩
      have tv6 : Tp H1 v6 (enc th) := by
        obtain ⟨d, hd, td⟩ := tws.getV hk
        rw [List.getElem?_map, hth] at hd
        cases hd
        exact td
      have E6 : Ex H0 H6 := X6.base E4 fun x hx => by
        rcases List.mem_cons.mp hx with rfl | hx
        · exact hp
        · rw [List.mem_singleton.mp hx]; exact h05
      have tv6' : Tp H6 v6 (enc th) := Tp.thT (hF H1 dp1.notup tf.notup H6 X6) tv6
      have b7 : Buts [6, 7, 8] σ5 (σ6.set 6 (some v6)) := bt6.set _ (by decide)
      have B7 : Buts [4, 5, 6, 7, 8] σ3 (σ6.set 6 (some v6)) := ⟨by rw [b7.len, bt5.len], fun a ha => by rw [b7.at_ a (fun h => ha (by simp at h ⊢; omega)), bt5.at_ a ha]⟩
      have l6 : σ6.length = 9 := by rw [bt6.len]; exact l5
      refine (n_call (d := enc (threads c)) (a_cons (v_var rfl) a_nil) ⟨c, rfl, g, rfl⟩) _ _ (lit _ H6 B7 E6) _ fun v H7 e7 w7 => ?_
      obtain ⟨FF, oo, ff⟩ := w7
      obtain ⟨r, ts, G, rfl, rfl, er, tts, _⟩ := oo.lst_inv
      have hr6 : H6 r = none := ff r List.mem_cons_self
      have tts := tts.tp
      have lts : ts.length = (threads c).length := by rw [tts.len, List.length_map]
      have d7 := d6.mono e7
      have t7 := t6.mono e7
      have tv7 := Tp.mono e7 tv6'
      have nr : r ≠ p := fun e => d7.nolst ts (by rw [← e]; exact er)
      have nr5 : r ≠ f5 := fun e => by
        obtain ⟨x, h1, _⟩ := t6.ex
        rw [← e, hr6] at h1; cases h1
      have h6 : (σ6.set 6 (some v6))[6]? = some (some v6) := List.getElem?_set_self (by omega)
      generalize (σ6.set 6 (some v6)) = σ7 at b7 B7 h6
      refine s_loopV (a := r) (xs := ts) (j := 7) (js := [7, 8]) (D := D6) (fun k' Hx => ∃ ps' lev' fr, ExF [p, f5] H7 Hx ∧ DicAt Hx p ps' ∧ ThsAt Hx f5 fr ∧ Walk (threads c) (lkU c up) s ps' lev' L (pr ++ W.take k) W fr ∧ ps'.length = ps.length + fr.length ∧ ∀ o ∈ (threads c).take k', lkU c up th o = true → o ∈ ks ps') (by decide)
        ⟨ps6, lev6, fr6, fun _ _ _ h => h, d7, t7, wk6, c6, fun o ho => by simp at ho⟩ (fun k' Hx ⟨_, _, _, X, _⟩ => X _ _ (by simp [nr, nr5]) er) (fun k' v7 hk' σ8 H8 D8 bt8 hI8 rt8 hn8 => ?_) (fun σ8 H8 bt8 hI8 => ?_)
      · -- one other
        obtain ⟨ps8, lev8, fr8, X8, d8, t8, wk8, c8, a8⟩ := hI8
        have hkT : k' < (threads c).length := by rw [← lts]; exact (List.getElem?_eq_some_iff.mp hk').1
        obtain ⟨o, hoT, hom⟩ : ∃ o, (threads c)[k']? = some o ∧ o ∈ threads c := ⟨_, List.getElem?_eq_getElem hkT, List.getElem_mem hkT⟩
        have tv8 : Tp H7 v7 (enc o) := by
          obtain ⟨d, hd, td⟩ := tts.getV hk'
          rw [List.getElem?_map, hoT] at hd
          cases hd
          exact td
        have eT8 := hF H7 d7.notup t7.notup H8 X8
        have w8 := Tp.thT eT8 tv8
        have u8 := Tp.thT eT8 tv7
        have E8 : Ex H0 H8 := X8.base (E6.trans e7) fun x hx => by
          rcases List.mem_cons.mp hx with rfl | hx
          · exact hp
          · rw [List.mem_singleton.mp hx]; exact h05
        have okth : th.ok c := threads_ok.mp (wk8.sub th (wk8.w th hthW).1)
        have oko : o.ok c := threads_ok.mp hom
        have l8 : σ8.length = 9 := by rw [bt8.len, b7.len]; exact l5
        have b9 : Buts [7, 8] σ7 (σ8.set 7 (some v7)) := bt8.set _ (by decide)
        have B9 : Buts [4, 5, 6, 7, 8] σ3 (σ8.set 7 (some v7)) := ⟨by rw [b9.len, B7.len], fun a ha => by rw [b9.at_ a (fun h => ha (by simp at h ⊢; omega)), B7.at_ a ha]⟩
        have y7 : (σ8.set 7 (some v7))[7]? = some (some v7) := List.getElem?_set_self (by omega)
        have y6 : (σ8.set 7 (some v7))[6]? = some (some v6) := by rw [b9.at_ 6 (by decide)]; exact h6
        have n8 := ((lit _ H8 B9 E8).add 6 (z := .d (enc th)) y6 u8).add 7 (z := .d (enc o)) y7 w8
        generalize (σ8.set 7 (some v7)) = σ9 at b9 B9 y7 y6 n8
        have l9 : σ9.length = 9 := n8.1
        refine q_setV (z := .d (enc ((if up = true then (o, th) else (th, o)) : Th × Th))) (v_if (b := up) (t_test (v_var rfl)) (fun h => VE.eq (v_tup (ds := [enc o, enc th]) (a_cons (v_var rfl) (a_cons (v_var rfl) a_nil)) (by simp)) (by rw [if_pos h]; rfl)) (fun h => VE.eq (v_tup (ds := [enc th, enc o]) (a_cons (v_var rfl) (a_cons (v_var rfl) a_nil)) (by simp)) (by rw [if_neg (by rw [h]; decide)]; rfl))) n8 fun v10 H10 e10 w10 n10 => ?_
        have bA : Buts [7, 8] σ7 (σ9.set 8 (some v10)) := b9.set _ (by decide)
        have BA : Buts [4, 5, 6, 7, 8] σ3 (σ9.set 8 (some v10)) := B9.set _ (by decide)
        have x7 : (σ9.set 8 (some v10))[7]? = some (some v7) := by rw [List.getElem?_set_ne (by decide)]; exact y7
        have x6 : (σ9.set 8 (some v10))[6]? = some (some v6) := by rw [List.getElem?_set_ne (by decide)]; exact y6
        have x3 : (σ9.set 8 (some v10))[3]? = some (some (.ref p)) := by rw [BA.at_ 3 (by decide)]; exact s3
        have x5 : (σ9.set 8 (some v10))[5]? = some (some (.ref f5)) := by rw [bA.at_ 5 (by decide), b7.at_ 5 (by decide)]; exact z5
        generalize (σ9.set 8 (some v10)) = σA at bA BA x7 x6 x3 x5 n10
        have d10 := d8.mono e10
        have t10 := t8.mono e10
        have w10' := Tp.mono e10 w8
        have u10 := Tp.mono e10 u8
        have X10 := X8.ex e10
        have step : ∀ q : Bool → Prop, (lkU c up th o = true → o ∈ ks ps8) → ∀ x ∈ (threads c).take (k' + 1), lkU c up th x = true → x ∈ ks ps8 := fun _ h x hx hlx => by
          rw [List.take_add_one, hoT] at hx
          rcases List.mem_append.mp hx with hx | hx
          · exact a8 x hx hlx
          · rw [Option.toList_some, List.mem_singleton] at hx
            rw [hx] at hlx ⊢; exact h hlx
        refine t_dnotin (x := o) wk8.nd x7 w10' x3 d10 ?_
        by_cases ho : o ∈ ks ps8
        · rw [decide_eq_true ho]
          exact hn8 _ _ bA ⟨ps8, lev8, fr8, X10, d10, t10, wk8, c8, step (fun _ => True) fun _ => ho⟩
        · rw [decide_eq_false ho]
          refine t_test (VE.eq (VN.toD (n_call (d := .bool (aboveB c (if up = true then (o, th) else (th, o)).1 (if up = true then (o, th) else (th, o)).2)) (a_cons (v_var rfl) (a_cons (v_fst (x := ((if up = true then (o, th) else (th, o)) : Th × Th)) (v_var rfl) v_int) (a_cons (v_snd (x := ((if up = true then (o, th) else (th, o)) : Th × Th)) (v_var rfl) v_int) a_nil))) ⟨c, _, _, rfl, g, by cases up; exact okth; exact oko, by cases up; exact oko; exact okth, rfl⟩)) (show _ = Ent.d (.bool (lkU c up th o)) by unfold lkU; cases up <;> rfl)) _ _ n10 _ fun H11 e11 => ?_
          have d11 := d10.mono e11
          have t11 := t10.mono e11
          have w11 := Tp.mono e11 w10'
          have u11 := Tp.mono e11 u10
          have X11 := X10.ex e11
          by_cases hl : lkU c up th o = true
          · rw [hl]
            obtain ⟨ob, hput, d12, eT12⟩ := d11.put (t := o) (x := enc th) (w := v6) w11 ho u11 (.inr ⟨th, rfl⟩) (by
              have := nodup_le (xs := ps8.map (·.1)) wk8.nd wk8.sub
              rw [List.length_map] at this
              omega)
            refine ⟨v6, x6, .ref p, x3, v7, x7, p, _, rfl, hput, ?_⟩
            have t12 : ThsAt (upd H11 p ob) f5 fr8 := t11.keep eT12 (upd_ne ne5)
            have w12 := Tp.thT eT12 w11
            obtain ⟨vs12, h12, l12, t13, eT13⟩ := t12.push w12
            have d13 := d12.keep eT13 (upd_ne (Ne.symm ne5))
            refine ⟨.ref f5, x5, .inl ⟨rfl, vs12, SqL.of h12⟩, v7, x7, f5, vs12, v7, rfl, rfl, h12, sz_lt ?_, ?_⟩
            · have := nodup_le (xs := ps8.map (·.1)) wk8.nd wk8.sub
              rw [List.length_map] at this
              omega
            · refine hn8 _ _ bA ⟨ps8 ++ [(o, enc th)], _, fr8 ++ [o], (X11.upd (by simp)).upd (by simp), d13, t13, wk8.add hthW hom hl ho, by simp; omega, fun x hx hlx => ?_⟩
              show x ∈ (ps8 ++ [(o, enc th)]).map (·.1)
              rw [List.map_append, List.mem_append]
              by_cases hxo : x = o
              · exact .inr (by simp [hxo])
              · refine .inl ?_
                rw [List.take_add_one, hoT] at hx
                rcases List.mem_append.mp hx with hx | hx
                · exact a8 x hx hlx
                · rw [Option.toList_some, List.mem_singleton] at hx
                  exact absurd hx hxo
          · rw [Bool.not_eq_true] at hl
            rw [hl]
            exact hn8 _ _ bA ⟨ps8, lev8, fr8, X11, d11, t11, wk8, c8, step (fun _ => True) fun h => by rw [hl] at h; cases h⟩
      · obtain ⟨ps8, lev8, fr8, X8, d8, t8, wk8, c8, a8⟩ := hI8
        refine hn6 σ8 H8 ⟨by rw [bt8.len, b7.len], fun a ha => by rw [bt8.at_ a (fun h => ha (by simp at h ⊢; omega)), b7.at_ a ha]⟩ ⟨ps8, lev8, fr8, fun x o h1 h2 => X8 x o h1 (e7 _ _ (X6 x o h1 h2)), d8, t8, ?_, c8⟩
        rw [List.take_add_one, hth, ← List.append_assoc]
        exact wk8.leave hthW fun o ho => a8 o (by rw [lts, List.take_length]; exact ho)
    · -- the next shell
      obtain ⟨ps6, lev6, fr6, X6, d6, t6, wk6, c6⟩ := hI
      have E6 : Ex H0 H6 := X6.base E4 fun x hx => by
        rcases List.mem_cons.mp hx with rfl | hx
        · exact hp
        · rw [List.mem_singleton.mp hx]; exact h05
      rw [lws, List.take_length] at wk6
      have y5 : σ6[5]? = some (some (.ref f5)) := by rw [bt6.at_ 5 (by decide)]; exact z5
      have B6 : Buts [4, 5, 6, 7, 8] σ3 σ6 := ⟨by rw [bt6.len, bt5.len], fun a ha => by rw [bt6.at_ a (fun h => ha (by simp at h ⊢; omega)), bt5.at_ a ha]⟩
      refine ⟨.ref f5, y5, hn' _ _ _ ?_ ⟨ps6, lev6, L + 1, pr ++ W, fr6, f5, rfl, E6, B6.set _ (by decide), List.getElem?_set_self (by rw [B6.len]; have := nb.1; simp at this; omega), t6, d6, wk6.next fun t ht => List.mem_append_right _ ht⟩⟩
      have := nodup_le (xs := ps6.map (·.1)) wk6.nd wk6.sub
      rw [List.length_map] at this
      rw [if_neg hW]
      by_cases hf : fr6 = []
      · rw [if_pos hf]; omega
      · rw [if_neg hf]
        have : fr6.length ≠ 0 := fun e => hf (List.length_eq_zero_iff.mp e)
        omega

/-! way_up -/
abbrev s_way_up : Stmt := topS 30
abbrev N_way_up : List Str := ["cloth", "one", "other", "ahead", "found", "thread", "at"]
theorem sc_way_up : FnScope N_way_up ["cloth", "one", "other"] (defScope s_way_up) := ⟨rfl, rfl, rfl, by decide +kernel, rfl, by decide +kernel, by decide +kernel⟩

def curD : Option Th → PyData
  | some t => enc t
  | none => .none
def A_way_up : List Ent → Prop := fun zs => ∃ (c : Cl) (a b : Th), zs = [.d (enc c), .d (enc a), .d (enc b)] ∧ Good c ∧ a.ok c ∧ b.ok c
def P_way_up : List Ent → PyData → Prop := fun zs r => ∀ (c : Cl) (a b : Th), zs = [.d (enc c), .d (enc a), .d (enc b)] → Told c a b r
theorem c_way_up (B : Blt mg) {aL aC aD aF aN : Addr} (XC_ : FitX K mg "NoCloth" "NoDraft" "NoFit" "NoNote" aL aC aD aF aN) (XD_ : FitX K mg "NoDraft" "NoCloth" "NoFit" "NoNote" aL aD aC aF aN) (XF_ : FitX K mg "NoFit" "NoCloth" "NoDraft" "NoNote" aL aF aC aD aN) (C_need_cloth : Cal P w K mg base (L2N.CX P w) 4 "need_cloth" ["thing"] (spX K R_need_cloth (noC 0 aC))) (C_led_on : Cal P w K mg base CX0 2 "led_on" ["cloth", "start", "up"] (spLed K)) (D_ : Dfn K mg "way_up" s_way_up ["cloth", "one", "other"]) : Cal P w K mg base (L2N.CX P w) 5 "way_up" ["cloth", "one", "other"] (spXP K A_way_up P_way_up (noC 2 aC)) := by
  refine cal_spX D_ sc_way_up (fun vs H Q E h => ?_) fun f cdv A outer s H0 vs Q E hr h => ⟨_, (pss_cons (ps_expr (pe_calX P w mg base C_need_cloth (hr.mono (by decide)) (L2N.takes_of rfl rfl rfl rfl) (by rfl) (pa_cons (pv 0) pa_nil)))
    (pss_cons (ps_set (i := 3) sc_way_up.nd rfl (.inl rfl) (pe_calK K P w mg base C_led_on (hr.mono (by decide)) (by rfl) (pa_cons (pv 0) (pa_cons (pv 1) (pa_cons pe_bl pa_nil)))))
    (pss_cons (ps_if (pt_cmp (pc_dnotin (hu_of hr) (pv 2) (pv 3)))
    (pss_one (ps_ret pe_non))
    pss_nil)
    (pss_cons (ps_set (i := 4) sc_way_up.nd rfl (.inr rfl) (pe_lst pa_nil))
    (pss_cons (ps_set (i := 5) sc_way_up.nd rfl (.inl rfl) (pv 2))
    (pss_cons (ps_while (passes_of rfl) (pt_cmpR op_notN (pv 5) pe_non (nomark _))
    (pss_cons (ps_expr (pe_bmK K PySem.F.plainAttrs_list PySem.F.slot_list_append PySem.F.type_list_append mt_append (pv 4) (pa_cons (pv 5) pa_nil)))
    (pss_one (ps_set (i := 5) sc_way_up.nd rfl (.inl rfl) (pe_dget (hu_of hr) (pv 3) (pv 5) (fun _ _ => rfl))))))
    (pss_one (ps_ret (pe_lc (own := [("at", 6)]) (g := gName 6) (tt := tYes) rfl sc_way_up.nd (pi_range1 (by rfl) B.range (pa_cons (pe_callB (call_lenK K) (by rfl) B.len (by decide +kernel) (pa_cons (pv 4) pa_nil)) pa_nil)) (blkOk_by (N := N_way_up) (sc := defScope s_way_up) (by decide +kernel)) (fun _ _ _ _ _ => pg_name (i := 6) sc_way_up.nd rfl (Or.inl rfl)) (fun _ _ _ _ _ => pts_nil) (fun _ _ _ _ _ => (pe_ix (ix_seqK K) (pv 4) (pe_op op_sub (pe_op op_sub (pe_callB (call_lenK K) (by rfl) B.len (by decide +kernel) (pa_cons (pv 4) pa_nil)) pe_int) (pv 6)) (fun _ _ => rfl)))))))))))), ?_⟩
  · obtain ⟨zs, r1, ⟨hA, _⟩ | ⟨C, ⟨d, rest, rfl, hl, _⟩, _⟩⟩ := h
    · obtain ⟨c, a, b, rfl, g, ha, hb⟩ := hA
      exact r1.len
    · rw [r1.len, List.length_cons, hl]; rfl
  obtain ⟨zs, r1, ⟨hA, q⟩ | ⟨C, ⟨d, rest, rfl, hl, hd, rfl⟩, k⟩⟩ := h
  rotate_left
  · exact q_badX (zs := [.d d]) (a_cons (v_var rfl) a_nil) (Env.start r1) ⟨d, [], rfl, rfl, hd, rfl⟩ k
  obtain ⟨c, a, b, rfl, g, ha, hb⟩ := hA
  have q' : ∀ r, Told c a b r → ∀ v H', Ex H0 H' → New H0 H' v r → Q v H' := fun r h => q r fun c' a' b' e => by
    simp only [List.cons.injEq, Ent.d.injEq, and_true] at e
    obtain ⟨e1, e2, e3⟩ := e
    rw [← enc_inj (a := c) (b := c') e1, ← enc_inj (a := a) (b := a') e2, ← enc_inj (a := b) (b := b') e3]
    exact h
  have n0 : Env K H0 (L2.start N_way_up vs) [some (.d (enc c)), some (.d (enc a)), some (.d (enc b)), none, none, none, none] := Env.start (N := N_way_up) r1
  generalize L2.start N_way_up vs = σ0 at n0
  have l0 : σ0.length = 7 := n0.1
  have g1 := g.len
  have g2 := g.wide
  have hN := threads_len c
  refine q_callN (d := .none) (v_callXL (a_cons (v_var rfl) a_nil) ⟨enc c, rfl, g.is, rfl⟩) n0 fun H1 e1 => ?_
  have n1 := n0.mono e1
  refine q_setLed (a_cons (v_var rfl) (a_cons (v_var rfl) (a_cons v_bl a_nil))) g ha n1 fun p H2 ps e2 hp dp led => ?_
  have E2 := e1.trans e2
  have n2 := (n1.mono e2).drop (x := some (V.ref p)) 3
  obtain ⟨v2, hv2, tv2⟩ := n2.2 2 _ rfl
  have s3 : (σ0.set 3 (some (V.ref p)))[3]? = some (some (.ref p)) := List.getElem?_set_self (by omega)
  generalize (σ0.set 3 (some (V.ref p))) = σ1 at n2 hv2 s3
  obtain ⟨lev, lv, nd, val⟩ := led
  have lps : ∀ t ∈ ks ps, lev t < ps.length ∧ t ∈ threads c := fun t ht => ⟨lev_lt lv t ht, lv.sub t ht⟩
  refine t_dnotin (x := b) nd hv2 tv2 s3 dp ?_
  by_cases hbk : b ∈ ks ps
  · rw [decide_eq_true hbk]
    refine q_empty fun l hl _ => ?_
    have l1 : σ1.length = 7 := n2.1
    refine q_setVar (v := v2) (by rw [List.getElem?_set_ne (by decide)]; exact hv2) ?_
    have w3 : (((σ1.set 4 (some (V.ref l))).set 5 (some v2)))[3]? = some (some (.ref p)) := by rw [List.getElem?_set_ne (by decide), List.getElem?_set_ne (by decide)]; exact s3
    have w4 : (((σ1.set 4 (some (V.ref l))).set 5 (some v2)))[4]? = some (some (.ref l)) := by rw [List.getElem?_set_ne (by decide)]; exact List.getElem?_set_self (by omega)
    have w5 : (((σ1.set 4 (some (V.ref l))).set 5 (some v2)))[5]? = some (some v2) := List.getElem?_set_self (by simp [l1])
    have ll : ((σ1.set 4 (some (V.ref l))).set 5 (some v2)).length = 7 := by simp [l1]
    generalize ((σ1.set 4 (some (V.ref l))).set 5 (some v2)) = σ2 at w3 w4 w5 ll
    refine s_while (fun m σ H => ∃ (fr : List Th) (cur : Option Th) (v : V), Buts [5] σ2 σ ∧ σ[5]? = some (some v) ∧ Tp H2 v (curD cur) ∧ Ex H2 H ∧ ThsAt H l fr ∧ m = (match cur with | some t => lev t + 1 | none => 0) ∧
      (∀ t ∈ fr, t ∈ threads c) ∧ Chain (fun x y => aboveB c x y) fr ∧ (fr ≠ [] → fr[0]? = some b) ∧
      (match cur with | some t => t ∈ ks ps ∧ lev t + fr.length = lev b ∧ (∀ x, fr.getLast? = some x → aboveB c x t = true) ∧ (fr = [] → t = b) | none => fr.length = lev b + 1 ∧ fr[lev b]? = some a))
      ⟨[], some b, v2, Buts.refl _ _, w5, tv2, Ex.new hl, ⟨[], upd_same, .nil⟩, rfl, (fun _ h => nomatch h), (fun i x y h => by simp at h), (fun h => absurd rfl h), hbk, rfl, (fun x h => by simp at h), fun _ => rfl⟩ fun m σ H w => ?_
    obtain ⟨fr, cur, v, bt, h5, tv, e, tf, rfl, sub, ch, fst, w⟩ := w
    have lσ : σ.length = 7 := by rw [bt.len]; exact ll
    have h3 : σ[3]? = some (some (.ref p)) := by rw [bt.at_ 3 (by decide)]; exact w3
    have h4 : σ[4]? = some (some (.ref l)) := by rw [bt.at_ 4 (by decide)]; exact w4
    have nz : Env K H σ [none, none, none, none, none, none, none] := ⟨lσ, fun i z h => by rcases i with _ | _ | _ | _ | _ | _ | _ | i <;> cases h⟩
    refine ⟨!isN (curD cur), t_test (v_notN (v_var rfl) v_non) _ _ (nz.add 5 (z := .d (curD cur)) h5 (Tp.mono e tv)), fun hf H' e' => ?_, fun hf H' D' e' rt' hn' => ?_⟩
    · cases cur with
      | some t => cases hf
      | none =>
        obtain ⟨w1, w2⟩ := w
        have tf' := tf.mono e'
        have lf : fr.length ≤ 1000 := by
          have h1 := lps b hbk
          have h2 := nodup_le (xs := ps.map (·.1)) nd lv.sub
          rw [List.length_map] at h2
          omega
        refine s_retN (d := enc ((List.range fr.length).map fun k => fr.getD (fr.length - 1 - k) default)) (VN.eq (n_rg (m := (fr.length : Int)) (fun k => fr.getD (fr.length - 1 - k) default) (v_len (xs := fr) (v_var rfl)) (by omega) (by omega) (by decide) fun k hk => VD.toT (VE.eq (v_ix (xs := fr) (v_var rfl) (v_sub (v_sub (v_len (xs := fr) (v_var rfl)) v_int) (v_var rfl)) (by omega) (by omega)) (by rw [show ((fr.length : Int) - 1 - (k : Int)).toNat = fr.length - 1 - k by omega]))) (by rw [Int.toNat_natCast])) ((nz.mono e').add 4 (z := .d (enc fr)) h4 tf'.tp) fun v H3 e3 w3 => q' _ ⟨ks ps, lev, lv, .inr ⟨hbk, _, rfl, way_rev w1 sub (fst fun h => by rw [h] at w1; simp at w1) w2 ch⟩⟩ v H3 (E2.trans (e.trans (e'.trans e3))) (w3.back (E2.trans (e.trans e')))
    · cases cur with
      | none => cases hf
      | some t =>
        obtain ⟨w1, w2, w3', w4'⟩ := w
        have tf' := tf.mono e'
        obtain ⟨vs, hvs, lvs, tf2, eT⟩ := tf'.push (v := v) (t := t) (Tp.mono (e.trans e') tv)
        refine ⟨.ref l, h4, .inl ⟨rfl, vs, SqL.of hvs⟩, v, h5, l, vs, v, rfl, rfl, hvs, sz_lt ?_, ?_⟩
        · have h1 := lps t w1
          have h1' := lps b hbk
          have h2 := nodup_le (xs := ps.map (·.1)) nd lv.sub
          rw [List.length_map] at h2
          omega
        · have E3 : Ex H2 (upd H' l (.lst (vs ++ [v]))) := Ex.mut (e.trans e') hl
          have dp3 := dp.mono E3
          obtain ⟨⟨t', d⟩, hm, rfl⟩ := List.mem_map.mp w1
          obtain ⟨u2, hg, hu2⟩ := dp.get_ex E3 nd tv hm
          have chain' : Chain (fun x y => aboveB c x y) (fr ++ [t']) := chain_snoc ch w3'
          have sub' : ∀ x ∈ fr ++ [t'], x ∈ threads c := fun x hx => by
            rcases List.mem_append.mp hx with hx | hx
            · exact sub x hx
            · rw [List.mem_singleton.mp hx]; exact (lps t' w1).2
          have fst' : (fr ++ [t'])[0]? = some b := by
            by_cases h : fr = []
            · have h' : t' = b := w4' h
              rw [h, h']; rfl
            · have hl : 0 < fr.length := List.length_pos_iff.mpr h
              rw [List.getElem?_append_left hl]; exact fst h
          refine ⟨.ref p, h3, v, h5, p, u2, rfl, hg, ?_⟩
          rcases val t' d hm with ⟨rfl, rfl⟩ | ⟨x, hx, rfl, hlk, hlev⟩
          · have := lv.start.2
            refine hn' 0 _ _ (by simp) ⟨fr ++ [t'], none, u2, bt.set _ (by decide), List.getElem?_set_self (by omega), hu2, E3, tf2, rfl, sub', chain', fun _ => fst', ?_, ?_⟩
            · simp at w2 ⊢; omega
            · simp at w2
              rw [List.getElem?_append_right (by omega), show lev b - fr.length = 0 by omega]; rfl
          · simp at w2
            refine hn' (lev x + 1) _ _ (by simp; omega) ⟨fr ++ [t'], some x, u2, bt.set _ (by decide), List.getElem?_set_self (by omega), hu2, E3, tf2, rfl, sub', chain', fun _ => fst', hx, by simp; omega, fun y hy => ?_, fun h => by simp at h⟩
            rw [List.getLast?_append] at hy
            simp at hy
            rw [← hy]
            exact hlk
  · rw [decide_eq_false hbk]
    exact q' .none ⟨ks ps, lev, lv, .inl ⟨hbk, rfl⟩⟩ .non H2 E2 ⟨[], .non, fun _ z => nomatch z⟩

/-! raised_threads -/
abbrev s_raised_threads : Stmt := topS 31
abbrev N_raised_threads : List Str := ["cloth", "threads", "above", "beneath", "thread"]
theorem sc_raised_threads : FnScope N_raised_threads ["cloth"] (defScope s_raised_threads) := ⟨rfl, rfl, rfl, by decide +kernel, rfl, by decide +kernel, by decide +kernel⟩

def A_raised_threads : List Ent → Prop := fun zs => ∃ (c : Cl), zs = [.d (enc c)] ∧ Good c
def P_raised_threads : List Ent → PyData → Prop := fun zs r => ∀ c : Cl, zs = [.d (enc c)] → Raised c r
theorem c_raised_threads (B : Blt mg) {aL aC aD aF aN : Addr} (XC_ : FitX K mg "NoCloth" "NoDraft" "NoFit" "NoNote" aL aC aD aF aN) (XD_ : FitX K mg "NoDraft" "NoCloth" "NoFit" "NoNote" aL aD aC aF aN) (XF_ : FitX K mg "NoFit" "NoCloth" "NoDraft" "NoNote" aL aF aC aD aN) (C_need_cloth : Cal P w K mg base (L2N.CX P w) 4 "need_cloth" ["thing"] (spX K R_need_cloth (noC 0 aC))) (C_threads_of : Cal P w K mg base CX0 1 "threads_of" ["cloth"] (spR K R_threads_of)) (C_led_on : Cal P w K mg base CX0 2 "led_on" ["cloth", "start", "up"] (spLed K)) (D_ : Dfn K mg "raised_threads" s_raised_threads ["cloth"]) : Cal P w K mg base (L2N.CX P w) 5 "raised_threads" ["cloth"] (spXP K A_raised_threads P_raised_threads (noC 0 aC)) := by
  refine cal_spX D_ sc_raised_threads (fun vs H Q E h => ?_) fun f cdv A outer s H0 vs Q E hr h => ⟨_, (pss_cons (ps_expr (pe_calX P w mg base C_need_cloth (hr.mono (by decide)) (L2N.takes_of rfl rfl rfl rfl) (by rfl) (pa_cons (pv 0) pa_nil)))
    (pss_cons (ps_set (i := 1) sc_raised_threads.nd rfl (.inl rfl) (pe_calK K P w mg base C_threads_of (hr.mono (by decide)) (by rfl) (pa_cons (pv 0) pa_nil)))
    (pss_cons (ps_set (i := 2) sc_raised_threads.nd rfl (.inr rfl) (pe_calK K P w mg base C_led_on (hr.mono (by decide)) (by rfl) (pa_cons (pv 0) (pa_cons (pe_ix (ix_seqK K) (pv 1) pe_int (fun _ _ => rfl)) (pa_cons pe_bl pa_nil)))))
    (pss_cons (ps_if (pt_cmpR op_lt (pe_callB call_len_dT (by rfl) B.len (by decide +kernel) (pa_cons (pv 2) pa_nil)) (pe_callB (call_lenK K) (by rfl) B.len (by decide +kernel) (pa_cons (pv 1) pa_nil)) (nomark _))
    (pss_one (ps_ret (pe_lc (own := [("thread", 4)]) (g := gName 4) rfl sc_raised_threads.nd (pi_listK K (pv 1)) (blkOk_by (N := N_raised_threads) (sc := defScope s_raised_threads) (by decide +kernel)) (fun _ _ _ _ _ => pg_name (i := 4) sc_raised_threads.nd rfl (Or.inl rfl)) (fun _ _ _ _ _ => (pts_one (pt_cmp (pc_din (hu_of hr) (pv 4) (pv 2))))) (fun _ _ _ _ _ => (pv 4)))))
    pss_nil)
    (pss_cons (ps_set (i := 3) sc_raised_threads.nd rfl (.inr rfl) (pe_calK K P w mg base C_led_on (hr.mono (by decide)) (by rfl) (pa_cons (pv 0) (pa_cons (pe_ix (ix_seqK K) (pv 1) pe_int (fun _ _ => rfl)) (pa_cons pe_bl pa_nil)))))
    (pss_cons (ps_if (pt_cmpR op_lt (pe_callB call_len_dT (by rfl) B.len (by decide +kernel) (pa_cons (pv 3) pa_nil)) (pe_callB (call_lenK K) (by rfl) B.len (by decide +kernel) (pa_cons (pv 1) pa_nil)) (nomark _))
    (pss_one (ps_ret (pe_lc (own := [("thread", 4)]) (g := gName 4) rfl sc_raised_threads.nd (pi_listK K (pv 1)) (blkOk_by (N := N_raised_threads) (sc := defScope s_raised_threads) (by decide +kernel)) (fun _ _ _ _ _ => pg_name (i := 4) sc_raised_threads.nd rfl (Or.inl rfl)) (fun _ _ _ _ _ => (pts_one (pt_cmp (pc_dnotin (hu_of hr) (pv 4) (pv 3))))) (fun _ _ _ _ _ => (pv 4)))))
    pss_nil)
    (pss_one (ps_ret pe_non)))))))), ?_⟩
  · obtain ⟨zs, r1, ⟨hA, _⟩ | ⟨C, ⟨d, rest, rfl, hl, _⟩, _⟩⟩ := h
    · obtain ⟨c, rfl, g⟩ := hA
      exact r1.len
    · rw [r1.len, List.length_cons, hl]; rfl
  obtain ⟨zs, r1, ⟨hA, q⟩ | ⟨C, ⟨d, rest, rfl, hl, hd, rfl⟩, k⟩⟩ := h
  rotate_left
  · exact q_badX (zs := [.d d]) (a_cons (v_var rfl) a_nil) (Env.start r1) ⟨d, [], rfl, rfl, hd, rfl⟩ k
  obtain ⟨c, rfl, g⟩ := hA
  have q' : ∀ r, Raised c r → ∀ v H', Ex H0 H' → New H0 H' v r → Q v H' := fun r h => q r fun c' e => by
    simp only [List.cons.injEq, Ent.d.injEq, and_true] at e
    rw [← enc_inj (a := c) (b := c') e]
    exact h
  have n0 := Env.start (N := N_raised_threads) r1
  have g1 := g.len
  have g2 := g.wide
  have hN := threads_len c
  obtain ⟨th0, thm⟩ := threads_head g
  have ok0 : (⟨true, 0⟩ : Th).ok c := threads_ok.mp thm
  refine q_callN (d := .none) (v_callXL (a_cons (v_var rfl) a_nil) ⟨enc c, rfl, g.is, rfl⟩) n0 fun H1 e1 => ?_
  have n1 := n0.mono e1
  refine q_setN (d := enc (threads c)) (n_call (a_cons (v_var rfl) a_nil) ⟨c, rfl, g, rfl⟩) n1 fun v1 H2 e2 w2 n2 => ?_
  refine q_setLed (s := ⟨true, 0⟩) (b := true) (a_cons (v_var rfl) (a_cons (VE.eq (v_ix (xs := threads c) (i := 0) (v_var rfl) v_int (by omega) (by omega)) (by rw [← th0]; rfl)) (a_cons v_bl a_nil))) g ok0 n2 fun p H3 ps e3 hp dp led => ?_
  have n3 := (n2.mono e3).set 2 (z := dicE ps) (v := .ref p) ⟨p, rfl, dp⟩
  obtain ⟨lev, lv, nd, val⟩ := led
  have E3 := e1.trans (e2.trans e3)
  have lps : (ks ps).length = ps.length := List.length_map ..
  refine t_test (v_lt (v_dlen (ps := ps) (v_var rfl)) (v_len (xs := threads c) (v_var rfl))) _ _ n3 _ fun H4 e4 => ?_
  have n4 := n3.mono e4
  rcases keys_less nd lv.sub with ⟨hl, hn⟩ | ⟨hl, hall⟩
  · rw [decide_eq_true (by omega)]
    refine s_retN (VN.eq (n_lcF (xs := threads c) (fun t => decide (t ∈ ks ps)) (fun t => t) (v_var rfl) (by omega) (by decide) (fun t ht => t_di nd (v_var rfl) (v_var rfl)) fun t ht _ => VD.toT (v_var rfl)) (by rw [List.map_id'])) n4 fun v H5 e5 w5 => q' _ (.inr ⟨_, rfl, rises_up g lv hn⟩) v H5 (E3.trans (e4.trans e5)) (w5.back (E3.trans e4))
  · rw [decide_eq_false (by omega)]
    refine q_setLed (s := ⟨true, 0⟩) (b := false) (a_cons (v_var rfl) (a_cons (VE.eq (v_ix (xs := threads c) (i := 0) (v_var rfl) v_int (by omega) (by omega)) (by rw [← th0]; rfl)) (a_cons v_bl a_nil))) g ok0 n4 fun p2 H5 ps2 e5 hp2 dp2 led2 => ?_
    have n5 := (n4.mono e5).set 3 (z := dicE ps2) (v := .ref p2) ⟨p2, rfl, dp2⟩
    obtain ⟨lev2, lv2, nd2, val2⟩ := led2
    have E5 := E3.trans (e4.trans e5)
    have lps2 : (ks ps2).length = ps2.length := List.length_map ..
    refine t_test (v_lt (v_dlen (ps := ps2) (v_var rfl)) (v_len (xs := threads c) (v_var rfl))) _ _ n5 _ fun H6 e6 => ?_
    have n6 := n5.mono e6
    rcases keys_less nd2 lv2.sub with ⟨hl2, hn2⟩ | ⟨hl2, hall2⟩
    · rw [decide_eq_true (by omega)]
      refine s_retN (VN.eq (n_lcF (xs := threads c) (fun t => !decide (t ∈ ks ps2)) (fun t => t) (v_var rfl) (by omega) (by decide) (fun t ht => t_dni nd2 (v_var rfl) (v_var rfl)) fun t ht _ => VD.toT (v_var rfl)) (by rw [List.map_id'])) n6 fun v H7 e7 w7 => q' _ (.inr ⟨_, rfl, rises_down g lv2 hn2⟩) v H7 (E5.trans (e6.trans e7)) (w7.back (E5.trans e6))
    · rw [decide_eq_false (by omega)]
      exact q' .none (.inl ⟨rfl, hangs_of lv lv2 hall hall2⟩) .non H6 (E5.trans e6) ⟨[], .non, fun _ z => nomatch z⟩

/-! shown_cloth -/
abbrev s_shown_cloth : Stmt := topS 33
abbrev N_shown_cloth : List Str := ["cloth", "row", "one"]
theorem sc_shown_cloth : FnScope N_shown_cloth ["cloth"] (defScope s_shown_cloth) := ⟨rfl, rfl, rfl, by decide +kernel, rfl, by decide +kernel, by decide +kernel⟩

def R_shown_cloth : List Ent → PyData → Prop := fun zs r => ∃ c : Cl, zs = [.d (enc c)] ∧ Good c ∧ r = .str (S (textL c))
theorem flat_line (row : List Int) : (row.map fun x => [sgn x]).flatten = lineL row := by
  unfold lineL
  induction row with
  | nil => rfl
  | cons a r ih => rw [List.map_cons, List.flatten_cons, ih]; rfl
theorem c_shown_cloth (B : Blt mg) {aL aC aD aF aN : Addr} (XC_ : FitX K mg "NoCloth" "NoDraft" "NoFit" "NoNote" aL aC aD aF aN) (XD_ : FitX K mg "NoDraft" "NoCloth" "NoFit" "NoNote" aL aD aC aF aN) (XF_ : FitX K mg "NoFit" "NoCloth" "NoDraft" "NoNote" aL aF aC aD aN) (C_need_cloth : Cal P w K mg base (L2N.CX P w) 4 "need_cloth" ["thing"] (spX K R_need_cloth (noC 0 aC))) (D_ : Dfn K mg "shown_cloth" s_shown_cloth ["cloth"]) : Cal P w K mg base (L2N.CX P w) 5 "shown_cloth" ["cloth"] (spX K R_shown_cloth (noC 0 aC)) := by
  refine cal_RX D_ sc_shown_cloth (fun zs r h => by obtain ⟨c, rfl, _⟩ := h; rfl) (fun zs C h => by obtain ⟨d, rest, rfl, hl, _⟩ := h; rw [List.length_cons, hl]; rfl) fun f cdv A outer s H E hr => ⟨_, (pss_cons (ps_expr (pe_calX P w mg base C_need_cloth (hr.mono (by decide)) (L2N.takes_of rfl rfl rfl rfl) (by rfl) (pa_cons (pv 0) pa_nil)))
    (pss_one (ps_ret (pe_bmK K PySem.F.plainAttrs_str PySem.F.slot_str_join PySem.F.type_str_join (mt_joinK K) pe_str (pa_cons (pe_lc (own := [("row", 1)]) (g := gName 1) (tt := tYes) rfl sc_shown_cloth.nd (pi_listK K (pv 0)) (blkOk_by (N := N_shown_cloth) (sc := defScope s_shown_cloth) (by decide +kernel)) (fun _ _ _ _ _ => pg_name (i := 1) sc_shown_cloth.nd rfl (Or.inl rfl)) (fun _ _ _ _ _ => pts_nil) (fun _ _ _ _ _ => (pe_bmK K PySem.F.plainAttrs_str PySem.F.slot_str_join PySem.F.type_str_join (mt_joinK K) pe_str (pa_cons (pe_lc (own := [("one", 2)]) (g := gName 2) (tt := tYes) rfl sc_shown_cloth.nd (pi_listK K (pv 1)) (blkOk_by (N := N_shown_cloth) (sc := relS ({ kind := PySem.ScopeKind.function, names := [(PySem.Str.ofString ".0", PySem.NameKind.local), (PySem.Str.ofString "row", PySem.NameKind.local)], isGenerator := false, isCoroutine := false, more := [] : PySem.Scope }) (defScope s_shown_cloth)) (by decide +kernel)) (fun _ _ _ _ _ => pg_name (i := 2) sc_shown_cloth.nd rfl (Or.inl rfl)) (fun _ _ _ _ _ => pts_nil) (fun _ _ _ _ _ => (pe_ix (ix_seqK K) pe_str (pv 2) (fun _ _ => rfl)))) pa_nil)))) pa_nil))))), ?good, ?bad⟩
  case bad =>
    intro zs C h D σ n k
    obtain ⟨d, rest, rfl, hl, hd, rfl⟩ := h
    exact q_badX (zs := [.d d]) (a_cons (v_var rfl) a_nil) n ⟨d, [], rfl, rfl, hd, rfl⟩ k
  rintro zs r ⟨c, rfl, g, rfl⟩
  have g1 := g.len
  have hsum := textL_len g
  have hj := joinL_len 10 (c.map lineL)
  rw [if_neg (fun h => by rw [List.map_eq_nil_iff] at h; rw [h] at g1; simp at g1)] at hj
  have hs2 : ((c.map lineL).map (·.length)).sum + (c.map lineL).length ≤ 5000 := by
    have : ((c.map lineL).map (·.length)).sum + (c.map lineL).length = ((c.map lineL).map fun p : List Nat => p.length + 1).sum := by
      generalize c.map lineL = ls
      induction ls with
      | nil => rfl
      | cons p ls ih => simp only [List.map_cons, List.sum_cons, List.length_cons]; omega
    unfold textL at hsum
    omega
  refine .inl (r_seq (r_drop (VN.toD (v_callXL (a_cons (v_var rfl) a_nil) ⟨enc c, rfl, g.is, rfl⟩))) (r_retP (v_join (c := 10) (ls := c.map lineL) (by decide +kernel) v_str (VE.eq (VN.toD (n_lcG (xs := c) (fun row => .str (S (lineL row))) (v_var rfl) (by omega) (by decide) fun row hrow => ?_)) (by rw [List.map_map]; rfl)) (by omega)) rfl))
  have hr := (g.row hrow).2
  refine VD.toN (VE.eq (v_joinE (ls := row.map fun x => [sgn x]) (by decide +kernel) v_str (VE.eq (VN.toD (n_lcG (xs := row) (fun x => .str (S [sgn x])) (v_var rfl) (by omega) (by decide) fun x hx => VD.toN (v_ixStr (n := sgn x) v_str (v_var rfl) (by decide +kernel) ?_) rfl)) (by rw [List.map_map]; rfl)) ?_) (by rw [flat_line])) rfl
  · rcases g.bits row hrow x hx with rfl | rfl <;> decide +kernel
  · have := sum_le (B := 1) (f := fun p : List Nat => p.length) (ls := row.map fun x => [sgn x]) fun p hp => by
      obtain ⟨x, _, rfl⟩ := List.mem_map.mp hp
      simp
    rw [List.length_map] at this
    omega

/-! need_fit -/
abbrev s_need_fit : Stmt := topS 35
abbrev N_need_fit : List Str := ["good"]
theorem sc_need_fit : FnScope N_need_fit ["good"] (defScope s_need_fit) := ⟨rfl, rfl, rfl, by decide +kernel, rfl, by decide +kernel, by decide +kernel⟩

def R_need_fit : List Ent → PyData → Prop := fun zs r => zs = [.d (.bool true)] ∧ r = .none
def S_need_fit (C : Addr) : List Ent → Addr → Prop := fun zs D => zs = [.d (.bool false)] ∧ D = C
theorem c_need_fit (B : Blt mg) {aL aC aD aF aN : Addr} (XC_ : FitX K mg "NoCloth" "NoDraft" "NoFit" "NoNote" aL aC aD aF aN) (XD_ : FitX K mg "NoDraft" "NoCloth" "NoFit" "NoNote" aL aD aC aF aN) (XF_ : FitX K mg "NoFit" "NoCloth" "NoDraft" "NoNote" aL aF aC aD aN) (D_ : Dfn K mg "need_fit" s_need_fit ["good"]) : Cal P w K mg base (L2N.CX P w) 1 "need_fit" ["good"] (spX K R_need_fit (S_need_fit aF)) := by
  refine cal_spX D_ sc_need_fit (fun vs H Q E h => ?_) (fun f cdv A outer s H vs Q E hr h => ⟨_, (pss_one (ps_if (pt_not (pt_val (pv 0)))
    (pss_one (L2N.ps_raise rfl (L2N.takes_of rfl rfl rfl rfl) (L2N.pmk_own PySem.F.excBase_ValueError XF_.ex XF_.g XF_.kp (raises_own XF_.sb XF_.ty) rfl)))
    pss_nil)), ?_⟩)
  · obtain ⟨zs, r1, h⟩ := h
    rcases h with ⟨r, ⟨rfl, _⟩, _⟩ | ⟨D, ⟨rfl, _⟩, _⟩ <;> exact r1.len
  · obtain ⟨zs, r1, h⟩ := h
    rcases h with ⟨r, ⟨rfl, rfl⟩, k⟩ | ⟨D, ⟨rfl, rfl⟩, k⟩
    · exact s_ifF (t_not (t_B (b := true) (v_var rfl))) rfl (Env.start r1) fun H' e => k .non H' e ⟨[], .non, fun _ z => nomatch z⟩
    · exact (t_not (t_B (b := false) (v_var rfl))) _ _ (Env.start r1) _ fun H' e => k H' e

/-! sewn_beside -/
abbrev s_sewn_beside : Stmt := topS 36
abbrev N_sewn_beside : List Str := ["one", "other", "at"]
theorem sc_sewn_beside : FnScope N_sewn_beside ["one", "other"] (defScope s_sewn_beside) := ⟨rfl, rfl, rfl, by decide +kernel, rfl, by decide +kernel, by decide +kernel⟩

def S_sewn_beside (C : Addr) : List Ent → Addr → Prop := fun zs D => ∃ d e : PyData, zs = [.d d, .d e] ∧ D = C ∧ (isCloth d = false ∨ (isCloth d = true ∧ isCloth e = false))
theorem c_sewn_beside (B : Blt mg) {aL aC aD aF aN : Addr} (XC_ : FitX K mg "NoCloth" "NoDraft" "NoFit" "NoNote" aL aC aD aF aN) (XD_ : FitX K mg "NoDraft" "NoCloth" "NoFit" "NoNote" aL aD aC aF aN) (XF_ : FitX K mg "NoFit" "NoCloth" "NoDraft" "NoNote" aL aF aC aD aN) (C_need_cloth : Cal P w K mg base (L2N.CX P w) 4 "need_cloth" ["thing"] (spX K R_need_cloth (noC 0 aC))) (C_need_fit : Cal P w K mg base (L2N.CX P w) 1 "need_fit" ["good"] (spX K R_need_fit (S_need_fit aF))) (D_ : Dfn K mg "sewn_beside" s_sewn_beside ["one", "other"]) : Cal P w K mg base (L2N.CX P w) 5 "sewn_beside" ["one", "other"] (spX K (fun _ _ => False) (S_sewn_beside aC)) := by
  refine cal_spX D_ sc_sewn_beside (fun vs H Q E h => ?_) (fun f cdv A outer s H vs Q E hr h => ⟨_, (pss_cons (ps_expr (pe_calX P w mg base C_need_cloth (hr.mono (by decide)) (L2N.takes_of rfl rfl rfl rfl) (by rfl) (pa_cons (pv 0) pa_nil)))
    (pss_cons (ps_expr (pe_calX P w mg base C_need_cloth (hr.mono (by decide)) (L2N.takes_of rfl rfl rfl rfl) (by rfl) (pa_cons (pv 1) pa_nil)))
    (pss_cons (ps_expr (pe_calX P w mg base C_need_fit (hr.mono (by decide)) (L2N.takes_of rfl rfl rfl rfl) (by rfl) (pa_cons (pe_and (pe_cmpR (op_eqDK K hr.units) (pe_callB (call_lenK K) (by rfl) B.len (by decide +kernel) (pa_cons (pv 0) pa_nil)) (pe_callB (call_lenK K) (by rfl) B.len (by decide +kernel) (pa_cons (pv 1) pa_nil)) (nomark _)) (pe_one (pe_cmpR op_le (pe_op op_add (pe_callB (call_lenK K) (by rfl) B.len (by decide +kernel) (pa_cons (pe_ix (ix_seqK K) (pv 0) pe_int (fun _ _ => rfl)) pa_nil)) (pe_callB (call_lenK K) (by rfl) B.len (by decide +kernel) (pa_cons (pe_ix (ix_seqK K) (pv 1) pe_int (fun _ _ => rfl)) pa_nil))) (pe_most rfl B.most) (nomark _)))) pa_nil)))
    (pss_one (ps_ret (pe_lc (own := [("at", 2)]) (g := gName 2) (tt := tYes) rfl sc_sewn_beside.nd (pi_range1 (by rfl) B.range (pa_cons (pe_callB (call_lenK K) (by rfl) B.len (by decide +kernel) (pa_cons (pv 0) pa_nil)) pa_nil)) (blkOk_by (N := N_sewn_beside) (sc := defScope s_sewn_beside) (by decide +kernel)) (fun _ _ _ _ _ => pg_name (i := 2) sc_sewn_beside.nd rfl (Or.inl rfl)) (fun _ _ _ _ _ => pts_nil) (fun _ _ _ _ _ => (pe_op op_cat (pe_ix (ix_seqK K) (pv 0) (pv 2) (fun _ _ => rfl)) (pe_ix (ix_seqK K) (pv 1) (pv 2) (fun _ _ => rfl)))))))))), ?_⟩)
  · obtain ⟨zs, r1, ⟨r, hF, _⟩ | ⟨C, ⟨d, e, rfl, _⟩, _⟩⟩ := h
    · exact hF.elim
    · exact r1.len
  · obtain ⟨zs, r1, ⟨r, hF, _⟩ | ⟨C, ⟨d, e, rfl, rfl, hh⟩, k⟩⟩ := h
    · exact hF.elim
    · have n0 := Env.start (N := N_sewn_beside) r1
      rcases hh with hd | ⟨hd, he⟩
      · exact q_badX (zs := [.d d]) (a_cons (v_var rfl) a_nil) n0 ⟨d, [], rfl, rfl, hd, rfl⟩ k
      · refine q_callN (d := .none) (v_callXL (zs := [.d d]) (a_cons (v_var rfl) a_nil) ⟨d, rfl, hd, rfl⟩) n0 fun H1 e1 => ?_
        exact q_badX (zs := [.d e]) (a_cons (v_var rfl) a_nil) (n0.mono e1) ⟨e, [], rfl, rfl, he, rfl⟩ fun H2 e2 => k H2 (e1.trans e2)

/-! sewn_behind -/
abbrev s_sewn_behind : Stmt := topS 37
abbrev N_sewn_behind : List Str := ["one", "other", "row"]
theorem sc_sewn_behind : FnScope N_sewn_behind ["one", "other"] (defScope s_sewn_behind) := ⟨rfl, rfl, rfl, by decide +kernel, rfl, by decide +kernel, by decide +kernel⟩

def S_sewn_behind (C : Addr) : List Ent → Addr → Prop := fun zs D => ∃ d e : PyData, zs = [.d d, .d e] ∧ D = C ∧ (isCloth d = false ∨ (isCloth d = true ∧ isCloth e = false))
theorem c_sewn_behind (B : Blt mg) {aL aC aD aF aN : Addr} (XC_ : FitX K mg "NoCloth" "NoDraft" "NoFit" "NoNote" aL aC aD aF aN) (XD_ : FitX K mg "NoDraft" "NoCloth" "NoFit" "NoNote" aL aD aC aF aN) (XF_ : FitX K mg "NoFit" "NoCloth" "NoDraft" "NoNote" aL aF aC aD aN) (C_need_cloth : Cal P w K mg base (L2N.CX P w) 4 "need_cloth" ["thing"] (spX K R_need_cloth (noC 0 aC))) (C_need_fit : Cal P w K mg base (L2N.CX P w) 1 "need_fit" ["good"] (spX K R_need_fit (S_need_fit aF))) (D_ : Dfn K mg "sewn_behind" s_sewn_behind ["one", "other"]) : Cal P w K mg base (L2N.CX P w) 5 "sewn_behind" ["one", "other"] (spX K (fun _ _ => False) (S_sewn_behind aC)) := by
  refine cal_spX D_ sc_sewn_behind (fun vs H Q E h => ?_) (fun f cdv A outer s H vs Q E hr h => ⟨_, (pss_cons (ps_expr (pe_calX P w mg base C_need_cloth (hr.mono (by decide)) (L2N.takes_of rfl rfl rfl rfl) (by rfl) (pa_cons (pv 0) pa_nil)))
    (pss_cons (ps_expr (pe_calX P w mg base C_need_cloth (hr.mono (by decide)) (L2N.takes_of rfl rfl rfl rfl) (by rfl) (pa_cons (pv 1) pa_nil)))
    (pss_cons (ps_expr (pe_calX P w mg base C_need_fit (hr.mono (by decide)) (L2N.takes_of rfl rfl rfl rfl) (by rfl) (pa_cons (pe_and (pe_cmpR (op_eqDK K hr.units) (pe_callB (call_lenK K) (by rfl) B.len (by decide +kernel) (pa_cons (pe_ix (ix_seqK K) (pv 0) pe_int (fun _ _ => rfl)) pa_nil)) (pe_callB (call_lenK K) (by rfl) B.len (by decide +kernel) (pa_cons (pe_ix (ix_seqK K) (pv 1) pe_int (fun _ _ => rfl)) pa_nil)) (nomark _)) (pe_one (pe_cmpR op_le (pe_op op_add (pe_callB (call_lenK K) (by rfl) B.len (by decide +kernel) (pa_cons (pv 0) pa_nil)) (pe_callB (call_lenK K) (by rfl) B.len (by decide +kernel) (pa_cons (pv 1) pa_nil))) (pe_most rfl B.most) (nomark _)))) pa_nil)))
    (pss_one (ps_ret (pe_lc (own := [("row", 2)]) (g := gName 2) (tt := tYes) rfl sc_sewn_behind.nd (pi_listK K (pe_op op_cat (pv 0) (pv 1))) (blkOk_by (N := N_sewn_behind) (sc := defScope s_sewn_behind) (by decide +kernel)) (fun _ _ _ _ _ => pg_name (i := 2) sc_sewn_behind.nd rfl (Or.inl rfl)) (fun _ _ _ _ _ => pts_nil) (fun _ _ _ _ _ => (pe_callTy (call_listK K) (by rfl) B.list (by decide +kernel) (pa_cons (pv 2) pa_nil))))))))), ?_⟩)
  · obtain ⟨zs, r1, ⟨r, hF, _⟩ | ⟨C, ⟨d, e, rfl, _⟩, _⟩⟩ := h
    · exact hF.elim
    · exact r1.len
  · obtain ⟨zs, r1, ⟨r, hF, _⟩ | ⟨C, ⟨d, e, rfl, rfl, hh⟩, k⟩⟩ := h
    · exact hF.elim
    · have n0 := Env.start (N := N_sewn_behind) r1
      rcases hh with hd | ⟨hd, he⟩
      · exact q_badX (zs := [.d d]) (a_cons (v_var rfl) a_nil) n0 ⟨d, [], rfl, rfl, hd, rfl⟩ k
      · refine q_callN (d := .none) (v_callXL (zs := [.d d]) (a_cons (v_var rfl) a_nil) ⟨d, rfl, hd, rfl⟩) n0 fun H1 e1 => ?_
        exact q_badX (zs := [.d e]) (a_cons (v_var rfl) a_nil) (n0.mono e1) ⟨e, [], rfl, rfl, he, rfl⟩ fun H2 e2 => k H2 (e1.trans e2)

/-! repeated_cloth -/
abbrev s_repeated_cloth : Stmt := topS 38
abbrev N_repeated_cloth : List Str := ["cloth", "down", "across", "row"]
theorem sc_repeated_cloth : FnScope N_repeated_cloth ["cloth", "down", "across"] (defScope s_repeated_cloth) := ⟨rfl, rfl, rfl, by decide +kernel, rfl, by decide +kernel, by decide +kernel⟩

def S_repeated_cloth (C F : Addr) : List Ent → Addr → Prop := fun zs D => ∃ d : PyData, zs = [.d d, .d (.int 70), .d (.int 1)] ∧ ((isCloth d = false ∧ D = C) ∨ ∃ c : Cl, Good c ∧ d = enc c ∧ D = F)
theorem c_repeated_cloth (B : Blt mg) {aL aC aD aF aN : Addr} (XC_ : FitX K mg "NoCloth" "NoDraft" "NoFit" "NoNote" aL aC aD aF aN) (XD_ : FitX K mg "NoDraft" "NoCloth" "NoFit" "NoNote" aL aD aC aF aN) (XF_ : FitX K mg "NoFit" "NoCloth" "NoDraft" "NoNote" aL aF aC aD aN) (C_need_cloth : Cal P w K mg base (L2N.CX P w) 4 "need_cloth" ["thing"] (spX K R_need_cloth (noC 0 aC))) (C_need_fit : Cal P w K mg base (L2N.CX P w) 1 "need_fit" ["good"] (spX K R_need_fit (S_need_fit aF))) (D_ : Dfn K mg "repeated_cloth" s_repeated_cloth ["cloth", "down", "across"]) : Cal P w K mg base (L2N.CX P w) 5 "repeated_cloth" ["cloth", "down", "across"] (spX K (fun _ _ => False) (S_repeated_cloth aC aF)) := by
  refine cal_spX D_ sc_repeated_cloth (fun vs H Q E h => ?_) (fun f cdv A outer s H vs Q E hr h => ⟨_, (pss_cons (ps_expr (pe_calX P w mg base C_need_cloth (hr.mono (by decide)) (L2N.takes_of rfl rfl rfl rfl) (by rfl) (pa_cons (pv 0) pa_nil)))
    (pss_cons (ps_expr (pe_calX P w mg base C_need_fit (hr.mono (by decide)) (L2N.takes_of rfl rfl rfl rfl) (by rfl) (pa_cons (pe_and (pe_cmpR op_le (pe_op op_mul (pe_callB (call_lenK K) (by rfl) B.len (by decide +kernel) (pa_cons (pv 0) pa_nil)) (pv 1)) (pe_most rfl B.most) (nomark _)) (pe_one (pe_cmpR op_le (pe_op op_mul (pe_callB (call_lenK K) (by rfl) B.len (by decide +kernel) (pa_cons (pe_ix (ix_seqK K) (pv 0) pe_int (fun _ _ => rfl)) pa_nil)) (pv 2)) (pe_most rfl B.most) (nomark _)))) pa_nil)))
    (pss_one (ps_ret (pe_lc (own := [("row", 3)]) (g := gName 3) (tt := tYes) rfl sc_repeated_cloth.nd (pi_listK K (pe_op op_rep (pv 0) (pv 1))) (blkOk_by (N := N_repeated_cloth) (sc := defScope s_repeated_cloth) (by decide +kernel)) (fun _ _ _ _ _ => pg_name (i := 3) sc_repeated_cloth.nd rfl (Or.inl rfl)) (fun _ _ _ _ _ => pts_nil) (fun _ _ _ _ _ => (pe_op op_rep (pv 3) (pv 2)))))))), ?_⟩)
  · obtain ⟨zs, r1, ⟨r, hF, _⟩ | ⟨C, ⟨d, rfl, _⟩, _⟩⟩ := h
    · exact hF.elim
    · exact r1.len
  · obtain ⟨zs, r1, ⟨r, hF, _⟩ | ⟨C, ⟨d, rfl, hh⟩, k⟩⟩ := h
    · exact hF.elim
    · have n0 := Env.start (N := N_repeated_cloth) r1
      rcases hh with ⟨hd, rfl⟩ | ⟨c, g, rfl, rfl⟩
      · exact q_badX (zs := [.d d]) (a_cons (v_var rfl) a_nil) n0 ⟨d, [], rfl, rfl, hd, rfl⟩ k
      · have g1 := g.len
        refine q_callN (d := .none) (v_callXL (zs := [.d (enc c)]) (a_cons (v_var rfl) a_nil) ⟨enc c, rfl, g.is, rfl⟩) n0 fun H1 e1 => ?_
        exact q_badX (zs := [.d (.bool false)]) (a_cons (VE.eq (v_and (b := false) (c := false) (VE.eq (v_le (v_mul (v_len (xs := c) (v_var rfl)) (v_var (z := .d (.int 70)) rfl) (.inr (by decide))) v_int) (by rw [decide_eq_false (by omega)])) fun z => nomatch z) rfl) a_nil) (n0.mono e1) ⟨rfl, rfl⟩ fun H2 e2 => k H2 (e1.trans e2)

/-! draft_beside -/
abbrev s_draft_beside : Stmt := topS 39
abbrev N_draft_beside : List Str := ["one", "other", "pairs", "treadling", "at", "pair", "ties", "row", "shaft"]
theorem sc_draft_beside : FnScope N_draft_beside ["one", "other"] (defScope s_draft_beside) := ⟨rfl, rfl, rfl, by decide +kernel, rfl, by decide +kernel, by decide +kernel⟩

def S_draft_beside (C : Addr) : List Ent → Addr → Prop := fun zs D => ∃ d e : PyData, zs = [.d d, .d e] ∧ D = C ∧ (isDraft d = false ∨ (isDraft d = true ∧ isDraft e = false))
theorem c_draft_beside (B : Blt mg) {aL aC aD aF aN : Addr} (XC_ : FitX K mg "NoCloth" "NoDraft" "NoFit" "NoNote" aL aC aD aF aN) (XD_ : FitX K mg "NoDraft" "NoCloth" "NoFit" "NoNote" aL aD aC aF aN) (XF_ : FitX K mg "NoFit" "NoCloth" "NoDraft" "NoNote" aL aF aC aD aN) (C_need_draft : Cal P w K mg base (L2N.CX P w) 5 "need_draft" ["thing"] (spX K R_need_draft (noD 0 aD))) (C_need_fit : Cal P w K mg base (L2N.CX P w) 1 "need_fit" ["good"] (spX K R_need_fit (S_need_fit aF))) (D_ : Dfn K mg "draft_beside" s_draft_beside ["one", "other"]) : Cal P w K mg base (L2N.CX P w) 6 "draft_beside" ["one", "other"] (spX K (fun _ _ => False) (S_draft_beside aD)) := by
  refine cal_spX D_ sc_draft_beside (fun vs H Q E h => ?_) (fun f cdv A outer s H vs Q E hr h => ⟨_, (pss_cons (ps_expr (pe_calX P w mg base C_need_draft (hr.mono (by decide)) (L2N.takes_of rfl rfl rfl rfl) (by rfl) (pa_cons (pv 0) pa_nil)))
    (pss_cons (ps_expr (pe_calX P w mg base C_need_draft (hr.mono (by decide)) (L2N.takes_of rfl rfl rfl rfl) (by rfl) (pa_cons (pv 1) pa_nil)))
    (pss_cons (ps_expr (pe_calX P w mg base C_need_fit (hr.mono (by decide)) (L2N.takes_of rfl rfl rfl rfl) (by rfl) (pa_cons (pe_and (pe_cmpR (op_eqDK K hr.units) (pe_callB (call_lenK K) (by rfl) B.len (by decide +kernel) (pa_cons (pe_ix (ix_seqK K) (pv 0) pe_int (fun _ _ => rfl)) pa_nil)) (pe_callB (call_lenK K) (by rfl) B.len (by decide +kernel) (pa_cons (pe_ix (ix_seqK K) (pv 1) pe_int (fun _ _ => rfl)) pa_nil)) (nomark _)) (pe_one (pe_cmpR op_le (pe_op op_add (pe_callB (call_lenK K) (by rfl) B.len (by decide +kernel) (pa_cons (pe_ix (ix_seqK K) (pv 0) pe_int (fun _ _ => rfl)) pa_nil)) (pe_callB (call_lenK K) (by rfl) B.len (by decide +kernel) (pa_cons (pe_ix (ix_seqK K) (pv 1) pe_int (fun _ _ => rfl)) pa_nil))) (pe_most rfl B.most) (nomark _)))) pa_nil)))
    (pss_cons (ps_set (i := 2) sc_draft_beside.nd rfl (.inr rfl) (pe_lst pa_nil))
    (pss_cons (ps_set (i := 3) sc_draft_beside.nd rfl (.inl rfl) (pe_lst pa_nil))
    (pss_cons (ps_for (passes_of rfl) rfl (pi_range1 (by rfl) B.range (pa_cons (pe_callB (call_lenK K) (by rfl) B.len (by decide +kernel) (pa_cons (pe_ix (ix_seqK K) (pv 0) pe_int (fun _ _ => rfl)) pa_nil)) pa_nil)) (pg_name (i := 4) sc_draft_beside.nd rfl (.inl rfl))
    (pss_cons (ps_set (i := 5) sc_draft_beside.nd rfl (.inl rfl) (pe_tup (pa_cons (pe_ix (ix_seqK K) (pe_ix (ix_seqK K) (pv 0) pe_int (fun _ _ => rfl)) (pv 4) (fun _ _ => rfl)) (pa_cons (pe_ix (ix_seqK K) (pe_ix (ix_seqK K) (pv 1) pe_int (fun _ _ => rfl)) (pv 4) (fun _ _ => rfl)) pa_nil))))
    (pss_cons (ps_if (pt_cmpR (op_niDK K (hu65 hr)) (pv 5) (pv 2) (by rfl))
    (pss_one (ps_expr (pe_bmK K PySem.F.plainAttrs_list PySem.F.slot_list_append PySem.F.type_list_append mt_append (pv 2) (pa_cons (pv 5) pa_nil))))
    pss_nil)
    (pss_one (ps_expr (pe_bmK K PySem.F.plainAttrs_list PySem.F.slot_list_append PySem.F.type_list_append mt_append (pv 3) (pa_cons (pe_bmK K PySem.F.plainAttrs_list PySem.F.slot_list_index PySem.F.type_list_index (mt_indexDK K (hu65 hr)) (pv 2) (pa_cons (pv 5) pa_nil)) pa_nil)))))))
    (pss_cons (ps_expr (pe_calX P w mg base C_need_fit (hr.mono (by decide)) (L2N.takes_of rfl rfl rfl rfl) (by rfl) (pa_cons (pe_and (pe_cmpR op_le (pe_callB (call_lenK K) (by rfl) B.len (by decide +kernel) (pa_cons (pv 2) pa_nil)) (pe_most rfl B.most) (nomark _)) (pe_one (pe_cmpR op_le (pe_op op_add (pe_callB (call_lenK K) (by rfl) B.len (by decide +kernel) (pa_cons (pe_ix (ix_seqK K) (pv 0) pe_int (fun _ _ => rfl)) pa_nil)) (pe_callB (call_lenK K) (by rfl) B.len (by decide +kernel) (pa_cons (pe_ix (ix_seqK K) (pv 1) pe_int (fun _ _ => rfl)) pa_nil))) (pe_most rfl B.most) (nomark _)))) pa_nil)))
    (pss_cons (ps_setLc (i := 6) (own := [("row", 7)]) (g := gName 7) (tt := tYes) rfl sc_draft_beside.nd rfl rfl (sw_true rfl rfl rfl (by decide +kernel)) (pi_listK K (pe_ix (ix_seqK K) (pv 0) pe_int (fun _ _ => rfl))) (blkOk_by (N := N_draft_beside) (sc := defScope s_draft_beside) (by decide +kernel)) (fun _ _ _ _ _ => pg_name (i := 7) sc_draft_beside.nd rfl (Or.inr rfl)) (fun _ _ _ _ _ => pts_nil) (fun _ _ _ _ _ => (pe_lc (own := [("pair", 5)]) (g := gName 5) (tt := tYes) rfl sc_draft_beside.nd (pi_listK K (pv 2)) (blkOk_by (N := N_draft_beside) (sc := relS ({ kind := PySem.ScopeKind.function, names := [ (PySem.Str.ofString ".0", PySem.NameKind.local), (PySem.Str.ofString "row", PySem.NameKind.cell), (PySem.Str.ofString "pairs", PySem.NameKind.free)], isGenerator := false, isCoroutine := false, more := [] : PySem.Scope }) (defScope s_draft_beside)) (by decide +kernel)) (fun _ _ _ _ _ => pg_name (i := 5) sc_draft_beside.nd rfl (Or.inl rfl)) (fun _ _ _ _ _ => pts_nil) (fun _ _ _ _ _ => (pe_ix (ix_seqK K) (pv 7) (pe_ix (ix_seqK K) (pv 5) pe_int (fun _ _ => rfl)) (fun _ _ => rfl))))))
    (pss_cons (ps_set (i := 6) sc_draft_beside.nd rfl (.inl rfl) (pe_op op_cat (pv 6) (pe_lc (own := [("row", 7)]) (g := gName 7) (tt := tYes) rfl sc_draft_beside.nd (pi_listK K (pe_ix (ix_seqK K) (pv 1) pe_int (fun _ _ => rfl))) (blkOk_by (N := N_draft_beside) (sc := defScope s_draft_beside) (by decide +kernel)) (fun _ _ _ _ _ => pg_name (i := 7) sc_draft_beside.nd rfl (Or.inr rfl)) (fun _ _ _ _ _ => pts_nil) (fun _ _ _ _ _ => (pe_lc (own := [("pair", 5)]) (g := gName 5) (tt := tYes) rfl sc_draft_beside.nd (pi_listK K (pv 2)) (blkOk_by (N := N_draft_beside) (sc := relS ({ kind := PySem.ScopeKind.function, names := [ (PySem.Str.ofString ".0", PySem.NameKind.local), (PySem.Str.ofString "row", PySem.NameKind.cell), (PySem.Str.ofString "pairs", PySem.NameKind.free)], isGenerator := false, isCoroutine := false, more := [] : PySem.Scope }) (defScope s_draft_beside)) (by decide +kernel)) (fun _ _ _ _ _ => pg_name (i := 5) sc_draft_beside.nd rfl (Or.inl rfl)) (fun _ _ _ _ _ => pts_nil) (fun _ _ _ _ _ => (pe_ix (ix_seqK K) (pv 7) (pe_ix (ix_seqK K) (pv 5) pe_int (fun _ _ => rfl)) (fun _ _ => rfl))))))))
    (pss_one (ps_ret (pe_tup (pa_cons (pe_op op_cat (pe_ix (ix_seqK K) (pv 0) pe_int (fun _ _ => rfl)) (pe_lc (own := [("shaft", 8)]) (g := gName 8) (tt := tYes) rfl sc_draft_beside.nd (pi_listK K (pe_ix (ix_seqK K) (pv 1) pe_int (fun _ _ => rfl))) (blkOk_by (N := N_draft_beside) (sc := defScope s_draft_beside) (by decide +kernel)) (fun _ _ _ _ _ => pg_name (i := 8) sc_draft_beside.nd rfl (Or.inl rfl)) (fun _ _ _ _ _ => pts_nil) (fun _ _ _ _ _ => (pe_op op_add (pv 8) (pe_callB (call_lenK K) (by rfl) B.len (by decide +kernel) (pa_cons (pe_ix (ix_seqK K) (pv 0) pe_int (fun _ _ => rfl)) pa_nil)))))) (pa_cons (pv 6) (pa_cons (pv 3) pa_nil))))))))))))))), ?_⟩)
  · obtain ⟨zs, r1, ⟨r, hF, _⟩ | ⟨C, ⟨d, e, rfl, _⟩, _⟩⟩ := h
    · exact hF.elim
    · exact r1.len
  · obtain ⟨zs, r1, ⟨r, hF, _⟩ | ⟨C, ⟨d, e, rfl, rfl, hh⟩, k⟩⟩ := h
    · exact hF.elim
    · have n0 := Env.start (N := N_draft_beside) r1
      rcases hh with hd | ⟨hd, he⟩
      · exact q_badX (zs := [.d d]) (a_cons (v_var rfl) a_nil) n0 ⟨d, [], rfl, rfl, hd, rfl⟩ k
      · refine q_callN (d := .none) (v_callXL (zs := [.d d]) (a_cons (v_var rfl) a_nil) ⟨d, rfl, hd, rfl⟩) n0 fun H1 e1 => ?_
        exact q_badX (zs := [.d e]) (a_cons (v_var rfl) a_nil) (n0.mono e1) ⟨e, [], rfl, rfl, he, rfl⟩ fun H2 e2 => k H2 (e1.trans e2)

/-! quarter_turned -/
abbrev s_quarter_turned : Stmt := topS 41
abbrev N_quarter_turned : List Str := ["cloth", "at", "one"]
theorem sc_quarter_turned : FnScope N_quarter_turned ["cloth"] (defScope s_quarter_turned) := ⟨rfl, rfl, rfl, by decide +kernel, rfl, by decide +kernel, by decide +kernel⟩

def R_quarter_turned : List Ent → PyData → Prop := fun zs r => ∃ (c : Cl), zs = [.d (enc c)] ∧ Good c ∧ r = enc (quarter c)
theorem c_quarter_turned (B : Blt mg) {aL aC aD aF aN : Addr} (XC_ : FitX K mg "NoCloth" "NoDraft" "NoFit" "NoNote" aL aC aD aF aN) (XD_ : FitX K mg "NoDraft" "NoCloth" "NoFit" "NoNote" aL aD aC aF aN) (XF_ : FitX K mg "NoFit" "NoCloth" "NoDraft" "NoNote" aL aF aC aD aN) (C_need_cloth : Cal P w K mg base (L2N.CX P w) 4 "need_cloth" ["thing"] (spX K R_need_cloth (noC 0 aC))) (C_warp_of : Cal P w K mg base CX0 1 "warp_of" ["cloth", "at"] (spR K R_warp_of)) (D_ : Dfn K mg "quarter_turned" s_quarter_turned ["cloth"]) : Cal P w K mg base (L2N.CX P w) 5 "quarter_turned" ["cloth"] (spX K R_quarter_turned (noC 0 aC)) := by
  refine cal_RX D_ sc_quarter_turned (fun zs r h => by obtain ⟨c, rfl, _⟩ := h; rfl) (fun zs C h => by obtain ⟨d, rest, rfl, hl, _⟩ := h; rw [List.length_cons, hl]; rfl) fun f cdv A outer s H E hr => ⟨_, (pss_cons (ps_expr (pe_calX P w mg base C_need_cloth (hr.mono (by decide)) (L2N.takes_of rfl rfl rfl rfl) (by rfl) (pa_cons (pv 0) pa_nil)))
    (pss_one (ps_ret (pe_lc (own := [("at", 1)]) (g := gName 1) (tt := tYes) rfl sc_quarter_turned.nd (pi_range1 (by rfl) B.range (pa_cons (pe_callB (call_lenK K) (by rfl) B.len (by decide +kernel) (pa_cons (pe_ix (ix_seqK K) (pv 0) pe_int (fun _ _ => rfl)) pa_nil)) pa_nil)) (blkOk_by (N := N_quarter_turned) (sc := defScope s_quarter_turned) (by decide +kernel)) (fun _ _ _ _ _ => pg_name (i := 1) sc_quarter_turned.nd rfl (Or.inl rfl)) (fun _ _ _ _ _ => pts_nil) (fun _ _ _ _ _ => (pe_lc (own := [("one", 2)]) (g := gName 2) (tt := tYes) rfl sc_quarter_turned.nd (pi_listK K (pe_calK K P w mg base C_warp_of (hr.mono (by decide)) (by rfl) (pa_cons (pv 0) (pa_cons (pv 1) pa_nil)))) (blkOk_by (N := N_quarter_turned) (sc := relS ({ kind := PySem.ScopeKind.function, names := [ (PySem.Str.ofString ".0", PySem.NameKind.local), (PySem.Str.ofString "at", PySem.NameKind.local), (PySem.Str.ofString "warp_of", PySem.NameKind.globalImplicit), (PySem.Str.ofString "cloth", PySem.NameKind.free)], isGenerator := false, isCoroutine := false, more := [] : PySem.Scope }) (defScope s_quarter_turned)) (by decide +kernel)) (fun _ _ _ _ _ => pg_name (i := 2) sc_quarter_turned.nd rfl (Or.inl rfl)) (fun _ _ _ _ _ => pts_nil) (fun _ _ _ _ _ => (pe_op op_sub pe_int (pv 2))))))))), ?good, ?bad⟩
  case bad =>
    intro zs C h D σ n k
    obtain ⟨d, rest, rfl, hl, hd, rfl⟩ := h
    exact q_badX (zs := [.d d]) (a_cons (v_var rfl) a_nil) n ⟨d, [], rfl, rfl, hd, rfl⟩ k
  rintro zs r ⟨c, rfl, g, rfl⟩
  have g1 := g.len
  have g2 := g.wide
  refine .inl (r_seq (r_drop (VN.toD (v_callXL (a_cons (v_var rfl) a_nil) ⟨_, rfl, g.is, rfl⟩))) (r_ret ?_))
  refine n_rg (m := ((c.getD 0 default).length : Int)) (fun k => (warpOf c k).map fun one => 1 - one) (v_len (v_ix (xs := c) (v_var rfl) v_int (by omega) (by omega))) (by omega) (by omega) (by decide) fun k hk => ?_
  exact n_lc (fun one : Int => 1 - one) (VN.toD (n_call (a_cons (v_var rfl) (a_cons (v_var rfl) a_nil)) ⟨c, k, rfl, (fun row hr => by rw [g.rows row hr]; omega), by omega, rfl⟩)) (by unfold warpOf; rw [List.length_map]; omega) (by decide) fun one _ => VD.toN (v_sub v_int (v_var rfl)) rfl

/-! turned_over -/
abbrev s_turned_over : Stmt := topS 42
abbrev N_turned_over : List Str := ["cloth", "row", "one"]
theorem sc_turned_over : FnScope N_turned_over ["cloth"] (defScope s_turned_over) := ⟨rfl, rfl, rfl, by decide +kernel, rfl, by decide +kernel, by decide +kernel⟩

def R_turned_over : List Ent → PyData → Prop := fun zs r => ∃ (c : Cl), zs = [.d (enc c)] ∧ Good c ∧ r = enc (over c)
theorem c_turned_over (B : Blt mg) {aL aC aD aF aN : Addr} (XC_ : FitX K mg "NoCloth" "NoDraft" "NoFit" "NoNote" aL aC aD aF aN) (XD_ : FitX K mg "NoDraft" "NoCloth" "NoFit" "NoNote" aL aD aC aF aN) (XF_ : FitX K mg "NoFit" "NoCloth" "NoDraft" "NoNote" aL aF aC aD aN) (C_need_cloth : Cal P w K mg base (L2N.CX P w) 4 "need_cloth" ["thing"] (spX K R_need_cloth (noC 0 aC))) (D_ : Dfn K mg "turned_over" s_turned_over ["cloth"]) : Cal P w K mg base (L2N.CX P w) 5 "turned_over" ["cloth"] (spX K R_turned_over (noC 0 aC)) := by
  refine cal_RX D_ sc_turned_over (fun zs r h => by obtain ⟨c, rfl, _⟩ := h; rfl) (fun zs C h => by obtain ⟨d, rest, rfl, hl, _⟩ := h; rw [List.length_cons, hl]; rfl) fun f cdv A outer s H E hr => ⟨_, (pss_cons (ps_expr (pe_calX P w mg base C_need_cloth (hr.mono (by decide)) (L2N.takes_of rfl rfl rfl rfl) (by rfl) (pa_cons (pv 0) pa_nil)))
    (pss_one (ps_ret (pe_lc (own := [("row", 1)]) (g := gName 1) (tt := tYes) rfl sc_turned_over.nd (pi_listK K (pv 0)) (blkOk_by (N := N_turned_over) (sc := defScope s_turned_over) (by decide +kernel)) (fun _ _ _ _ _ => pg_name (i := 1) sc_turned_over.nd rfl (Or.inl rfl)) (fun _ _ _ _ _ => pts_nil) (fun _ _ _ _ _ => (pe_lc (own := [("one", 2)]) (g := gName 2) (tt := tYes) rfl sc_turned_over.nd (pi_revK K (by rfl) B.reversed (pv 1)) (blkOk_by (N := N_turned_over) (sc := relS ({ kind := PySem.ScopeKind.function, names := [ (PySem.Str.ofString ".0", PySem.NameKind.local), (PySem.Str.ofString "row", PySem.NameKind.local), (PySem.Str.ofString "reversed", PySem.NameKind.globalImplicit)], isGenerator := false, isCoroutine := false, more := [] : PySem.Scope }) (defScope s_turned_over)) (by decide +kernel)) (fun _ _ _ _ _ => pg_name (i := 2) sc_turned_over.nd rfl (Or.inl rfl)) (fun _ _ _ _ _ => pts_nil) (fun _ _ _ _ _ => (pe_op op_sub pe_int (pv 2))))))))), ?good, ?bad⟩
  case bad =>
    intro zs C h D σ n k
    obtain ⟨d, rest, rfl, hl, hd, rfl⟩ := h
    exact q_badX (zs := [.d d]) (a_cons (v_var rfl) a_nil) n ⟨d, [], rfl, rfl, hd, rfl⟩ k
  rintro zs r ⟨c, rfl, g, rfl⟩
  have g1 := g.len
  have g2 := g.wide
  refine .inl (r_seq (r_drop (VN.toD (v_callXL (a_cons (v_var rfl) a_nil) ⟨_, rfl, g.is, rfl⟩))) (r_ret ?_))
  refine n_lc (fun row : List Int => row.reverse.map fun one => 1 - one) (v_var rfl) (by omega) (by decide) fun row hrow => ?_
  have := g.rows row hrow
  exact n_lcRv (fun one : Int => 1 - one) (v_var rfl) (by omega) (by decide) fun one _ => VD.toN (v_sub v_int (v_var rfl)) rfl

/-! draft_quartered -/
abbrev s_draft_quartered : Stmt := topS 43
abbrev N_draft_quartered : List Str := ["draft", "ties", "at", "one"]
theorem sc_draft_quartered : FnScope N_draft_quartered ["draft"] (defScope s_draft_quartered) := ⟨rfl, rfl, rfl, by decide +kernel, rfl, by decide +kernel, by decide +kernel⟩

def R_draft_quartered : List Ent → PyData → Prop := fun zs r => ∃ (d : Dr), zs = [.d (enc d)] ∧ GoodD d ∧ r = enc (dQuarter d)
theorem c_draft_quartered (B : Blt mg) {aL aC aD aF aN : Addr} (XC_ : FitX K mg "NoCloth" "NoDraft" "NoFit" "NoNote" aL aC aD aF aN) (XD_ : FitX K mg "NoDraft" "NoCloth" "NoFit" "NoNote" aL aD aC aF aN) (XF_ : FitX K mg "NoFit" "NoCloth" "NoDraft" "NoNote" aL aF aC aD aN) (C_need_draft : Cal P w K mg base (L2N.CX P w) 5 "need_draft" ["thing"] (spX K R_need_draft (noD 0 aD))) (C_warp_of : Cal P w K mg base CX0 1 "warp_of" ["cloth", "at"] (spR K R_warp_of)) (D_ : Dfn K mg "draft_quartered" s_draft_quartered ["draft"]) : Cal P w K mg base (L2N.CX P w) 6 "draft_quartered" ["draft"] (spX K R_draft_quartered (noD 0 aD)) := by
  refine cal_RX D_ sc_draft_quartered (fun zs r h => by obtain ⟨d, rfl, _⟩ := h; rfl) (fun zs C h => by obtain ⟨d, rest, rfl, hl, _⟩ := h; rw [List.length_cons, hl]; rfl) fun f cdv A outer s H E hr => ⟨_, (pss_cons (ps_expr (pe_calX P w mg base C_need_draft (hr.mono (by decide)) (L2N.takes_of rfl rfl rfl rfl) (by rfl) (pa_cons (pv 0) pa_nil)))
    (pss_cons (ps_setLc (i := 1) (own := [("at", 2)]) (g := gName 2) (tt := tYes) rfl sc_draft_quartered.nd rfl rfl (sw_true rfl rfl rfl (by decide +kernel)) (pi_range1 (by rfl) B.range (pa_cons (pe_callB (call_lenK K) (by rfl) B.len (by decide +kernel) (pa_cons (pe_ix (ix_seqK K) (pe_ix (ix_seqK K) (pv 0) pe_int (fun _ _ => rfl)) pe_int (fun _ _ => rfl)) pa_nil)) pa_nil)) (blkOk_by (N := N_draft_quartered) (sc := defScope s_draft_quartered) (by decide +kernel)) (fun _ _ _ _ _ => pg_name (i := 2) sc_draft_quartered.nd rfl (Or.inl rfl)) (fun _ _ _ _ _ => pts_nil) (fun _ _ _ _ _ => (pe_lc (own := [("one", 3)]) (g := gName 3) (tt := tYes) rfl sc_draft_quartered.nd (pi_listK K (pe_calK K P w mg base C_warp_of (hr.mono (by decide)) (by rfl) (pa_cons (pe_ix (ix_seqK K) (pv 0) pe_int (fun _ _ => rfl)) (pa_cons (pv 2) pa_nil)))) (blkOk_by (N := N_draft_quartered) (sc := relS ({ kind := PySem.ScopeKind.function, names := [ (PySem.Str.ofString ".0", PySem.NameKind.local), (PySem.Str.ofString "at", PySem.NameKind.local), (PySem.Str.ofString "warp_of", PySem.NameKind.globalImplicit), (PySem.Str.ofString "draft", PySem.NameKind.free)], isGenerator := false, isCoroutine := false, more := [] : PySem.Scope }) (defScope s_draft_quartered)) (by decide +kernel)) (fun _ _ _ _ _ => pg_name (i := 3) sc_draft_quartered.nd rfl (Or.inl rfl)) (fun _ _ _ _ _ => pts_nil) (fun _ _ _ _ _ => (pe_op op_sub pe_int (pv 3))))))
    (pss_one (ps_ret (pe_tup (pa_cons (pe_callTy (call_listK K) (by rfl) B.list (by decide +kernel) (pa_cons (pe_ix (ix_seqK K) (pv 0) pe_int (fun _ _ => rfl)) pa_nil)) (pa_cons (pv 1) (pa_cons (pe_callTy (call_listK K) (by rfl) B.list (by decide +kernel) (pa_cons (pe_ix (ix_seqK K) (pv 0) pe_int (fun _ _ => rfl)) pa_nil)) pa_nil)))))))), ?good, ?bad⟩
  case bad =>
    intro zs C h D σ n k
    obtain ⟨d, rest, rfl, hl, hd, rfl⟩ := h
    exact q_badX (zs := [.d d]) (a_cons (v_var rfl) a_nil) n ⟨d, [], rfl, rfl, hd, rfl⟩ k
  rintro zs r ⟨d, rfl, gd, rfl⟩
  have g1 := gd.ti.len
  have g2 := gd.ti.wide
  refine .inl (r_seq (r_drop (VN.toD (v_callXL (a_cons (v_var rfl) a_nil) ⟨_, rfl, gd.is, rfl⟩))) ?_)
  intro D σ H n q
  have l2 : σ.length = 4 := n.1
  refine q_setN (d := enc (quarter d.ti)) (n_rg (m := ((d.ti.getD 0 default).length : Int)) (fun k => (warpOf d.ti k).map fun one => 1 - one) (v_len (v_ix (xs := d.ti) (v_ti (d := d) (v_var rfl)) v_int (by omega) (by omega))) (by omega) (by omega) (by decide) fun k hk => n_lc (fun one : Int => 1 - one) (VN.toD (n_call (a_cons (v_ti (d := d) (v_var rfl)) (a_cons (v_var rfl) a_nil)) ⟨d.ti, k, rfl, (fun row hr => by rw [gd.ti.rows row hr]; omega), by omega, rfl⟩)) (by unfold warpOf; rw [List.length_map]; omega) (by decide) fun one _ => VD.toN (v_sub v_int (v_var rfl)) rfl) n fun v1 H1 e1 w1 n1 => ?_
  obtain ⟨F, o1, f1⟩ := w1
  exact s_ret_nvn (j := 1) (y := v1) (List.getElem?_set_self (by omega)) o1 f1 e1 n1 (n_list (v_tr (d := d) (v_var rfl))) (n_list (v_th (d := d) (v_var rfl))) fun v H3 e3 w => q v H3 (e1.trans e3) w

/-! draft_over -/
abbrev s_draft_over : Stmt := topS 44
abbrev N_draft_over : List Str := ["draft", "ties", "row", "one", "shaft"]
theorem sc_draft_over : FnScope N_draft_over ["draft"] (defScope s_draft_over) := ⟨rfl, rfl, rfl, by decide +kernel, rfl, by decide +kernel, by decide +kernel⟩

def R_draft_over : List Ent → PyData → Prop := fun zs r => ∃ (d : Dr), zs = [.d (enc d)] ∧ GoodD d ∧ r = enc (dOver d)
theorem c_draft_over (B : Blt mg) {aL aC aD aF aN : Addr} (XC_ : FitX K mg "NoCloth" "NoDraft" "NoFit" "NoNote" aL aC aD aF aN) (XD_ : FitX K mg "NoDraft" "NoCloth" "NoFit" "NoNote" aL aD aC aF aN) (XF_ : FitX K mg "NoFit" "NoCloth" "NoDraft" "NoNote" aL aF aC aD aN) (C_need_draft : Cal P w K mg base (L2N.CX P w) 5 "need_draft" ["thing"] (spX K R_need_draft (noD 0 aD))) (D_ : Dfn K mg "draft_over" s_draft_over ["draft"]) : Cal P w K mg base (L2N.CX P w) 6 "draft_over" ["draft"] (spX K R_draft_over (noD 0 aD)) := by
  refine cal_RX D_ sc_draft_over (fun zs r h => by obtain ⟨d, rfl, _⟩ := h; rfl) (fun zs C h => by obtain ⟨d, rest, rfl, hl, _⟩ := h; rw [List.length_cons, hl]; rfl) fun f cdv A outer s H E hr => ⟨_, (pss_cons (ps_expr (pe_calX P w mg base C_need_draft (hr.mono (by decide)) (L2N.takes_of rfl rfl rfl rfl) (by rfl) (pa_cons (pv 0) pa_nil)))
    (pss_cons (ps_setLc (i := 1) (own := [("row", 2)]) (g := gName 2) (tt := tYes) rfl sc_draft_over.nd rfl rfl (sw_true rfl rfl rfl (by decide +kernel)) (pi_listK K (pe_ix (ix_seqK K) (pv 0) pe_int (fun _ _ => rfl))) (blkOk_by (N := N_draft_over) (sc := defScope s_draft_over) (by decide +kernel)) (fun _ _ _ _ _ => pg_name (i := 2) sc_draft_over.nd rfl (Or.inl rfl)) (fun _ _ _ _ _ => pts_nil) (fun _ _ _ _ _ => (pe_lc (own := [("one", 3)]) (g := gName 3) (tt := tYes) rfl sc_draft_over.nd (pi_listK K (pv 2)) (blkOk_by (N := N_draft_over) (sc := relS ({ kind := PySem.ScopeKind.function, names := [(PySem.Str.ofString ".0", PySem.NameKind.local), (PySem.Str.ofString "row", PySem.NameKind.local)], isGenerator := false, isCoroutine := false, more := [] : PySem.Scope }) (defScope s_draft_over)) (by decide +kernel)) (fun _ _ _ _ _ => pg_name (i := 3) sc_draft_over.nd rfl (Or.inl rfl)) (fun _ _ _ _ _ => pts_nil) (fun _ _ _ _ _ => (pe_op op_sub pe_int (pv 3))))))
    (pss_one (ps_ret (pe_tup (pa_cons (pe_lc (own := [("shaft", 4)]) (g := gName 4) (tt := tYes) rfl sc_draft_over.nd (pi_revK K (by rfl) B.reversed (pe_ix (ix_seqK K) (pv 0) pe_int (fun _ _ => rfl))) (blkOk_by (N := N_draft_over) (sc := defScope s_draft_over) (by decide +kernel)) (fun _ _ _ _ _ => pg_name (i := 4) sc_draft_over.nd rfl (Or.inl rfl)) (fun _ _ _ _ _ => pts_nil) (fun _ _ _ _ _ => (pv 4))) (pa_cons (pv 1) (pa_cons (pe_callTy (call_listK K) (by rfl) B.list (by decide +kernel) (pa_cons (pe_ix (ix_seqK K) (pv 0) pe_int (fun _ _ => rfl)) pa_nil)) pa_nil)))))))), ?good, ?bad⟩
  case bad =>
    intro zs C h D σ n k
    obtain ⟨d, rest, rfl, hl, hd, rfl⟩ := h
    exact q_badX (zs := [.d d]) (a_cons (v_var rfl) a_nil) n ⟨d, [], rfl, rfl, hd, rfl⟩ k
  rintro zs r ⟨d, rfl, gd, rfl⟩
  have g1 := gd.ti.len
  have g2 := gd.th
  refine .inl (r_seq (r_drop (VN.toD (v_callXL (a_cons (v_var rfl) a_nil) ⟨_, rfl, gd.is, rfl⟩))) ?_)
  intro D σ H n q
  have l2 : σ.length = 5 := n.1
  refine q_setN (d := enc (dOver d).ti) (n_lc (xs := d.ti) (fun row : List Int => row.map fun one => 1 - one) (v_ti (d := d) (v_var rfl)) (by omega) (by decide) fun row hrow => n_lc (xs := row) (fun one : Int => 1 - one) (v_var rfl) (by have := gd.ti.row hrow; omega) (by decide) fun one _ => VD.toN (v_sub v_int (v_var rfl)) rfl) n fun v1 H1 e1 w1 n1 => ?_
  obtain ⟨F, o1, f1⟩ := w1
  exact s_ret_nvn (j := 1) (y := v1) (List.getElem?_set_self (by omega)) o1 f1 e1 n1 (VN.eq (n_lcRv (xs := d.th) (fun s : Int => s) (v_th (d := d) (v_var rfl)) (by omega) (by decide) fun s _ => VD.toN (v_var rfl) rfl) (by rw [List.map_id']; rfl)) (n_list (v_tr (d := d) (v_var rfl))) fun v H3 e3 w => q v H3 (e1.trans e3) w

/-! _law_cell_at -/
abbrev s__law_cell_at : Stmt := topS 46
abbrev N__law_cell_at : List Str := ["_law_script", "_law_k"]
theorem sc__law_cell_at : FnScope N__law_cell_at ["_law_script", "_law_k"] (defScope s__law_cell_at) := ⟨rfl, rfl, rfl, by decide +kernel, rfl, by decide +kernel, by decide +kernel⟩

def R__law_cell_at : List Ent → PyData → Prop := fun zs r => ∃ (ns : List Int) (k : Nat), zs = [.scr ns, .d (.int (k : Int))] ∧ r = .int (cellAt ns k)
theorem c__law_cell_at (B : Blt mg) (D_ : Dfn K mg "_law_cell_at" s__law_cell_at ["_law_script", "_law_k"]) : Cal P w K mg base CX0 1 "_law_cell_at" ["_law_script", "_law_k"] (spR K R__law_cell_at) := by
  refine cal_R D_ sc__law_cell_at (fun zs r h => by obtain ⟨ns, k, rfl, _⟩ := h; rfl) fun f cdv A outer s H E hr => ⟨_, (pss_cons (ps_if (pt_cmpR op_lt (pv 1) (pe_callB (call_lenK K) (by rfl) B.len (by decide +kernel) (pa_cons (pv 0) pa_nil)) (nomark _))
    (pss_one (ps_ret (pe_ix (ix_seqK K) (pv 0) (pv 1) (fun _ _ => rfl))))
    pss_nil)
    (pss_one (ps_ret pe_int))), ?_⟩
  rintro zs r ⟨ns, k, rfl, rfl⟩
  refine .inl ?_
  by_cases h : k < ns.length
  · exact r_seqR (r_if (b := true) (VT.eq (t_test (v_lt (v_var rfl) (v_lenScr (v_var rfl)))) (decide_eq_true (by omega))) (fun _ => r_ret (VD.toN (VE.eq (v_ixScr (v_var rfl) (v_var rfl) (by omega) (by omega)) (by rw [Int.toNat_natCast]; rfl)) rfl)) fun q => nomatch q)
  · refine r_seq (r_if (b := false) (VT.eq (t_test (v_lt (v_var rfl) (v_lenScr (v_var rfl)))) (decide_eq_false (by omega))) (fun q => nomatch q) fun _ => r_next) (r_ret (VD.toN (VE.eq v_int ?_) rfl))
    unfold cellAt
    rw [List.getD_eq_getElem?_getD, List.getElem?_eq_none (by omega)]
    rfl
theorem v_cell {ρ : Rho} {ta tb : TE} {E : XK} {ns : List Int} {i : Int} (j : Nat) (ha : VE K ta ρ (.scr ns)) (hb : VD K tb ρ (.int i)) (e : i = (j : Int)) : VD K (tCall (spR K R__law_cell_at) [] E (tCons ta (tCons tb tNil))) ρ (.int (cellAt ns j)) :=
  VN.toD (n_call (a_cons ha (a_cons hb a_nil)) ⟨ns, j, by rw [e], rfl⟩)

/-! _law_mixed -/
abbrev s__law_mixed : Stmt := topS 47
abbrev N__law_mixed : List Str := ["_law_cell", "_law_k", "_law_number"]
theorem sc__law_mixed : FnScope N__law_mixed ["_law_cell", "_law_k"] (defScope s__law_mixed) := ⟨rfl, rfl, rfl, by decide +kernel, rfl, by decide +kernel, by decide +kernel⟩

def R__law_mixed : List Ent → PyData → Prop := fun zs r => ∃ (c : Int) (k : Nat), zs = [.d (.int c), .d (.int (k : Int))] ∧ k ≤ 10000 ∧ r = .int (mixed c k)
theorem c__law_mixed (B : Blt mg) (D_ : Dfn K mg "_law_mixed" s__law_mixed ["_law_cell", "_law_k"]) : Cal P w K mg base CX0 1 "_law_mixed" ["_law_cell", "_law_k"] (spR K R__law_mixed) := by
  refine cal_R D_ sc__law_mixed (fun zs r h => by obtain ⟨ns, k, rfl, _⟩ := h; rfl) fun f cdv A outer s H E hr => ⟨_, (pss_cons (ps_set (i := 2) sc__law_mixed.nd rfl (.inl rfl) (pe_op op_mod (pe_op op_mul (pe_op op_add (pe_op op_mod (pv 0) pe_int) pe_int) pe_int) pe_int))
    (pss_cons (ps_set (i := 2) sc__law_mixed.nd rfl (.inl rfl) (pe_op op_mod (pe_op op_mul (pe_op op_add (pv 2) (pv 1)) (pe_op op_add (pe_op op_mul (pv 1) (pv 1)) pe_int)) pe_int))
    (pss_one (ps_ret (pe_op op_fdiv (pe_op op_mod (pe_op op_mul (pv 2) pe_int) pe_int) pe_int))))), ?_⟩
  rintro zs r ⟨c, k, rfl, hk, rfl⟩
  have hkk : (k : Int) * (k : Int) ≤ 10000 * 10000 := Int.mul_le_mul (by omega) (by omega) (by omega) (by omega)
  have hkk0 : 0 ≤ (k : Int) * (k : Int) := Int.mul_nonneg (by omega) (by omega)
  refine .inl (r_seq (r_set (v_mod (v_mul (v_add (v_mod (v_var rfl) v_int (by decide)) v_int) v_int (.inr ⟨by decide, by decide⟩)) v_int (by decide))) (r_seq (r_set (v_mod (v_mul (v_add (v_var rfl) (v_var rfl)) (v_add (v_mul (v_var rfl) (v_var rfl) ?_) v_int) ?_) v_int (by decide))) (r_ret (VD.toN (v_fdiv (v_mod (v_mul (v_var rfl) v_int (.inr ⟨by decide, by decide⟩)) v_int (by decide)) v_int ⟨by decide, by decide⟩) rfl))))
  · exact .inl ⟨by omega, by omega⟩
  · exact .inr ⟨by omega, by omega⟩
theorem v_mixed {ρ : Rho} {ta tb : TE} {E : XK} {c i : Int} (j : Nat) (ha : VD K ta ρ (.int c)) (hb : VD K tb ρ (.int i)) (e : i = (j : Int)) (hj : j ≤ 10000) : VD K (tCall (spR K R__law_mixed) [] E (tCons ta (tCons tb tNil))) ρ (.int (mixed c j)) :=
  VN.toD (n_call (a_cons ha (a_cons hb a_nil)) ⟨c, j, by rw [e], hj, rfl⟩)

/-! _law_draft_by -/
abbrev s__law_draft_by : Stmt := topS 48
abbrev N__law_draft_by : List Str := ["_law_script", "_law_at", "_law_shafts", "_law_treadles", "_law_warps", "_law_wefts", "_law_threading", "_law_treadling", "_law_ties", "_law_shaft", "_law_k"]
theorem sc__law_draft_by : FnScope N__law_draft_by ["_law_script", "_law_at"] (defScope s__law_draft_by) := ⟨rfl, rfl, rfl, by decide +kernel, rfl, by decide +kernel, by decide +kernel⟩

def R__law_draft_by : List Ent → PyData → Prop := fun zs r => ∃ (ns : List Int) (k : Nat), zs = [.scr ns, .d (.int (k : Int))] ∧ r = enc (draftBy ns k)
theorem c__law_draft_by (B : Blt mg) (C__law_cell_at : Cal P w K mg base CX0 1 "_law_cell_at" ["_law_script", "_law_k"] (spR K R__law_cell_at)) (C__law_mixed : Cal P w K mg base CX0 1 "_law_mixed" ["_law_cell", "_law_k"] (spR K R__law_mixed)) (D_ : Dfn K mg "_law_draft_by" s__law_draft_by ["_law_script", "_law_at"]) : Cal P w K mg base CX0 2 "_law_draft_by" ["_law_script", "_law_at"] (spR K R__law_draft_by) := by
  refine cal_R D_ sc__law_draft_by (fun zs r h => by obtain ⟨ns, k, rfl, _⟩ := h; rfl) fun f cdv A outer s H E hr => ⟨_, (pss_cons (ps_set (i := 2) sc__law_draft_by.nd rfl (.inr rfl) (pe_op op_add pe_int (pe_op op_mod (pe_calK K P w mg base C__law_cell_at (hr.mono (by decide)) (by rfl) (pa_cons (pv 0) (pa_cons (pv 1) pa_nil))) pe_int)))
    (pss_cons (ps_set (i := 3) sc__law_draft_by.nd rfl (.inr rfl) (pe_op op_add pe_int (pe_op op_mod (pe_calK K P w mg base C__law_cell_at (hr.mono (by decide)) (by rfl) (pa_cons (pv 0) (pa_cons (pe_op op_add (pv 1) pe_int) pa_nil))) pe_int)))
    (pss_cons (ps_set (i := 4) sc__law_draft_by.nd rfl (.inl rfl) (pe_op op_add pe_int (pe_op op_mod (pe_calK K P w mg base C__law_cell_at (hr.mono (by decide)) (by rfl) (pa_cons (pv 0) (pa_cons (pe_op op_add (pv 1) pe_int) pa_nil))) pe_int)))
    (pss_cons (ps_set (i := 5) sc__law_draft_by.nd rfl (.inl rfl) (pe_op op_add pe_int (pe_op op_mod (pe_calK K P w mg base C__law_cell_at (hr.mono (by decide)) (by rfl) (pa_cons (pv 0) (pa_cons (pe_op op_add (pv 1) pe_int) pa_nil))) pe_int)))
    (pss_cons (ps_if (pt_cmpR (op_eqDK K hr.units) (pe_op op_mod (pe_calK K P w mg base C__law_cell_at (hr.mono (by decide)) (by rfl) (pa_cons (pv 0) (pa_cons (pe_op op_add (pv 1) pe_int) pa_nil))) pe_int) pe_int (nomark _))
    (pss_cons (ps_set (i := 2) sc__law_draft_by.nd rfl (.inr rfl) (pe_op op_add pe_int (pe_op op_mod (pe_calK K P w mg base C__law_cell_at (hr.mono (by decide)) (by rfl) (pa_cons (pv 0) (pa_cons (pv 1) pa_nil))) pe_int)))
    (pss_one (ps_set (i := 4) sc__law_draft_by.nd rfl (.inl rfl) (pe_op op_sub pe_int (pe_op op_mod (pe_calK K P w mg base C__law_cell_at (hr.mono (by decide)) (by rfl) (pa_cons (pv 0) (pa_cons (pe_op op_add (pv 1) pe_int) pa_nil))) pe_int)))))
    pss_nil)
    (pss_cons (ps_if (pt_cmpR (op_eqDK K hr.units) (pe_op op_mod (pe_calK K P w mg base C__law_cell_at (hr.mono (by decide)) (by rfl) (pa_cons (pv 0) (pa_cons (pe_op op_add (pv 1) pe_int) pa_nil))) pe_int) pe_int (nomark _))
    (pss_cons (ps_set (i := 3) sc__law_draft_by.nd rfl (.inr rfl) (pe_op op_add pe_int (pe_op op_mod (pe_calK K P w mg base C__law_cell_at (hr.mono (by decide)) (by rfl) (pa_cons (pv 0) (pa_cons (pe_op op_add (pv 1) pe_int) pa_nil))) pe_int)))
    (pss_one (ps_set (i := 5) sc__law_draft_by.nd rfl (.inl rfl) (pe_op op_sub pe_int (pe_op op_mod (pe_calK K P w mg base C__law_cell_at (hr.mono (by decide)) (by rfl) (pa_cons (pv 0) (pa_cons (pe_op op_add (pv 1) pe_int) pa_nil))) pe_int)))))
    pss_nil)
    (pss_cons (ps_if (pt_cmpR (op_eqDK K hr.units) (pe_op op_mod (pe_calK K P w mg base C__law_cell_at (hr.mono (by decide)) (by rfl) (pa_cons (pv 0) (pa_cons (pe_op op_add (pv 1) pe_int) pa_nil))) pe_int) pe_int (nomark _))
    (pss_cons (ps_set (i := 4) sc__law_draft_by.nd rfl (.inl rfl) (pe_op op_add pe_int (pe_op op_mod (pe_calK K P w mg base C__law_cell_at (hr.mono (by decide)) (by rfl) (pa_cons (pv 0) (pa_cons (pe_op op_add (pv 1) pe_int) pa_nil))) pe_int)))
    (pss_one (ps_set (i := 5) sc__law_draft_by.nd rfl (.inl rfl) (pe_op op_add pe_int (pe_op op_mod (pe_calK K P w mg base C__law_cell_at (hr.mono (by decide)) (by rfl) (pa_cons (pv 0) (pa_cons (pe_op op_add (pv 1) pe_int) pa_nil))) pe_int)))))
    pss_nil)
    (pss_cons (ps_setLc (i := 6) (own := [("_law_k", 10)]) (g := gName 10) (tt := tYes) rfl sc__law_draft_by.nd rfl rfl (sw_true rfl rfl rfl (by decide +kernel)) (pi_range1 (by rfl) B.range (pa_cons (pv 4) pa_nil)) (blkOk_by (N := N__law_draft_by) (sc := defScope s__law_draft_by) (by decide +kernel)) (fun _ _ _ _ _ => pg_name (i := 10) sc__law_draft_by.nd rfl (Or.inl rfl)) (fun _ _ _ _ _ => pts_nil) (fun _ _ _ _ _ => (pe_op op_mod (pe_calK K P w mg base C__law_mixed (hr.mono (by decide)) (by rfl) (pa_cons (pe_calK K P w mg base C__law_cell_at (hr.mono (by decide)) (by rfl) (pa_cons (pv 0) (pa_cons (pe_op op_add (pv 1) pe_int) pa_nil))) (pa_cons (pv 10) pa_nil))) (pv 2))))
    (pss_cons (ps_setLc (i := 7) (own := [("_law_k", 10)]) (g := gName 10) (tt := tYes) rfl sc__law_draft_by.nd rfl rfl (sw_true rfl rfl rfl (by decide +kernel)) (pi_range1 (by rfl) B.range (pa_cons (pv 5) pa_nil)) (blkOk_by (N := N__law_draft_by) (sc := defScope s__law_draft_by) (by decide +kernel)) (fun _ _ _ _ _ => pg_name (i := 10) sc__law_draft_by.nd rfl (Or.inl rfl)) (fun _ _ _ _ _ => pts_nil) (fun _ _ _ _ _ => (pe_op op_mod (pe_calK K P w mg base C__law_mixed (hr.mono (by decide)) (by rfl) (pa_cons (pe_calK K P w mg base C__law_cell_at (hr.mono (by decide)) (by rfl) (pa_cons (pv 0) (pa_cons (pe_op op_add (pv 1) pe_int) pa_nil))) (pa_cons (pv 10) pa_nil))) (pv 3))))
    (pss_cons (ps_set (i := 8) sc__law_draft_by.nd rfl (.inl rfl) (pe_lst pa_nil))
    (pss_cons (ps_for PassesOwn.never rfl (pi_range1 (by rfl) B.range (pa_cons (pv 2) pa_nil)) (pg_name (i := 9) sc__law_draft_by.nd rfl (.inr rfl))
    (pss_one (ps_expr (pe_bmK K PySem.F.plainAttrs_list PySem.F.slot_list_append PySem.F.type_list_append mt_append (pv 8) (pa_cons (pe_lc (own := [("_law_k", 10)]) (g := gName 10) (tt := tYes) rfl sc__law_draft_by.nd (pi_range1 (by rfl) B.range (pa_cons (pv 3) pa_nil)) (blkOk_by (N := N__law_draft_by) (sc := defScope s__law_draft_by) (by decide +kernel)) (fun _ _ _ _ _ => pg_name (i := 10) sc__law_draft_by.nd rfl (Or.inl rfl)) (fun _ _ _ _ _ => pts_nil) (fun _ _ _ _ _ => (pe_op op_mod (pe_calK K P w mg base C__law_mixed (hr.mono (by decide)) (by rfl) (pa_cons (pe_calK K P w mg base C__law_cell_at (hr.mono (by decide)) (by rfl) (pa_cons (pv 0) (pa_cons (pe_op op_add (pv 1) pe_int) pa_nil))) (pa_cons (pe_op op_add (pe_op op_mul pe_int (pv 9)) (pv 10)) pa_nil))) pe_int))) pa_nil)))))
    (pss_one (ps_ret (pe_tup (pa_cons (pv 6) (pa_cons (pv 8) (pa_cons (pv 7) pa_nil))))))))))))))))), ?_⟩
  rintro zs r ⟨ns, k, rfl, rfl⟩
  have b1 := shafts_b ns k
  have b2 := treadles_b ns k
  have b3 := warps_b ns k
  have b4 := wefts_b ns k
  have c4 : ∀ {ρ : Rho} {E : XK}, ρ[0]? = some (some (.scr ns)) → ρ[1]? = some (some (.d (.int (k : Int)))) → VD K (tOp (rI (fun _ j => 0 < j) fun i j => .int (i % j)) (tCall (spR K R__law_cell_at) [] E (tCons (tVar 0) (tCons (tOp (rI0 fun i j => .int (i + j)) (tVar 1) (tC (.int 4))) tNil))) (tC (.int 8))) ρ (.int (cellAt ns (k + 4) % 8)) :=
    fun h0 h1 => v_mod (v_cell (k + 4) (v_var h0) (v_add (v_var h1) v_int) rfl) v_int (by decide)
  refine .inl ?_
  refine r_seq (r_set (v_add v_int (v_mod (v_cell k (v_var rfl) (v_var rfl) rfl) v_int (by decide)))) ?_
  refine r_seq (r_set (v_add v_int (v_mod (v_cell (k + 1) (v_var rfl) (v_add (v_var rfl) v_int) rfl) v_int (by decide)))) ?_
  refine r_seq (r_set (v_add v_int (v_mod (v_cell (k + 2) (v_var rfl) (v_add (v_var rfl) v_int) rfl) v_int (by decide)))) ?_
  refine r_seq (r_set (v_add v_int (v_mod (v_cell (k + 3) (v_var rfl) (v_add (v_var rfl) v_int) rfl) v_int (by decide)))) ?_
  refine r_seq (ρ' := [some (.scr ns), some (.d (.int (k : Int))), some (.d (.int (shaftsOf ns k))), some (.d (.int (1 + cellAt ns (k + 1) % 5))), some (.d (.int (if cellAt ns (k + 4) % 8 = 1 then 60 - cellAt ns (k + 2) % 31 else 1 + cellAt ns (k + 2) % 9))), some (.d (.int (1 + cellAt ns (k + 3) % 9))), none, none, none, none, none])
    (r_if (t_test (v_eqI (c4 rfl rfl) v_int)) (fun h => RD.eq (r_seq (r_set (v_add v_int (v_mod (v_cell k (v_var rfl) (v_var rfl) rfl) v_int (by decide)))) (r_set (v_sub v_int (v_mod (v_cell (k + 2) (v_var rfl) (v_add (v_var rfl) v_int) rfl) v_int (by decide))))) ?_) (fun h => RD.eq r_next ?_)) ?_
  · unfold shaftsOf; rw [if_pos (of_decide_eq_true h), if_pos (of_decide_eq_true h)] <;> rfl
  · unfold shaftsOf; rw [if_neg (of_decide_eq_false h), if_neg (of_decide_eq_false h)] <;> rfl
  refine r_seq (ρ' := [some (.scr ns), some (.d (.int (k : Int))), some (.d (.int (shaftsOf ns k))), some (.d (.int (treadlesOf ns k))), some (.d (.int (if cellAt ns (k + 4) % 8 = 1 then 60 - cellAt ns (k + 2) % 31 else 1 + cellAt ns (k + 2) % 9))), some (.d (.int (if cellAt ns (k + 4) % 8 = 2 then 60 - cellAt ns (k + 3) % 31 else 1 + cellAt ns (k + 3) % 9))), none, none, none, none, none])
    (r_if (t_test (v_eqI (c4 rfl rfl) v_int)) (fun h => RD.eq (r_seq (r_set (v_add v_int (v_mod (v_cell (k + 1) (v_var rfl) (v_add (v_var rfl) v_int) rfl) v_int (by decide)))) (r_set (v_sub v_int (v_mod (v_cell (k + 3) (v_var rfl) (v_add (v_var rfl) v_int) rfl) v_int (by decide))))) ?_) (fun h => RD.eq r_next ?_)) ?_
  · unfold treadlesOf; rw [if_pos (of_decide_eq_true h), if_pos (of_decide_eq_true h)] <;> rfl
  · unfold treadlesOf; rw [if_neg (of_decide_eq_false h), if_neg (of_decide_eq_false h)] <;> rfl
  refine r_seq (ρ' := [some (.scr ns), some (.d (.int (k : Int))), some (.d (.int (shaftsOf ns k))), some (.d (.int (treadlesOf ns k))), some (.d (.int (warpsOf ns k))), some (.d (.int (weftsOf ns k))), none, none, none, none, none])
    (r_if (t_test (v_eqI (c4 rfl rfl) v_int)) (fun h => RD.eq (r_seq (r_set (v_add v_int (v_mod (v_cell (k + 2) (v_var rfl) (v_add (v_var rfl) v_int) rfl) v_int (by decide)))) (r_set (v_add v_int (v_mod (v_cell (k + 3) (v_var rfl) (v_add (v_var rfl) v_int) rfl) v_int (by decide))))) ?_) (fun h => RD.eq r_next ?_)) ?_
  · unfold warpsOf weftsOf; rw [if_pos (of_decide_eq_true h), if_pos (of_decide_eq_true h)] <;> rfl
  · unfold warpsOf weftsOf; rw [if_neg (of_decide_eq_false h), if_neg (of_decide_eq_false h)] <;> rfl
  intro D σ H n q
  refine q_setN (n_rg (m := warpsOf ns k) (fun i => mixed (cellAt ns (k + 5)) i % shaftsOf ns k) (v_var rfl) (by omega) (by omega) (by decide) fun i hi => VD.toN (v_mod (v_mixed i (v_cell (k + 5) (v_var rfl) (v_add (v_var rfl) v_int) rfl) (v_var rfl) rfl (by omega)) (v_var rfl) (by omega)) rfl) n fun v6 H1 e1 w6 n1 => ?_
  refine q_setN (n_rg (m := weftsOf ns k) (fun i => mixed (cellAt ns (k + 6)) i % treadlesOf ns k) (v_var rfl) (by omega) (by omega) (by decide) fun i hi => VD.toN (v_mod (v_mixed i (v_cell (k + 6) (v_var rfl) (v_add (v_var rfl) v_int) rfl) (v_var rfl) rfl (by omega)) (v_var rfl) (by omega)) rfl) n1 fun v7 H2 e2 w7 n2 => ?_
  refine q_empty fun p hp g => ?_
  have l2 : σ.length = 11 := n.1
  refine q_growR (i := 8) (j := 9) (fun s => enc ((List.range (treadlesOf ns k).toNat).map fun i => mixed (cellAt ns (k + 7)) (61 * s + i) % 2)) (by decide) (v_var rfl) (by omega) (by simp) (by rw [List.getElem?_set_self (by simp [l2])]) g (n2.drop 8) (fun s hs => ?_) fun σ' H' bt g' => ?_
  · refine n_rg (m := treadlesOf ns k) (fun i => mixed (cellAt ns (k + 7)) (61 * s + i) % 2) (v_var rfl) (by omega) (by omega) (by decide) fun i hi => VD.toN (v_mod (v_mixed (61 * s + i) (v_cell (k + 7) (v_var rfl) (v_add (v_var rfl) v_int) rfl) (v_add (v_mul v_int (v_var rfl) (.inl ⟨by decide, by decide⟩)) (v_var rfl)) (by omega) (by omega)) v_int (by decide)) rfl
  · obtain ⟨F, G, L, o1, o2, o3, f1, f2, f3, d1, d2, d3⟩ := own3 e1 e2 g'.ex w6 w7 g'.new
    refine s_retTup3 (H0 := H) (i := 6) (j := 8) (l := 7) (x := v6) (y := .ref p) (w := v7) ?_ ?_ ?_ ⟨F ++ (L ++ (G ++ [])), .cons o1 (.cons o3 (.cons o2 .nil (fun _ _ z => nomatch z)) fun x hx hg => ?_) fun x hx hg => ?_, fun x hx => ?_⟩ fun v H2 e w => ?_
    · rw [bt.at_ 6 (by decide), List.getElem?_set_ne (by decide), List.getElem?_set_ne (by decide), List.getElem?_set_self (by simp [l2])]
    · rw [bt.at_ 8 (by decide), List.getElem?_set_self (by simp [l2])]
    · rw [bt.at_ 7 (by decide), List.getElem?_set_ne (by decide), List.getElem?_set_self (by simp [l2])]
    · rw [List.append_nil] at hg; exact d3 x hg hx
    · rw [List.append_nil] at hg
      rcases List.mem_append.mp hg with h | h
      · exact d2 x hx h
      · exact d1 x hx h
    · rw [List.append_nil] at hx
      rcases List.mem_append.mp hx with h | h
      · exact f1 x h
      · rcases List.mem_append.mp h with h | h
        · exact f3 x h
        · exact f2 x h
    · refine q v H2 (e1.trans (e2.trans (g'.ex.trans e))) ?_
      have e3 : PyData.list ([] ++ (List.range (shaftsOf ns k).toNat).map fun s => enc ((List.range (treadlesOf ns k).toNat).map fun i => mixed (cellAt ns (k + 7)) (61 * s + i) % 2)) = enc (draftBy ns k).ti := by
        rw [List.nil_append]
        show _ = PyData.list _
        unfold draftBy
        simp only [List.map_map]
        rfl
      rw [e3] at w
      exact w

/-! _law_woven -/
abbrev s__law_woven : Stmt := topS 49
abbrev N__law_woven : List Str := ["_law_draft", "_law_rows", "_law_treadle", "_law_row", "_law_shaft"]
theorem sc__law_woven : FnScope N__law_woven ["_law_draft"] (defScope s__law_woven) := ⟨rfl, rfl, rfl, by decide +kernel, rfl, by decide +kernel, by decide +kernel⟩

def R__law_woven : List Ent → PyData → Prop := fun zs r => ∃ (d : Dr), zs = [.d (enc d)] ∧ GoodD d ∧ r = enc (woven d)
theorem c__law_woven (B : Blt mg) (D_ : Dfn K mg "_law_woven" s__law_woven ["_law_draft"]) : Cal P w K mg base CX0 1 "_law_woven" ["_law_draft"] (spR K R__law_woven) := by
  refine cal_R D_ sc__law_woven (fun zs r h => by obtain ⟨d, rfl, _⟩ := h; rfl) fun f cdv A outer s H E hr => ⟨_, (pss_cons (ps_set (i := 1) sc__law_woven.nd rfl (.inl rfl) (pe_lst pa_nil))
    (pss_cons (ps_for PassesOwn.never rfl (pi_listK K (pe_ix (ix_seqK K) (pv 0) pe_int (fun _ _ => rfl))) (pg_name (i := 2) sc__law_woven.nd rfl (.inl rfl))
    (pss_cons (ps_set (i := 3) sc__law_woven.nd rfl (.inl rfl) (pe_lst pa_nil))
    (pss_cons (ps_for PassesOwn.never rfl (pi_listK K (pe_ix (ix_seqK K) (pv 0) pe_int (fun _ _ => rfl))) (pg_name (i := 4) sc__law_woven.nd rfl (.inl rfl))
    (pss_one (ps_expr (pe_bmK K PySem.F.plainAttrs_list PySem.F.slot_list_append PySem.F.type_list_append mt_append (pv 3) (pa_cons (pe_ix (ix_seqK K) (pe_ix (ix_seqK K) (pe_ix (ix_seqK K) (pv 0) pe_int (fun _ _ => rfl)) (pv 4) (fun _ _ => rfl)) (pv 2) (fun _ _ => rfl)) pa_nil)))))
    (pss_one (ps_expr (pe_bmK K PySem.F.plainAttrs_list PySem.F.slot_list_append PySem.F.type_list_append mt_append (pv 1) (pa_cons (pv 3) pa_nil)))))))
    (pss_one (ps_ret (pv 1))))), ?_⟩
  rintro zs r ⟨d, rfl, gd, rfl⟩
  have g1 := gd.th
  have g2 := gd.tr
  have g3 := gd.ti.len
  refine .inl fun D σ H n q => ?_
  have l2 : σ.length = 5 := n.1
  refine q_empty fun p hp g => ?_
  have hp1 : (σ.set 1 (some (V.ref p)))[1]? = some (some (V.ref p)) := List.getElem?_set_self (by omega)
  refine q_loopL (js := [2, 3, 4]) (fun t => .list (d.th.map fun s => .int ((d.ti.getD s.toNat default).getD ((match t with | .int i => i | _ => 0) : Int).toNat default))) (by decide) (s_ixT (ds := [enc d.th, enc d.ti, enc d.tr]) (s_var rfl) v_int rfl) g (n.drop 1) (fun x hx v pre σ' H' D' hpre bt g' tv n' rt hk => ?_) fun σ' H' bt g' => ?_
  · obtain ⟨t, ht, rfl⟩ := List.mem_map.mp hx
    have gt := gd.tl t ht
    rw [List.length_nil, List.length_map] at hpre
    have l3 : σ'.length = 5 := by rw [bt.len, List.length_set]; exact l2
    refine q_empty fun p3 hp3 g3' => ?_
    have n3 := n'.mono g'.ex
    refine q_growL (i := 3) (j := 4) (fun s => .int ((d.ti.getD ((match s with | .int i => i | _ => 0) : Int).toNat default).getD t.toNat default)) (by decide) (s_ixT (ds := [enc d.th, enc d.ti, enc d.tr]) (s_var rfl) v_int rfl) (by rw [List.length_map]; simp; omega) (by rw [List.getElem?_set_self (by simp [l3])]) g3' (n3.drop 3) (fun y hy => ?_) fun σ4 H4 b4 g4 => ?_
    · obtain ⟨s, hs, rfl⟩ := List.mem_map.mp hy
      have gs := gd.sh s hs
      have hrow := gd.ti.rows _ (gd.ti.at_ (k := s.toNat) (by omega))
      exact VD.toN (v_ix (xs := d.ti.getD s.toNat default) (v_ix (xs := d.ti) (v_ixT (ds := [enc d.th, enc d.ti, enc d.tr]) (v_var rfl) v_int rfl) (v_var rfl) (by omega) (by omega)) (v_var rfl) (by omega) (by omega)) rfl
    · refine s_pushV (i := 1) (l := 3) (v := .ref p3) ?_ ?_ g' g4.ex g4.new (by omega) fun H5 g5 => hk _ H5 ?_ ?_
      · rw [b4.at_ 1 (by decide), List.getElem?_set_ne (by decide), List.getElem?_set_ne (by decide), bt.at_ 1 (by decide)]; exact hp1
      · rw [b4.at_ 3 (by decide), List.getElem?_set_self (by simp [l3])]
      · exact ((bt.set _ (by decide)).set _ (by decide)).but b4 (by decide)
      · rw [List.nil_append, List.map_map] at g5
        exact g5
  · refine s_retVar (i := 1) (x := .ref p) (by rw [bt.at_ 1 (by decide)]; exact hp1) (q _ H' g'.ex ?_)
    have w := g'.new
    rw [List.nil_append, List.map_map] at w
    have e : enc (woven d) = PyData.list (List.map ((fun t => PyData.list (d.th.map fun s => .int ((d.ti.getD s.toNat default).getD ((match t with | .int i => i | _ => 0) : Int).toNat default))) ∘ enc) d.tr) := by
      show PyData.list _ = _
      unfold woven
      rw [List.map_map]
      congr 1
      apply List.map_congr_left
      intro t _
      show PyData.list _ = PyData.list _
      rw [List.map_map]
      rfl
    rw [e]
    exact w

/-! _law_copied -/
abbrev s__law_copied : Stmt := topS 50
abbrev N__law_copied : List Str := ["_law_cloth", "_law_row"]
theorem sc__law_copied : FnScope N__law_copied ["_law_cloth"] (defScope s__law_copied) := ⟨rfl, rfl, rfl, by decide +kernel, rfl, by decide +kernel, by decide +kernel⟩

def R__law_copied : List Ent → PyData → Prop := fun zs r => ∃ (c : Cl), zs = [.d (enc c)] ∧ c.length ≤ 1000 ∧ r = enc c
theorem c__law_copied (B : Blt mg) (D_ : Dfn K mg "_law_copied" s__law_copied ["_law_cloth"]) : Cal P w K mg base CX0 1 "_law_copied" ["_law_cloth"] (spR K R__law_copied) := by
  refine cal_R D_ sc__law_copied (fun zs r h => by obtain ⟨c, rfl, _⟩ := h; rfl) fun f cdv A outer s H E hr => ⟨_, (pss_one (ps_ret (pe_lc (own := [("_law_row", 1)]) (g := gName 1) (tt := tYes) rfl sc__law_copied.nd (pi_listK K (pv 0)) (blkOk_by (N := N__law_copied) (sc := defScope s__law_copied) (by decide +kernel)) (fun _ _ _ _ _ => pg_name (i := 1) sc__law_copied.nd rfl (Or.inl rfl)) (fun _ _ _ _ _ => pts_nil) (fun _ _ _ _ _ => (pe_callTy (call_listK K) (by rfl) B.list (by decide +kernel) (pa_cons (pv 1) pa_nil)))))), ?_⟩
  rintro zs r ⟨c, rfl, h, rfl⟩
  exact .inl (r_ret (VN.eq (n_lc (fun row : List Int => row) (v_var rfl) (by omega) (by decide) fun row _ => n_list (v_var rfl)) (by rw [List.map_id'])))

/-! _law_bad_cloth -/
abbrev s__law_bad_cloth : Stmt := topS 51
abbrev N__law_bad_cloth : List Str := ["_law_cloth", "_law_cell", "_law_rows", "_law_at", "_law_far", "_law_odd", "_law_row"]
theorem sc__law_bad_cloth : FnScope N__law_bad_cloth ["_law_cloth", "_law_cell"] (defScope s__law_bad_cloth) := ⟨rfl, rfl, rfl, by decide +kernel, rfl, by decide +kernel, by decide +kernel⟩

def A__law_bad_cloth : List Ent → Prop := fun zs => ∃ (c : Cl) (i : Int), zs = [.d (enc c), .d (.int i)] ∧ Good c
def P__law_bad_cloth : List Ent → PyData → Prop := fun _ r => isCloth r = false
def odd0 (i : Int) : PyData := if i % 2 = 0 then .int 2 else .bool false
def odds (i : Int) : List PyData := [odd0 i, .int (-1), .bool true, .str "1", .none, .list [.int 1], .int ((10 : Int) ^ (20 : Int).toNat)]
theorem odds_bad (i : Int) {k : Nat} (h : k < 7) : isNum ((odds i).getD k .none) 0 1 = false := by
  rcases k with _ | _ | _ | _ | _ | _ | _ | k
  · show isNum (odd0 i) 0 1 = false
    unfold odd0
    split <;> rfl
  · rfl
  · rfl
  · rfl
  · rfl
  · rfl
  · show isNum (.int ((10 : Int) ^ (20 : Int).toNat)) 0 1 = false
    decide +kernel
  · omega
theorem atI_getD {ds : List PyData} {k : Nat} (h : k < ds.length) : atI ds (k : Int) = some (ds.getD k .none) := by
  refine atI_nat ?_
  rw [List.getD_eq_getElem?_getD, List.getElem?_eq_getElem h]; rfl
theorem odds_noTup (i : Int) {k : Nat} (h : k < 7) : noTup ((odds i).getD k .none) = true := by
  rcases k with _ | _ | _ | _ | _ | _ | _ | k
  · show noTup (odd0 i) = true
    unfold odd0
    split <;> rfl
  all_goals first | rfl | omega
theorem c__law_bad_cloth (B : Blt mg) (C__law_copied : Cal P w K mg base CX0 1 "_law_copied" ["_law_cloth"] (spR K R__law_copied)) (D_ : Dfn K mg "_law_bad_cloth" s__law_bad_cloth ["_law_cloth", "_law_cell"]) : Cal P w K mg base CX0 2 "_law_bad_cloth" ["_law_cloth", "_law_cell"] (spF K A__law_bad_cloth P__law_bad_cloth) := by
  refine cal_sp D_ sc__law_bad_cloth (fun vs H Q E h => by obtain ⟨zs, h1, ⟨c, i, rfl, _⟩, _⟩ := h; exact h1.len) fun f cdv A outer s H vs Q E hr h => ⟨_, (pss_cons (ps_set (i := 2) sc__law_bad_cloth.nd rfl (.inl rfl) (pe_calK K P w mg base C__law_copied (hr.mono (by decide)) (by rfl) (pa_cons (pv 0) pa_nil)))
    (pss_cons (ps_set (i := 3) sc__law_bad_cloth.nd rfl (.inl rfl) (pe_op op_mod (pe_op op_fdiv (pv 1) pe_int) (pe_callB (call_lenK K) (by rfl) B.len (by decide +kernel) (pa_cons (pv 2) pa_nil))))
    (pss_cons (ps_set (i := 4) sc__law_bad_cloth.nd rfl (.inl rfl) (pe_op op_mod (pe_op op_fdiv (pv 1) pe_int) (pe_callB (call_lenK K) (by rfl) B.len (by decide +kernel) (pa_cons (pe_ix (ix_seqK K) (pv 2) pe_int (fun _ _ => rfl)) pa_nil))))
    (pss_cons (ps_set (i := 5) sc__law_bad_cloth.nd rfl (.inl rfl) (pe_lst (pa_cons (pe_ix (ix_seqK K) (pe_lst (pa_cons pe_int (pa_cons pe_bl pa_nil))) (pe_op op_mod (pe_op op_fdiv (pv 1) pe_int) pe_int) (fun _ _ => rfl)) (pa_cons (pe_un un_neg pe_int) (pa_cons pe_bl (pa_cons pe_str (pa_cons pe_non (pa_cons (pe_lst (pa_cons pe_int pa_nil)) (pa_cons (pe_op op_pow pe_int pe_int) pa_nil)))))))))
    (pss_cons (ps_if (pt_cmpR op_lt (pe_op op_mod (pv 1) pe_int) pe_int (nomark _))
    (pss_cons (ps_asg (pe_ix (ix_seqK K) (pv 5) (pe_op op_mod (pv 1) pe_int) (fun _ _ => rfl)) (pg_sub (pe_ix (ix_seqK K) (pv 2) (pv 3) (fun _ _ => rfl)) (pv 4) set_list))
    (pss_one (ps_ret (pv 2))))
    pss_nil)
    (pss_cut (ps_if (pt_cmpR (op_eqDK K hr.units) (pe_op op_mod (pv 1) pe_int) pe_int (nomark _))
    (pss_one (ps_asg (pe_callTy (call_tuple_ofK K) (by rfl) B.tuple (by decide +kernel) (pa_cons (pe_ix (ix_seqK K) (pv 2) (pv 3) (fun _ _ => rfl)) pa_nil)) (pg_sub (pv 2) (pv 3) set_list)))
    pss_nil)
    (pss_cons (ps_if (pt_cmpR (op_eqDK K hr.units) (pe_op op_mod (pv 1) pe_int) pe_int (nomark _))
    (pss_cons (ps_asg (pe_op op_cat (pe_ix (ix_seqK K) (pv 2) (pv 3) (fun _ _ => rfl)) (pe_lst (pa_cons pe_int pa_nil))) (pg_sub (pv 2) (pv 3) set_list))
    (pss_one (ps_ret (pe_ifExp (pt_cmpR op_gt (pe_callB (call_lenK K) (by rfl) B.len (by decide +kernel) (pa_cons (pv 2) pa_nil)) pe_int (nomark _)) (pv 2) (pe_op op_cat (pv 2) (pe_lst (pa_cons (pe_lst pa_nil) pa_nil)))))))
    pss_nil)
    (pss_cut (ps_if (pt_cmpR (op_eqDK K hr.units) (pe_op op_mod (pv 1) pe_int) pe_int (nomark _))
    (pss_one (ps_expr (pe_bmK K PySem.F.plainAttrs_list PySem.F.slot_list_insert PySem.F.type_list_insert mt_insert (pv 2) (pa_cons (pv 3) (pa_cons (pe_lst pa_nil) pa_nil)))))
    pss_nil)
    (pss_cut (ps_if (pt_cmpR (op_eqDK K hr.units) (pe_op op_mod (pv 1) pe_int) pe_int (nomark _))
    (pss_one (ps_expr (pe_bmK K PySem.F.plainAttrs_list PySem.F.slot_list_insert PySem.F.type_list_insert mt_insert (pv 2) (pa_cons (pv 3) (pa_cons pe_non pa_nil)))))
    pss_nil)
    (pss_cons (ps_if (pt_cmpR (op_eqDK K hr.units) (pe_op op_mod (pv 1) pe_int) pe_int (nomark _))
    (pss_one (ps_ret (pe_op op_rep (pe_lst (pa_cons (pe_ix (ix_seqK K) (pv 2) pe_int (fun _ _ => rfl)) pa_nil)) pe_int)))
    pss_nil)
    (pss_cons (ps_if (pt_cmpR (op_eqDK K hr.units) (pe_op op_mod (pv 1) pe_int) pe_int (nomark _))
    (pss_one (ps_ret (pe_lc (own := [("_law_row", 6)]) (g := gName 6) (tt := tYes) rfl sc__law_bad_cloth.nd (pi_listK K (pv 2)) (blkOk_by (N := N__law_bad_cloth) (sc := defScope s__law_bad_cloth) (by decide +kernel)) (fun _ _ _ _ _ => pg_name (i := 6) sc__law_bad_cloth.nd rfl (Or.inl rfl)) (fun _ _ _ _ _ => pts_nil) (fun _ _ _ _ _ => (pe_op op_rep (pe_lst (pa_cons pe_int pa_nil)) pe_int)))))
    pss_nil)
    (pss_one (ps_ret (pe_ifExp (pt_cmpR op_lt (pe_op op_mod (pv 1) pe_int) pe_int (nomark _)) (pv 2) (pe_ix (ix_seqK K) (pe_lst (pa_cons (pe_lst pa_nil) (pa_cons pe_non (pa_cons (pe_callTy (call_tuple_ofK K) (by rfl) B.tuple (by decide +kernel) (pa_cons (pv 2) pa_nil)) (pa_cons pe_str (pa_cons pe_int (pa_cons pe_dnewK pa_nil))))))) (pe_op op_mod (pe_op op_fdiv (pv 1) pe_int) pe_int) (fun _ _ => rfl)))))))))))))))), ?_⟩
  obtain ⟨zs, r1, ⟨c, cell, rfl, g⟩, q⟩ := h
  have q : ∀ r, isCloth r = false → ∀ v H', Ex H H' → Tp (newH H H') v r → Q v H' := q
  have g1 := g.len
  have g2 : 1 ≤ wd c ∧ wd c ≤ 60 := g.wide
  have n0 : Env K H (L2.start N__law_bad_cloth vs) [some (.d (enc c)), some (.d (.int cell)), none, none, none, none, none] := Env.start (N := N__law_bad_cloth) r1
  generalize L2.start N__law_bad_cloth vs = σ0 at n0
  obtain ⟨v1, hv1, tv1⟩ := n0.2 1 _ rfl
  cases Tp.int_inv (show Tp H v1 (.int cell) from tv1)
  have l0 : σ0.length = 7 := n0.1
  refine q_setN (d := enc c) (n_call (a_cons (v_var rfl) a_nil) ⟨c, rfl, by omega, rfl⟩) n0 fun v2 H1 e1 w1 n1 => ?_
  obtain ⟨p, F, rfl, C, hp0, hF0⟩ := w1.cat
  have m0 := Int.emod_nonneg (cell / 14) (show (c.length : Int) ≠ 0 by omega)
  have m1 := Int.emod_lt_of_pos (cell / 14) (show (0 : Int) < (c.length : Int) by omega)
  obtain ⟨a, ha⟩ := Int.eq_ofNat_of_zero_le m0
  have m2 := Int.emod_nonneg (cell / 14) (show (wd c : Int) ≠ 0 by omega)
  have m3 := Int.emod_lt_of_pos (cell / 14) (show (0 : Int) < (wd c : Int) by omega)
  obtain ⟨b, hb⟩ := Int.eq_ofNat_of_zero_le m2
  rw [ha] at m1
  rw [hb] at m3
  have ha' : a < c.length := by omega
  have hb' : b < wd c := by omega
  refine q_setV (z := .d (.int (a : Int))) (VE.eq (v_mod (v_fdiv (v_var rfl) v_int ⟨by decide, by decide⟩) (v_len (xs := c) (v_var rfl)) (by omega)) (by rw [ha])) n1 fun v3 H2 e2 r3 n2 => ?_
  cases Tp.int_inv r3
  refine q_setV (z := .d (.int (b : Int))) (VE.eq (v_mod (v_fdiv (v_var rfl) v_int ⟨by decide, by decide⟩) (v_len (xs := c.getD 0 default) (v_ix (xs := c) (i := 0) (v_var rfl) v_int (by omega) (by omega))) (by show (0 : Int) < (wd c : Int); omega)) (by show Ent.d (.int (cell / 14 % (wd c : Int))) = _; rw [hb])) n2 fun v4 H3 e3 r4 n3 => ?_
  cases Tp.int_inv r4
  refine q_setN (d := .list (odds (cell / 14))) (n_lst (ds := odds (cell / 14)) (an_cons (VD.toN (v_ixL (d := odd0 (cell / 14)) (ds := [.int 2, .bool false]) (v_lst (ds := [.int 2, .bool false]) (a_cons v_int (a_cons v_bl a_nil)) (by decide)) (v_mod (v_fdiv (v_var rfl) v_int ⟨by decide, by decide⟩) v_int (by decide)) ?_) ?_) (an_cons (VD.toN (v_neg v_int) rfl) (an_cons (VD.toN v_bl rfl) (an_cons (VD.toN v_str rfl) (an_cons (VD.toN v_non rfl) (an_cons (n_lst (ds := [.int 1]) (an_cons (VD.toN v_int rfl) an_nil) (by decide)) (an_cons (VD.toN (v_pow v_int v_int ⟨by decide, by decide, by decide⟩) rfl) an_nil))))))) (show 7 ≤ 100000 by decide)) n3 fun v5 H4 e4 w5 n4 => ?_
  · unfold odd0
    by_cases h : cell / 14 % 2 = 0
    · rw [if_pos h, h]; rfl
    · rw [if_neg h, show cell / 14 % 2 = 1 by omega]; rfl
  · unfold odd0; split <;> rfl
  have s1 : ((((σ0.set 2 (some (V.ref p))).set 3 (some (V.int (a : Int)))).set 4 (some (V.int (b : Int)))).set 5 (some v5))[1]? = some (some (.int cell)) := by rw [List.getElem?_set_ne (by decide), List.getElem?_set_ne (by decide), List.getElem?_set_ne (by decide), List.getElem?_set_ne (by decide)]; exact hv1
  have s2 : ((((σ0.set 2 (some (V.ref p))).set 3 (some (V.int (a : Int)))).set 4 (some (V.int (b : Int)))).set 5 (some v5))[2]? = some (some (.ref p)) := by rw [List.getElem?_set_ne (by decide), List.getElem?_set_ne (by decide), List.getElem?_set_ne (by decide)]; exact List.getElem?_set_self (by omega)
  have s3 : ((((σ0.set 2 (some (V.ref p))).set 3 (some (V.int (a : Int)))).set 4 (some (V.int (b : Int)))).set 5 (some v5))[3]? = some (some (.int (a : Int))) := by rw [List.getElem?_set_ne (by decide), List.getElem?_set_ne (by decide)]; exact List.getElem?_set_self (by simp [l0])
  have s4 : ((((σ0.set 2 (some (V.ref p))).set 3 (some (V.int (a : Int)))).set 4 (some (V.int (b : Int)))).set 5 (some v5))[4]? = some (some (.int (b : Int))) := by rw [List.getElem?_set_ne (by decide)]; exact List.getElem?_set_self (by simp [l0])
  have s5 : ((((σ0.set 2 (some (V.ref p))).set 3 (some (V.int (a : Int)))).set 4 (some (V.int (b : Int)))).set 5 (some v5))[5]? = some (some v5) := List.getElem?_set_self (by simp [l0])
  have l4 : ((((σ0.set 2 (some (V.ref p))).set 3 (some (V.int (a : Int)))).set 4 (some (V.int (b : Int)))).set 5 (some v5)).length = 7 := by simp [l0]
  generalize ((((σ0.set 2 (some (V.ref p))).set 3 (some (V.int (a : Int)))).set 4 (some (V.int (b : Int)))).set 5 (some v5)) = σ4 at s1 s2 s3 s4 s5 l4
  clear n0 n1 n2 n3 n4
  have C3 := C.mono (e2.trans e3)
  have C4 := C3.mono e4
  have E4 : Ex H H4 := e1.trans (e2.trans (e3.trans e4))
  have nI : ∀ H', Ex H H' → Env K H' σ4 [none, some (.d (.int cell)), none, some (.d (.int (a : Int))), some (.d (.int (b : Int))), some (baseE H), none] := fun H' hE => by
    have nz : Env K H' σ4 [none, none, none, none, none, none, none] := ⟨l4, fun i z h => by rcases i with _ | _ | _ | _ | _ | _ | _ | i <;> cases h⟩
    exact (((nz.add 1 (z := .d (.int cell)) s1 (.int _)).add 3 (z := .d (.int (a : Int))) s3 (.int _)).add 4 (z := .d (.int (b : Int))) s4 (.int _)).add 5 (z := baseE H) s5 hE
  have k0 := Int.emod_nonneg cell (show (14 : Int) ≠ 0 by decide)
  have k1 := Int.emod_lt_of_pos cell (show (0 : Int) < 14 by decide)
  obtain ⟨κ, hκ⟩ := Int.eq_ofNat_of_zero_le k0
  rw [hκ] at k1
  have tm : ∀ {ρ : Rho}, ρ[1]? = some (some (.d (.int cell))) → VD K (tOp (rI (fun _ j => 0 < j) fun i j => .int (i % j)) (tVar 1) (tC (.int 14))) ρ (.int (κ : Int)) := fun h => VE.eq (v_mod (v_var h) v_int (by decide)) (by rw [hκ])
  have tq : ∀ {ρ : Rho} (k : Int), ρ[1]? = some (some (.d (.int cell))) → VT K (tTest (tOp (rEqD K) (tOp (rI (fun _ j => 0 < j) fun i j => .int (i % j)) (tVar 1) (tC (.int 14))) (tC (.int k)))) ρ (decide ((κ : Int) = k)) := fun k h => t_test (v_eqI (tm h) v_int)
  obtain ⟨r, hFr, hrF, hrow, hat⟩ := C4.row ha'
  have rl : (c.getD a default).length = wd c := g.rows _ (g.at_ ha')
  have hrow3 : ∃ o, H3 r = some o := ⟨_, C3.rows.at_ a r (c.getD a default) hFr (by rw [List.getD_eq_getElem?_getD, List.getElem?_eq_getElem ha']; rfl)⟩
  -- up to 6: a cell
  by_cases h7 : κ < 7
  · have n5 : Env K H4 σ4 [none, some (.d (.int cell)), none, some (.d (.int (a : Int))), some (.d (.int (b : Int))), some (newE H3 (.list (odds (cell / 14)))), none] := (nI H4 E4).add 5 (z := newE H3 (.list (odds (cell / 14)))) s5 w5
    refine q_ifR (t_test (v_lt (tm rfl) v_int)) (decide_eq_true (by omega)) n5 fun H5 e5 => ?_
    have C5 := C4.mono e5
    refine q_setD (p := r) (k := b) (xs := (c.getD a default).map V.int) (v_ixNew (d := (odds (cell / 14)).getD κ .none) (v_var rfl) (tm rfl) (atI_getD (by show κ < 7; exact h7))) (n5.mono e5) (fun H' e => val_ixL (val_var s2) (val_var s3) (C5.mono e).lst hat) (fun H' e => val_var s4) (e5 _ _ hrow) (by rw [List.length_map, rl]; exact hb') fun v H6 e6 w6 => ?_
    have C6 := C5.mono e6
    refine s_retVar s2 (q (.list ((c.map enc).set a (.list (((c.getD a default).map enc).set b ((odds (cell / 14)).getD κ .none))))) ?_ _ _ ?_ (by rw [newH_upd (hF0 r hrF)]; exact cat_setCell (cat_newH C6 hp0 hF0) hFr ha' (new_newH w6 (e1.trans (e2.trans e3)) (odds_noTup _ h7)) hrow3))
    · refine isCloth_row (mem_set_self (by rw [List.length_map]; exact ha') _) (isRow_num (mem_set_self (by rw [List.length_map, rl]; exact hb') _) (odds_bad _ h7))
    · exact Ex.mut (E4.trans (e5.trans e6)) (hF0 r hrF)
  refine q_ifF (t_test (v_lt (tm rfl) v_int)) (decide_eq_false (by omega)) (nI H4 E4) fun H5 e5 => ?_
  have C5 := C4.mono e5
  have E5 := E4.trans e5
  have hrow5 := e5 _ _ hrow
  -- 7: a tuple for a row
  refine ⟨fun σ' H' => σ4 = σ' ∧ Ex H H' ∧ ((κ = 7 ∧ ∃ ds, Tp (newH H H') (.ref p) (.list ds) ∧ isCloth (.list ds) = false) ∨ (κ ≠ 7 ∧ CAt H' p F c)), ?_, ?_⟩
  · by_cases h : κ = 7
    · refine s_ifYes (tq 7 rfl) (decide_eq_true (by omega)) (nI H5 E5) fun H6 e6 => ?_
      have C6 := C5.mono e6
      have n6 := (nI H6 (E5.trans e6)).add 2 (z := .d (enc c)) s2 C6.tp
      refine s_setTup (B := H) (p := p) (k := a) (xs := F.map V.ref) (ds := (c.getD a default).map enc) (VE.eq (v_ix (xs := c) (i := (a : Int)) (v_var rfl) (v_var rfl) (by omega) (by omega)) (by rw [Int.toNat_natCast]; rfl)) plain_ints n6 (fun H' e => val_var s2) (fun H' e => val_var s3) C6.lst (by rw [List.length_map, C6.rows.len]; exact ha') (E5.trans e6) fun v H7 e7 w7 => ?_
      have C7 := C6.mono e7
      exact ⟨rfl, Ex.mut (E5.trans (e6.trans e7)) hp0, .inl ⟨h, _, (by rw [newH_upd hp0]; exact cat_setOuter (cat_newH C7 hp0 hF0) w7 ⟨_, C6.lst⟩ a), isCloth_row (mem_set_self (by rw [List.length_map]; exact ha') _) rfl⟩⟩
    · exact s_ifNo (tq 7 rfl) (decide_eq_false (by omega)) (nI H5 E5) fun H6 e6 => ⟨rfl, E5.trans e6, .inr ⟨h, C5.mono e6⟩⟩
  rintro σ5 H6 ⟨rfl, E6, st6⟩
  -- 8: a longer row
  by_cases h8 : κ = 8
  · have C6 : CAt H6 p F c := st6.elim (fun h => by omega) fun h => h.2
    refine q_ifR (tq 8 rfl) (decide_eq_true (by omega)) (nI H6 E6) fun H7 e7 => ?_
    have C7 := C6.mono e7
    have n7 := (nI H7 (E6.trans e7)).add 2 (z := .d (enc c)) s2 C7.tp
    refine q_setNn (p := p) (k := a) (xs := F.map V.ref) (d := enc (c.getD a default ++ [0])) (n_catI (ns := c.getD a default) (ms := [0]) (VE.eq (v_ix (xs := c) (i := (a : Int)) (v_var rfl) (v_var rfl) (by omega) (by omega)) (by rw [Int.toNat_natCast])) (v_lst (ds := [.int 0]) (a_cons v_int a_nil) (by decide)) (by rw [rl]; simp; omega)) n7 (fun H' e => val_var s2) (fun H' e => val_var s3) C7.lst (by rw [List.length_map, C7.rows.len]; exact ha') fun v H8 e8 w8 => ?_
    have C8 := C7.mono e8
    have tp9 : Tp (newH H (upd H8 p (.lst ((F.map V.ref).set a v)))) (.ref p) (.list ((c.map enc).set a (enc (c.getD a default ++ [0])))) := by rw [newH_upd hp0]; exact cat_setOuter (cat_newH C8 hp0 hF0) (new_newH w8 (E6.trans e7) (noTup_ints _)) ⟨_, C7.lst⟩ a
    have E9 : Ex H (upd H8 p (.lst ((F.map V.ref).set a v))) := Ex.mut (E6.trans (e7.trans e8)) hp0
    generalize (upd H8 p (.lst ((F.map V.ref).set a v))) = H9 at tp9 E9
    have n9 := (nI H9 E9).add 2 (z := freshE H (.list ((c.map enc).set a (enc (c.getD a default ++ [0]))))) s2 tp9
    have ll : ((c.map enc).set a (enc (c.getD a default ++ [0]))).length = c.length := by simp
    by_cases hl : c.length > 1
    · refine s_retV (z := freshE H (.list ((c.map enc).set a (enc (c.getD a default ++ [0]))))) (v_if (b := true) (VT.eq (t_test (v_gt (v_lenL (VE.freshD (v_var rfl))) v_int)) (by rw [ll, decide_eq_true (by omega)])) (fun _ => v_var rfl) fun z => nomatch z) n9 fun v' H10 e10 r10 => q _ ?_ v' H10 (E9.trans e10) r10
      have la : lenD (enc (c.getD a default ++ [0])) = wd c + 1 := by
        show ((c.getD a default ++ [0]).map enc).length = _
        rw [List.length_map, List.length_append, rl]; rfl
      by_cases h0 : a = 0
      · subst h0
        have h1 : c.getD 1 default ∈ c := g.at_ hl
        refine isCloth_lens (x := enc (c.getD 1 default)) ?_ ?_
        · refine List.mem_of_getElem? (i := 1) ?_
          rw [List.getElem?_set_ne (by decide), List.getElem?_map, List.getElem?_eq_getElem hl, List.getD_eq_getElem?_getD, List.getElem?_eq_getElem hl]; rfl
        · have hh : (((c.map enc).set 0 (enc (c.getD 0 default ++ [0]))).headD .none) = enc (c.getD 0 default ++ [0]) := by
            cases c with
            | nil => simp at hl
            | cons x xs => rfl
          rw [hh, la]
          have : lenD (enc (c.getD 1 default)) = wd c := by
            show ((c.getD 1 default).map enc).length = _
            rw [List.length_map]; exact g.rows _ h1
          rw [this]; omega
      · refine isCloth_lens (x := enc (c.getD a default ++ [0])) (mem_set_self (by rw [List.length_map]; exact ha') _) ?_
        have hh : lenD (((c.map enc).set a (enc (c.getD a default ++ [0]))).headD .none) = wd c := by
          cases a with
          | zero => exact absurd rfl h0
          | succ a =>
            cases hc : c with
            | nil => rw [hc] at hl; simp at hl
            | cons x xs =>
              show (x.map enc).length = wd (x :: xs)
              rw [List.length_map]; rfl
        rw [la, hh]; omega
    · refine s_retV (z := freshE H (.list ((c.map enc).set a (enc (c.getD a default ++ [0])) ++ [.list []]))) (v_if (b := false) (VT.eq (t_test (v_gt (v_lenL (VE.freshD (v_var rfl))) v_int)) (by rw [ll, decide_eq_false (by omega)])) (fun z => nomatch z) fun _ => fr_cat (base_of (i := 5) rfl) (v_var rfl) (fr_lst (ds := [.list []]) (base_of (i := 5) rfl) (a_cons (fr_lst (ds := []) (base_of (i := 5) rfl) a_nil (by decide)) a_nil) (by decide)) (by rw [ll]; simp; omega)) n9 fun v' H10 e10 r10 => q _ ?_ v' H10 (E9.trans e10) r10
      exact isCloth_row (x := .list []) (List.mem_append_right _ (List.mem_singleton.mpr rfl)) rfl
  refine q_ifF (tq 8 rfl) (decide_eq_false (by omega)) (nI H6 E6) fun H7 e7 => ?_
  have E7 := E6.trans e7
  have st7 : (κ = 7 ∧ ∃ ds, Tp (newH H H7) (.ref p) (.list ds) ∧ isCloth (.list ds) = false) ∨ (κ ≠ 7 ∧ CAt H7 p F c) := st6.imp (fun ⟨h, ds, t, b⟩ => ⟨h, ds, Tp.mono (newH_ex e7) t, b⟩) fun ⟨h, c⟩ => ⟨h, c.mono e7⟩
  -- 9: an empty row more
  refine ⟨fun σ' H' => σ4 = σ' ∧ Ex H H' ∧ (((κ = 7 ∨ κ = 9) ∧ ∃ ds, Tp (newH H H') (.ref p) (.list ds) ∧ isCloth (.list ds) = false) ∨ ((κ ≠ 7 ∧ κ ≠ 9) ∧ CAt H' p F c)), ?_, ?_⟩
  · by_cases h : κ = 9
    · refine s_ifYes (tq 9 rfl) (decide_eq_true (by omega)) (nI H7 E7) fun H8 e8 => ?_
      have C8 : CAt H8 p F c := (st7.elim (fun h => by omega) fun h => h.2).mono e8
      refine s_insert (p := p) (k := a) (xs := F.map V.ref) (d := .list []) (val_var s2) (fun H' e => val_var s3) (n_lst (ds := []) an_nil (by decide)) (nI H8 (E7.trans e8)) C8.lst (by rw [List.length_map, C8.rows.len]; omega) (by omega) fun v H9 e9 w9 => ?_
      refine ⟨rfl, Ex.mut (E7.trans (e8.trans e9)) hp0, .inl ⟨.inr h, _, (by rw [newH_upd hp0]; exact cat_insOuter (cat_newH (C8.mono e9) hp0 hF0) (new_newH w9 (E7.trans e8) rfl) ⟨_, C8.lst⟩ a), isCloth_row (x := .list []) ?_ rfl⟩⟩
      exact List.mem_append_left _ (List.mem_append_right _ (List.mem_singleton.mpr rfl))
    · refine s_ifNo (tq 9 rfl) (decide_eq_false (by omega)) (nI H7 E7) fun H8 e8 => ⟨rfl, E7.trans e8, ?_⟩
      rcases st7 with ⟨h1, ds, t, b⟩ | ⟨h1, c1⟩
      · exact .inl ⟨.inl h1, ds, Tp.mono (newH_ex e8) t, b⟩
      · exact .inr ⟨⟨h1, h⟩, c1.mono e8⟩
  rintro σ6 H8 ⟨rfl, E8, st8⟩
  -- 10: None for a row
  refine ⟨fun σ' H' => σ4 = σ' ∧ Ex H H' ∧ (((κ = 7 ∨ κ = 9 ∨ κ = 10) ∧ ∃ ds, Tp (newH H H') (.ref p) (.list ds) ∧ isCloth (.list ds) = false) ∨ ((κ ≠ 7 ∧ κ ≠ 9 ∧ κ ≠ 10) ∧ CAt H' p F c)), ?_, ?_⟩
  · by_cases h : κ = 10
    · refine s_ifYes (tq 10 rfl) (decide_eq_true (by omega)) (nI H8 E8) fun H9 e9 => ?_
      have C9 : CAt H9 p F c := (st8.elim (fun h => by omega) fun h => h.2).mono e9
      refine s_insert (p := p) (k := a) (xs := F.map V.ref) (d := .none) (val_var s2) (fun H' e => val_var s3) (VD.toN v_non rfl) (nI H9 (E8.trans e9)) C9.lst (by rw [List.length_map, C9.rows.len]; omega) (by omega) fun v H10 e10 w10 => ?_
      refine ⟨rfl, Ex.mut (E8.trans (e9.trans e10)) hp0, .inl ⟨.inr (.inr h), _, (by rw [newH_upd hp0]; exact cat_insOuter (cat_newH (C9.mono e10) hp0 hF0) (new_newH w10 (E8.trans e9) rfl) ⟨_, C9.lst⟩ a), isCloth_row (x := .none) ?_ rfl⟩⟩
      exact List.mem_append_left _ (List.mem_append_right _ (List.mem_singleton.mpr rfl))
    · refine s_ifNo (tq 10 rfl) (decide_eq_false (by omega)) (nI H8 E8) fun H9 e9 => ⟨rfl, E8.trans e9, ?_⟩
      rcases st8 with ⟨h1, ds, t, b⟩ | ⟨h1, c1⟩
      · exact .inl ⟨by omega, ds, Tp.mono (newH_ex e9) t, b⟩
      · exact .inr ⟨⟨h1.1, h1.2, h⟩, c1.mono e9⟩
  rintro σ7 H9 ⟨rfl, E9, st9⟩
  by_cases h11 : κ = 11
  · have C9 : CAt H9 p F c := st9.elim (fun h => by omega) fun h => h.2
    refine q_ifT (tq 11 rfl) (decide_eq_true (by omega)) (nI H9 E9) fun H10 e10 => ?_
    have n10 := (nI H10 (E9.trans e10)).add 2 (z := freshE H (enc c)) s2 (cat_fresh (C9.mono e10) hp0 hF0)
    refine s_retV (z := freshE H (.list (rep [enc (c.getD 0 default)] 61))) (VE.eq (fr_rep (ds := [enc (c.getD 0 default)]) (k := 61) (base_of (i := 5) rfl) (fr_lst (ds := [enc (c.getD 0 default)]) (base_of (i := 5) rfl) (a_cons (fr_ix (ds := c.map enc) (i := 0) (v_var rfl) v_int (show atI (c.map enc) ((0 : Nat) : Int) = some (enc (c.getD 0 default)) from atI_nat (by rw [List.getElem?_map, List.getElem?_eq_getElem g.pos, List.getD_eq_getElem?_getD, List.getElem?_eq_getElem g.pos]; rfl))) a_nil) (by simp)) v_int (by decide) (show 1 * 61 ≤ 100000 by decide)) rfl) n10 fun v' H11 e11 r11 => q _ (isCloth_long (by rw [rep_len]; show 60 < 1 * 61; decide)) v' H11 (E9.trans (e10.trans e11)) r11
  refine q_ifF (tq 11 rfl) (decide_eq_false (by omega)) (nI H9 E9) fun H10 e10 => ?_
  have E10 := E9.trans e10
  have st10 : ((κ = 7 ∨ κ = 9 ∨ κ = 10) ∧ ∃ ds, Tp (newH H H10) (.ref p) (.list ds) ∧ isCloth (.list ds) = false) ∨ ((κ ≠ 7 ∧ κ ≠ 9 ∧ κ ≠ 10) ∧ CAt H10 p F c) := st9.imp (fun ⟨h, ds, t, b⟩ => ⟨h, ds, Tp.mono (newH_ex e10) t, b⟩) fun ⟨h, c⟩ => ⟨h, c.mono e10⟩
  by_cases h12 : κ = 12
  · have C10 : CAt H10 p F c := st10.elim (fun h => by omega) fun h => h.2
    refine q_ifT (tq 12 rfl) (decide_eq_true (by omega)) (nI H10 E10) fun H11 e11 => ?_
    have n11 := (nI H11 (E10.trans e11)).add 2 (z := .d (enc c)) s2 (C10.mono e11).tp
    refine s_retV (z := freshE H (enc (c.map fun _ => rep [(1 : Int)] 61))) (VN.toFresh (base_of (i := 5) rfl) (n_lc (xs := c) (fun _ => rep [(1 : Int)] 61) (v_var rfl) (by omega) (by decide) fun row hrow => VN.eq (n_repI (ns := [1]) (k := 61) (v_lst (ds := [.int 1]) (a_cons v_int a_nil) (by decide)) v_int (by decide) (by decide)) rfl) (noTup_cl _)) n11 fun v' H12 e12 r12 => q _ ?_ v' H12 (E10.trans (e11.trans e12)) r12
    refine isCloth_row (x := enc (rep [(1 : Int)] 61)) ?_ (isRow_long (by rw [List.length_map, rep_len]; decide))
    rw [List.map_map]
    exact List.mem_map.mpr ⟨_, g.at_ g.pos, rfl⟩
  refine q_ifF (tq 12 rfl) (decide_eq_false (by omega)) (nI H10 E10) fun H11 e11 => ?_
  have E11 := E10.trans e11
  have st11 : ((κ = 7 ∨ κ = 9 ∨ κ = 10) ∧ ∃ ds, Tp (newH H H11) (.ref p) (.list ds) ∧ isCloth (.list ds) = false) ∨ ((κ ≠ 7 ∧ κ ≠ 9 ∧ κ ≠ 10) ∧ CAt H11 p F c) := st10.imp (fun ⟨h, ds, t, b⟩ => ⟨h, ds, Tp.mono (newH_ex e11) t, b⟩) fun ⟨h, c⟩ => ⟨h, c.mono e11⟩
  rcases st11 with ⟨h, ds, t, bad⟩ | ⟨h, C11⟩
  · refine s_retV (z := freshE H (.list ds)) (v_if (b := true) (VT.eq (t_test (v_lt (tm rfl) v_int)) (decide_eq_true (by omega))) (fun _ => v_var rfl) fun z => nomatch z) ((nI H11 E11).add 2 (z := freshE H (.list ds)) s2 t) fun v' H12 e12 r12 => q _ bad v' H12 (E11.trans e12) r12
  · have n11 := (nI H11 E11).add 2 (z := freshE H (enc c)) s2 (cat_fresh C11 hp0 hF0)
    have b5 : Base K H _ := base_of (i := 5) (ρ := [none, some (.d (.int cell)), some (freshE H (enc c)), some (.d (.int (a : Int))), some (.d (.int (b : Int))), some (baseE H), none]) rfl
    have u0 := Int.emod_nonneg (cell / 14) (show (6 : Int) ≠ 0 by decide)
    have u1 := Int.emod_lt_of_pos (cell / 14) (show (0 : Int) < 6 by decide)
    obtain ⟨m, hm⟩ := Int.eq_ofNat_of_zero_le u0
    rw [hm] at u1
    refine s_retV (z := freshE H (([.list [], .none, .tuple (c.map enc), .str "#", .int 5, .dict []] : List PyData).getD m .none)) (v_if (b := false) (VT.eq (t_test (v_lt (tm rfl) v_int)) (decide_eq_false (by omega))) (fun z => nomatch z) fun _ => fr_ix (ds := [.list [], .none, .tuple (c.map enc), .str "#", .int 5, .dict []]) (fr_lst (ds := [.list [], .none, .tuple (c.map enc), .str "#", .int 5, .dict []]) b5 (a_cons (fr_lst (ds := []) b5 a_nil (by decide)) (a_cons (fr_plain v_non rfl) (a_cons (fr_tupOf b5 (ds := c.map enc) (v_var rfl)) (a_cons (fr_plain v_str rfl) (a_cons (fr_plain v_int rfl) (a_cons (fr_dic b5) a_nil)))))) (show 6 ≤ 100000 by decide)) (VE.eq (v_mod (v_fdiv (v_var rfl) v_int ⟨by decide, by decide⟩) v_int (by decide)) (by rw [hm])) (atI_getD (show m < 6 by omega))) n11 fun v' H12 e12 r12 => q _ ?_ v' H12 (E11.trans e12) r12
    rcases m with _ | _ | _ | _ | _ | _ | m <;> first | rfl | (exfalso; omega)

/-! _law_bad_draft -/
abbrev s__law_bad_draft : Stmt := topS 52
abbrev N__law_bad_draft : List Str := ["_law_draft", "_law_cell", "_law_odd", "_law_parts", "_law_kind"]
theorem sc__law_bad_draft : FnScope N__law_bad_draft ["_law_draft", "_law_cell"] (defScope s__law_bad_draft) := ⟨rfl, rfl, rfl, by decide +kernel, rfl, by decide +kernel, by decide +kernel⟩

def A__law_bad_draft : List Ent → Prop := fun zs => ∃ (d : Dr) (i : Int), zs = [.d (enc d), .d (.int i)] ∧ GoodD d
def P__law_bad_draft : List Ent → PyData → Prop := fun _ r => isDraft r = false
theorem c__law_bad_draft (B : Blt mg) (C__law_copied : Cal P w K mg base CX0 1 "_law_copied" ["_law_cloth"] (spR K R__law_copied)) (C__law_bad_cloth : Cal P w K mg base CX0 2 "_law_bad_cloth" ["_law_cloth", "_law_cell"] (spF K A__law_bad_cloth P__law_bad_cloth)) (D_ : Dfn K mg "_law_bad_draft" s__law_bad_draft ["_law_draft", "_law_cell"]) : Cal P w K mg base CX0 3 "_law_bad_draft" ["_law_draft", "_law_cell"] (spT K A__law_bad_draft P__law_bad_draft) := by
  refine cal_sp D_ sc__law_bad_draft (fun vs H Q E h => by obtain ⟨zs, h1, ⟨c, i, rfl, _⟩, _⟩ := h; exact h1.len) fun f cdv A outer s H vs Q E hr h => ⟨_, (pss_cons (ps_set (i := 2) sc__law_bad_draft.nd rfl (.inl rfl) (pe_lst (pa_cons (pe_callB (call_lenK K) (by rfl) B.len (by decide +kernel) (pa_cons (pe_ix (ix_seqK K) (pv 0) pe_int (fun _ _ => rfl)) pa_nil)) (pa_cons (pe_un un_neg pe_int) (pa_cons (pe_ix (ix_seqK K) (pe_lst (pa_cons pe_bl (pa_cons pe_bl pa_nil))) (pe_op op_mod (pe_op op_fdiv (pv 1) pe_int) pe_int) (fun _ _ => rfl)) (pa_cons (pe_ix (ix_seqK K) (pe_lst (pa_cons pe_str (pa_cons (pe_lst (pa_cons pe_int pa_nil)) (pa_cons (pe_op op_pow pe_int pe_int) pa_nil)))) (pe_op op_mod (pe_op op_fdiv (pv 1) pe_int) pe_int) (fun _ _ => rfl)) (pa_cons pe_non pa_nil)))))))
    (pss_cons (ps_set (i := 3) sc__law_bad_draft.nd rfl (.inl rfl) (pe_lst (pa_cons (pe_callTy (call_listK K) (by rfl) B.list (by decide +kernel) (pa_cons (pe_ix (ix_seqK K) (pv 0) pe_int (fun _ _ => rfl)) pa_nil)) (pa_cons (pe_calK K P w mg base C__law_copied (hr.mono (by decide)) (by rfl) (pa_cons (pe_ix (ix_seqK K) (pv 0) pe_int (fun _ _ => rfl)) pa_nil)) (pa_cons (pe_callTy (call_listK K) (by rfl) B.list (by decide +kernel) (pa_cons (pe_ix (ix_seqK K) (pv 0) pe_int (fun _ _ => rfl)) pa_nil)) pa_nil)))))
    (pss_cons (ps_set (i := 4) sc__law_bad_draft.nd rfl (.inl rfl) (pe_op op_mod (pv 1) pe_int))
    (pss_cut (ps_if (pt_cmpR (op_eqDK K hr.units) (pv 4) pe_int (nomark _))
    (pss_one (ps_asg (pe_ix (ix_seqK K) (pv 2) (pe_op op_mod (pe_op op_fdiv (pv 1) pe_int) pe_int) (fun _ _ => rfl)) (pg_sub (pe_ix (ix_seqK K) (pv 3) pe_int (fun _ _ => rfl)) (pe_op op_mod (pe_op op_fdiv (pv 1) pe_int) (pe_callB (call_lenK K) (by rfl) B.len (by decide +kernel) (pa_cons (pe_ix (ix_seqK K) (pv 3) pe_int (fun _ _ => rfl)) pa_nil))) set_list)))
    pss_nil)
    (pss_cut (ps_if (pt_cmpR (op_eqDK K hr.units) (pv 4) pe_int (nomark _))
    (pss_cons (ps_asg (pe_callB (call_lenK K) (by rfl) B.len (by decide +kernel) (pa_cons (pe_ix (ix_seqK K) (pe_ix (ix_seqK K) (pv 0) pe_int (fun _ _ => rfl)) pe_int (fun _ _ => rfl)) pa_nil)) (pg_sub (pv 2) pe_int set_list))
    (pss_one (ps_asg (pe_ix (ix_seqK K) (pv 2) (pe_op op_mod (pe_op op_fdiv (pv 1) pe_int) pe_int) (fun _ _ => rfl)) (pg_sub (pe_ix (ix_seqK K) (pv 3) pe_int (fun _ _ => rfl)) (pe_op op_mod (pe_op op_fdiv (pv 1) pe_int) (pe_callB (call_lenK K) (by rfl) B.len (by decide +kernel) (pa_cons (pe_ix (ix_seqK K) (pv 3) pe_int (fun _ _ => rfl)) pa_nil))) set_list))))
    pss_nil)
    (pss_cut (ps_if (pt_cmpR (op_eqDK K hr.units) (pv 4) pe_int (nomark _))
    (pss_one (ps_asg (pe_calK K P w mg base C__law_bad_cloth (hr.mono (by decide)) (by rfl) (pa_cons (pe_ix (ix_seqK K) (pv 3) pe_int (fun _ _ => rfl)) (pa_cons (pe_op op_fdiv (pv 1) pe_int) pa_nil))) (pg_sub (pv 3) pe_int set_list)))
    pss_nil)
    (pss_cut (ps_if (pt_cmpR (op_eqDK K hr.units) (pv 4) pe_int (nomark _))
    (pss_one (ps_asg (pe_ix (ix_seqK K) (pe_lst (pa_cons (pe_lst pa_nil) (pa_cons (pe_callTy (call_tuple_ofK K) (by rfl) B.tuple (by decide +kernel) (pa_cons (pe_ix (ix_seqK K) (pv 0) pe_int (fun _ _ => rfl)) pa_nil)) (pa_cons (pe_op op_rep (pe_lst (pa_cons pe_int pa_nil)) pe_int) (pa_cons pe_non pa_nil))))) (pe_op op_mod (pe_op op_fdiv (pv 1) pe_int) pe_int) (fun _ _ => rfl)) (pg_sub (pv 3) (pe_op op_mul pe_int (pe_op op_mod (pe_op op_fdiv (pv 1) pe_int) pe_int)) set_list)))
    pss_nil)
    (pss_cons (ps_if (pt_cmpR (op_eqDK K hr.units) (pv 4) pe_int (nomark _))
    (pss_one (ps_ret (pe_ix (ix_seqK K) (pe_lst (pa_cons (pe_callTy (call_tuple_ofK K) (by rfl) B.tuple (by decide +kernel) (pa_cons (pe_slice (sl_listK K) (pv 3) po_none (po_some pe_int)) pa_nil)) (pa_cons (pv 3) (pa_cons (pe_callTy (call_tuple_ofK K) (by rfl) B.tuple (by decide +kernel) (pa_cons (pe_op op_cat (pv 3) (pe_lst (pa_cons (pe_lst (pa_cons pe_int pa_nil)) pa_nil))) pa_nil)) (pa_cons pe_non (pa_cons (pe_calK K P w mg base C__law_copied (hr.mono (by decide)) (by rfl) (pa_cons (pe_ix (ix_seqK K) (pv 0) pe_int (fun _ _ => rfl)) pa_nil)) (pa_cons (pe_tup pa_nil) pa_nil))))))) (pe_op op_mod (pe_op op_fdiv (pv 1) pe_int) pe_int) (fun _ _ => rfl))))
    pss_nil)
    (pss_one (ps_ret (pe_callTy (call_tuple_ofK K) (by rfl) B.tuple (by decide +kernel) (pa_cons (pv 3) pa_nil)))))))))))), ?_⟩
  obtain ⟨zs, r1, ⟨d, cell, rfl, g⟩, q⟩ := h
  have q : ∀ r, isDraft r = false → ∀ v H', Ex H H' → Tp H' v r → Q v H' := q
  have n0 : Env K H (L2.start N__law_bad_draft vs) [some (.d (enc d)), some (.d (.int cell)), none, none, none] := Env.start (N := N__law_bad_draft) r1
  generalize L2.start N__law_bad_draft vs = σ0 at n0
  have g1 := g.ti.len
  have gw : 1 ≤ wd d.ti ∧ wd d.ti ≤ 60 := g.ti.wide
  obtain ⟨v0, hv0, tv0⟩ := n0.2 0 _ rfl
  have tv0 : Tp H v0 (enc d) := tv0
  obtain ⟨v1, hv1, tv1⟩ := n0.2 1 _ rfl
  cases Tp.int_inv (show Tp H v1 (.int cell) from tv1)
  have l0 : σ0.length = 5 := n0.1
  -- the odd values
  refine q_lstB (ds := oddsD d.ti.length (cell / 75)) (a_cons (v_len (xs := d.ti) (v_ti (v_var rfl))) (a_cons (v_neg v_int) (a_cons (v_ixL (d := .bool (decide (cell / 75 % 2 = 0))) (ds := [.bool true, .bool false]) (v_lst (ds := [.bool true, .bool false]) (a_cons v_bl (a_cons v_bl a_nil)) (by decide)) (v_mod (v_fdiv (v_var rfl) v_int ⟨by decide, by decide⟩) v_int (by decide)) ?_) (a_cons (v_ixL (d := oddX (cell / 75 % 3)) (ds := [.str "0", .list [.int 0], .int ((10 : Int) ^ (20 : Int).toNat)]) (v_lst (ds := [.str "0", .list [.int 0], .int ((10 : Int) ^ (20 : Int).toNat)]) (a_cons v_str (a_cons (v_lst (ds := [.int 0]) (a_cons v_int a_nil) (by decide)) (a_cons (v_pow v_int v_int ⟨by decide, by decide, by decide⟩) a_nil))) (show 3 ≤ 100000 by decide)) (v_mod (v_fdiv (v_var rfl) v_int ⟨by decide, by decide⟩) v_int (by decide)) ?_) (a_cons v_non a_nil))))) (show 5 ≤ 100000 by decide) n0 fun B oo xs eB oB tB => ?_
  · have h := Int.emod_nonneg (cell / 75) (show (2 : Int) ≠ 0 by decide)
    have h' := Int.emod_lt_of_pos (cell / 75) (show (0 : Int) < 2 by decide)
    by_cases h0 : cell / 75 % 2 = 0
    · rw [h0]; rfl
    · rw [show cell / 75 % 2 = 1 by omega]; rfl
  · have h := Int.emod_nonneg (cell / 75) (show (3 : Int) ≠ 0 by decide)
    have h' := Int.emod_lt_of_pos (cell / 75) (show (0 : Int) < 3 by decide)
    have h3 : cell / 75 % 3 = 0 ∨ cell / 75 % 3 = 1 ∨ cell / 75 % 3 = 2 := by omega
    rcases h3 with h | h | h <;> rw [h] <;> rfl
  have E1 : Ex B (upd B oo (.lst xs)) := Ex.new oB
  have n1 : Env K (upd B oo (.lst xs)) (σ0.set 2 (some (.ref oo))) [some (.d (enc d)), some (.d (.int cell)), none, none, none] := (n0.mono (eB.trans E1)).drop 2
  have oo1 : upd B oo (.lst xs) oo = some (.lst xs) := upd_same
  generalize upd B oo (.lst xs) = H1 at E1 n1 oo1
  -- the parts
  refine q_setN (d := .list [enc d.th, enc d.ti, enc d.tr]) (n_lst (ds := [enc d.th, enc d.ti, enc d.tr]) (an_cons (n_list (v_th (v_var rfl))) (an_cons (n_call (a_cons (v_ti (v_var rfl)) a_nil) ⟨d.ti, rfl, by omega, rfl⟩) (an_cons (n_list (v_tr (v_var rfl))) an_nil))) (show 3 ≤ 100000 by decide)) n1 fun v2 H2 e2 w2 n2 => ?_
  obtain ⟨p, a, b, c, F, rfl, PA, PS⟩ := w2.parts
  have k0 := Int.emod_nonneg cell (show (5 : Int) ≠ 0 by decide)
  have k1 := Int.emod_lt_of_pos cell (show (0 : Int) < 5 by decide)
  obtain ⟨κ, hκ⟩ := Int.eq_ofNat_of_zero_le k0
  rw [hκ] at k1
  refine q_setV (z := .d (.int (κ : Int))) (VE.eq (v_mod (v_var rfl) v_int (by decide)) (by rw [hκ])) n2 fun v3 H3 e3 r3 n3 => ?_
  cases Tp.int_inv r3
  have s0 : ((((σ0.set 2 (some (V.ref oo))).set 3 (some (V.ref p))).set 4 (some (V.int (κ : Int)))))[0]? = some (some v0) := by rw [List.getElem?_set_ne (by decide), List.getElem?_set_ne (by decide), List.getElem?_set_ne (by decide)]; exact hv0
  have s1 : ((((σ0.set 2 (some (V.ref oo))).set 3 (some (V.ref p))).set 4 (some (V.int (κ : Int)))))[1]? = some (some (.int cell)) := by rw [List.getElem?_set_ne (by decide), List.getElem?_set_ne (by decide), List.getElem?_set_ne (by decide)]; exact hv1
  have s2 : ((((σ0.set 2 (some (V.ref oo))).set 3 (some (V.ref p))).set 4 (some (V.int (κ : Int)))))[2]? = some (some (.ref oo)) := by rw [List.getElem?_set_ne (by decide), List.getElem?_set_ne (by decide)]; exact List.getElem?_set_self (by omega)
  have s3 : ((((σ0.set 2 (some (V.ref oo))).set 3 (some (V.ref p))).set 4 (some (V.int (κ : Int)))))[3]? = some (some (.ref p)) := by rw [List.getElem?_set_ne (by decide)]; exact List.getElem?_set_self (by simp [l0])
  have s4 : ((((σ0.set 2 (some (V.ref oo))).set 3 (some (V.ref p))).set 4 (some (V.int (κ : Int)))))[4]? = some (some (.int (κ : Int))) := List.getElem?_set_self (by simp [l0])
  have l4 : ((((σ0.set 2 (some (V.ref oo))).set 3 (some (V.ref p))).set 4 (some (V.int (κ : Int))))).length = 5 := by simp [l0]
  generalize ((((σ0.set 2 (some (V.ref oo))).set 3 (some (V.ref p))).set 4 (some (V.int (κ : Int))))) = σ4 at s0 s1 s2 s3 s4 l4
  clear n0 n1 n2 n3
  have P3 := PA.mono e3
  have E3 : Ex H1 H3 := e2.trans e3
  have EB3 : Ex B H3 := E1.trans E3
  have EH3 : Ex H H3 := eB.trans EB3
  have hoo3 : H3 oo = some (.lst xs) := E3 _ _ oo1
  have PB : PSep B p a b c F := ⟨fresh_back E1 PS.p0, fresh_back E1 PS.a0, fresh_back E1 PS.b0, fresh_back E1 PS.c0, fun x hx => fresh_back E1 (PS.F0 x hx), PS.pa, PS.pb, PS.pc, PS.pF, PS.ab, PS.ac, PS.bc, PS.aF, PS.cF⟩
  have xl : xs.length = 5 := tB.len
  have noo : ∀ {x : Addr}, H1 x = none → x ≠ oo := fun h e => by rw [e, oo1] at h; cases h
  have hp0 : H p = none := fresh_back eB PB.p0
  have ha0 : H a = none := fresh_back eB PB.a0
  have hc0 : H c = none := fresh_back eB PB.c0
  have ho0 : H oo = none := fresh_back eB oB
  have nI : ∀ H', Ex H H' → Env K H' σ4 [some (.d (enc d)), some (.d (.int cell)), none, none, some (.d (.int (κ : Int)))] := fun H' hE => by
    have nz : Env K H' σ4 [none, none, none, none, none] := ⟨l4, fun i z h => by rcases i with _ | _ | _ | _ | _ | i <;> cases h⟩
    exact ((nz.add 0 (z := .d (enc d)) s0 (tv0.mono hE)).add 1 (z := .d (.int cell)) s1 (.int _)).add 4 (z := .d (.int (κ : Int))) s4 (.int _)
  have nP : ∀ H', Ex H H' → PAt H' p a b c F d → Env K H' σ4 [some (.d (enc d)), some (.d (.int cell)), none, some (.d (.list [enc d.th, enc d.ti, enc d.tr])), some (.d (.int (κ : Int)))] := fun H' hE P => (nI H' hE).add 3 (z := .d (.list [enc d.th, enc d.ti, enc d.tr])) s3 P.tp
  have tq : ∀ {ρ : Rho} (k : Int), ρ[4]? = some (some (.d (.int (κ : Int)))) → VT K (tTest (tOp (rEqD K) (tVar 4) (tC (.int k)))) ρ (decide ((κ : Int) = k)) := fun k h => t_test (v_eqI (v_var h) v_int)
  -- an index below n
  have ixn : ∀ (m n : Nat), 0 < n → ∃ k : Nat, (cell / (m : Int)) % (n : Int) = (k : Int) ∧ k < n := fun m n hn => by
    have h := Int.emod_nonneg (cell / (m : Int)) (show (n : Int) ≠ 0 by omega)
    have h' := Int.emod_lt_of_pos (cell / (m : Int)) (show (0 : Int) < (n : Int) by omega)
    obtain ⟨k, hk⟩ := Int.eq_ofNat_of_zero_le h
    exact ⟨k, hk, by omega⟩
  obtain ⟨j, hj, hj'⟩ := ixn 15 5 (by decide)
  have gO : ∀ (n : Int) (x : PyData), atI (oddsD n (cell / 75)) (j : Int) = some ((oddsD n (cell / 75)).getD j .none) := fun n x => atI_getD hj'
  -- the first part
  refine ⟨fun σ' H' => σ4 = σ' ∧ Ex H H' ∧ ((κ ≤ 0 ∧ ∃ x y z, Tp H' (.ref p) (.list [x, y, z]) ∧ isDraft (.tuple [x, y, z]) = false) ∨ (0 < κ ∧ Ex H3 H')), ?_, ?_⟩
  · by_cases h : κ = 0
    · refine s_ifYes (tq 0 rfl) (decide_eq_true (by omega)) (nI H3 EH3) fun H4 e4 => ?_
      have P4 := P3.mono e4
      have E4 := EH3.trans e4
      obtain ⟨k, hk, hk'⟩ := ixn 5 d.th.length (by have := g.th; omega)
      refine s_setG (p := a) (k := k) (xs := d.th.map V.int) (z := stE B ((oddsD d.ti.length (cell / 75)).getD j .none)) (v_ixB (ds := oddsD d.ti.length (cell / 75)) (v_var rfl) (VE.eq (v_mod (v_fdiv (v_var rfl) v_int ⟨by decide, by decide⟩) v_int (by decide)) (by rw [show cell / 15 % 5 = (j : Int) from hj])) (gO _ .none)) ((nP H4 E4 P4).add 2 (z := oddE B (oddsD d.ti.length (cell / 75))) s2 ⟨oo, xs, rfl, e4 _ _ hoo3, tB⟩) (fun H' e => val_ixL (val_var s3) val_c (e _ _ P4.lst) rfl) (VE.eq (v_mod (v_fdiv (v_var rfl) v_int ⟨by decide, by decide⟩) (v_len (xs := d.th) (v_ixL (d := enc d.th) (v_var rfl) v_int rfl)) (by have := g.th; omega)) (by rw [show cell / 5 % (d.th.length : Int) = (k : Int) from hk])) P4.th (by rw [List.length_map]; exact hk') fun v H5 e5 r5 => ?_
      refine ⟨rfl, Ex.mut (E4.trans e5) ha0, .inl ⟨by omega, _, _, _, (P4.mono e5).setTh PB (EB3.trans (e4.trans e5)) (show Tp B v _ from r5) k, ?_⟩⟩
      exact bad_th (isRow_num (mem_set_self (by rw [List.length_map]; exact hk') _) (by rw [lenD_cl]; exact oddsD_bad (by omega) hj'))
    · exact s_ifNo (tq 0 rfl) (decide_eq_false (by omega)) (nI H3 EH3) fun H4 e4 => ⟨rfl, EH3.trans e4, .inr ⟨by omega, e4⟩⟩
  rintro σ5 H4 ⟨rfl, E4, st4⟩
  -- the last part
  refine ⟨fun σ' H' => σ4 = σ' ∧ Ex H H' ∧ ((κ ≤ 1 ∧ ∃ x y z, Tp H' (.ref p) (.list [x, y, z]) ∧ isDraft (.tuple [x, y, z]) = false) ∨ (1 < κ ∧ Ex H3 H')), ?_, ?_⟩
  · by_cases h : κ = 1
    · refine s_ifYes (tq 1 rfl) (decide_eq_true (by omega)) (nI H4 E4) fun H5 e5 => ?_
      have X5 : Ex H3 H5 := (st4.elim (fun h => by omega) fun h => h.2).trans e5
      have P5 := P3.mono X5
      have E5 := E4.trans e5
      refine q_setG (p := oo) (k := 0) (xs := xs) (z := .d (.int (wd d.ti : Int))) (v_len (xs := d.ti.getD 0 default) (v_ix (xs := d.ti) (i := 0) (v_ti (v_var rfl)) v_int (by omega) (by omega))) (nI H5 E5) (fun H' e => val_var s2) v_int (X5 _ _ hoo3) (by omega) fun v H6 e6 r6 => ?_
      cases Tp.int_inv r6
      have P6 : PAt (upd H6 oo (.lst (xs.set 0 (.int (wd d.ti : Int))))) p a b c F d := (P5.mono e6).one (noo PS.p0) (noo PS.a0) (noo PS.b0) (noo PS.c0) fun hF => noo (PS.F0 _ hF) rfl
      have E6 : Ex H (upd H6 oo (.lst (xs.set 0 (.int (wd d.ti : Int))))) := Ex.mut (E5.trans e6) ho0
      have B6 : Ex B (upd H6 oo (.lst (xs.set 0 (.int (wd d.ti : Int))))) := Ex.mut (EB3.trans (X5.trans e6)) oB
      have o6 : (upd H6 oo (.lst (xs.set 0 (.int (wd d.ti : Int))))) oo = some (.lst (xs.set 0 (.int (wd d.ti : Int)))) := upd_same
      have tB' : TpAll B (xs.set 0 (.int (wd d.ti : Int))) (oddsD (wd d.ti) (cell / 75)) := TpAll.set (.int _) 0 tB
      generalize (upd H6 oo (.lst (xs.set 0 (.int (wd d.ti : Int))))) = H7 at P6 E6 B6 o6
      obtain ⟨k, hk, hk'⟩ := ixn 5 d.tr.length (by have := g.tr; omega)
      refine s_setG (p := c) (k := k) (xs := d.tr.map V.int) (z := stE B ((oddsD (wd d.ti) (cell / 75)).getD j .none)) (v_ixB (ds := oddsD (wd d.ti) (cell / 75)) (v_var rfl) (VE.eq (v_mod (v_fdiv (v_var rfl) v_int ⟨by decide, by decide⟩) v_int (by decide)) (by rw [show cell / 15 % 5 = (j : Int) from hj])) (gO _ .none)) ((nP H7 E6 P6).add 2 (z := oddE B (oddsD (wd d.ti) (cell / 75))) s2 ⟨oo, _, rfl, o6, tB'⟩) (fun H' e => val_ixL (val_var s3) val_c (e _ _ P6.lst) rfl) (VE.eq (v_mod (v_fdiv (v_var rfl) v_int ⟨by decide, by decide⟩) (v_len (xs := d.tr) (v_ixL (d := enc d.tr) (v_var rfl) v_int rfl)) (by have := g.tr; omega)) (by rw [show cell / 5 % (d.tr.length : Int) = (k : Int) from hk])) P6.tr (by rw [List.length_map]; exact hk') fun v H8 e8 r8 => ?_
      refine ⟨rfl, Ex.mut (E6.trans e8) hc0, .inl ⟨by omega, _, _, _, (P6.mono e8).setTr PB (B6.trans e8) (show Tp B v _ from r8) k, ?_⟩⟩
      exact bad_tr g.ti (isRow_num (mem_set_self (by rw [List.length_map]; exact hk') _) (oddsD_bad (by omega) hj'))
    · refine s_ifNo (tq 1 rfl) (decide_eq_false (by omega)) (nI H4 E4) fun H5 e5 => ⟨rfl, E4.trans e5, ?_⟩
      rcases st4 with ⟨h1, x, y, z, t, bd⟩ | ⟨h1, e⟩
      · exact .inl ⟨by omega, x, y, z, t.mono e5, bd⟩
      · exact .inr ⟨by omega, e.trans e5⟩
  rintro σ5 H5 ⟨rfl, E5, st5⟩
  -- the middle part
  refine ⟨fun σ' H' => σ4 = σ' ∧ Ex H H' ∧ ((κ ≤ 2 ∧ ∃ x y z, Tp H' (.ref p) (.list [x, y, z]) ∧ isDraft (.tuple [x, y, z]) = false) ∨ (2 < κ ∧ Ex H3 H')), ?_, ?_⟩
  · by_cases h : κ = 2
    · refine s_ifYes (tq 2 rfl) (decide_eq_true (by omega)) (nI H5 E5) fun H6 e6 => ?_
      have X6 : Ex H3 H6 := (st5.elim (fun h => by omega) fun h => h.2).trans e6
      have P6 := P3.mono X6
      have E6 := E5.trans e6
      refine s_setG (p := p) (k := 1) (xs := [.ref a, .ref b, .ref c]) (z := someE H6 (P__law_bad_cloth [.d (enc d.ti), .d (.int (cell / 5))])) (v_callF (base_of (i := 2) rfl) (a_cons (v_ixL (d := enc d.ti) (v_var rfl) v_int rfl) (a_cons (v_fdiv (v_var rfl) v_int ⟨by decide, by decide⟩) a_nil)) ⟨d.ti, cell / 5, rfl, g.ti⟩) ((nP H6 E6 P6).add 2 (z := baseE H6) s2 (Ex.refl H6)) (fun H' e => val_var s3) v_int P6.lst (show 1 < 3 by decide) fun v H7 e7 r7 => ?_
      obtain ⟨r, hr, t⟩ := (show ∃ r, isCloth r = false ∧ Tp (newH H6 H7) v r from r7)
      exact ⟨rfl, Ex.mut (E6.trans e7) hp0, .inl ⟨by omega, _, _, _, (P6.mono e7).set PB (by rw [P6.lst]; exact fun z => nomatch z) t 1, bad_ti hr⟩⟩
    · refine s_ifNo (tq 2 rfl) (decide_eq_false (by omega)) (nI H5 E5) fun H6 e6 => ⟨rfl, E5.trans e6, ?_⟩
      rcases st5 with ⟨h1, x, y, z, t, bd⟩ | ⟨h1, e⟩
      · exact .inl ⟨by omega, x, y, z, t.mono e6, bd⟩
      · exact .inr ⟨by omega, e.trans e6⟩
  rintro σ5 H6 ⟨rfl, E6, st6⟩
  -- no list, or one too long, or an empty one
  refine ⟨fun σ' H' => σ4 = σ' ∧ Ex H H' ∧ ((κ ≤ 3 ∧ ∃ x y z, Tp H' (.ref p) (.list [x, y, z]) ∧ isDraft (.tuple [x, y, z]) = false) ∨ (3 < κ ∧ Ex H3 H')), ?_, ?_⟩
  · by_cases h : κ = 3
    · refine s_ifYes (tq 3 rfl) (decide_eq_true (by omega)) (nI H6 E6) fun H7 e7 => ?_
      have X7 : Ex H3 H7 := (st6.elim (fun h => by omega) fun h => h.2).trans e7
      have P7 := P3.mono X7
      have E7 := E6.trans e7
      obtain ⟨m, hm, hm'⟩ := ixn 10 2 (by decide)
      obtain ⟨y, hy, hy'⟩ := ixn 20 4 (by decide)
      have b5 : Base K H7 _ := base_of (i := 2) (ρ := [some (.d (enc d)), some (.d (.int cell)), some (baseE H7), some (.d (.list [enc d.th, enc d.ti, enc d.tr])), some (.d (.int (κ : Int)))]) rfl
      have bad : ∀ hi, isRow (([.list [], .tuple (d.th.map enc), enc (rep [(0 : Int)] 61), .none] : List PyData).getD y .none) hi = false := fun hi => by
        rcases y with _ | _ | _ | _ | y
        · rfl
        · rfl
        · exact isRow_long (by rw [List.length_map, rep_len]; decide)
        · rfl
        · omega
      refine s_setG (p := p) (k := 2 * m) (xs := [.ref a, .ref b, .ref c]) (z := freshE H7 (([.list [], .tuple (d.th.map enc), enc (rep [(0 : Int)] 61), .none] : List PyData).getD y .none)) (fr_ix (i := (y : Int)) (fr_lst (ds := [.list [], .tuple (d.th.map enc), enc (rep [(0 : Int)] 61), .none]) b5 (a_cons (fr_lst (ds := []) b5 a_nil (by decide)) (a_cons (fr_tupPl b5 (v_th (v_var rfl)) plain_ints) (a_cons (VN.toFresh b5 (n_repI (ns := [0]) (k := 61) (v_lst (ds := [.int 0]) (a_cons v_int a_nil) (by decide)) v_int (by decide) (by decide)) (noTup_ints _)) (a_cons (fr_plain v_non rfl) a_nil)))) (show 4 ≤ 100000 by decide)) (VE.eq (v_mod (v_fdiv (v_var rfl) v_int ⟨by decide, by decide⟩) v_int (by decide)) (by rw [show cell / 20 % 4 = (y : Int) from hy])) (atI_getD (show y < 4 from hy'))) ((nP H7 E7 P7).add 2 (z := baseE H7) s2 (Ex.refl H7)) (fun H' e => val_var s3) (VE.eq (v_mul v_int (v_mod (v_fdiv (v_var rfl) v_int ⟨by decide, by decide⟩) v_int (by decide)) (.inl (by decide))) (by rw [show cell / 10 % 2 = (m : Int) from hm]; rfl)) P7.lst (by show 2 * m < 3; omega) fun v H8 e8 r8 => ?_
      have t8 := (P7.mono e8).set PB (B' := H7) (by rw [P7.lst]; exact fun z => nomatch z) (show Tp (newH H7 H8) v _ from r8) (2 * m)
      refine ⟨rfl, Ex.mut (E7.trans e8) hp0, .inl ⟨by omega, ?_⟩⟩
      rcases m with _ | _ | m
      · exact ⟨_, _, _, t8, bad_th (bad _)⟩
      · exact ⟨_, _, _, t8, bad_tr g.ti (bad _)⟩
      · omega
    · refine s_ifNo (tq 3 rfl) (decide_eq_false (by omega)) (nI H6 E6) fun H7 e7 => ⟨rfl, E6.trans e7, ?_⟩
      rcases st6 with ⟨h1, x, y, z, t, bd⟩ | ⟨h1, e⟩
      · exact .inl ⟨by omega, x, y, z, t.mono e7, bd⟩
      · exact .inr ⟨by omega, e.trans e7⟩
  rintro σ5 H7 ⟨rfl, E7, st7⟩
  rcases st7 with ⟨h, x, y, z, t, bd⟩ | ⟨h, X7⟩
  · refine q_ifF (tq 4 rfl) (decide_eq_false (by omega)) (nI H7 E7) fun H8 e8 => ?_
    exact s_retV (z := .d (.tuple [x, y, z])) (v_tupOf (v_var rfl)) ((nI H8 (E7.trans e8)).add 3 (z := .d (.list [x, y, z])) s3 (t.mono e8)) fun v H9 e9 r9 => q _ bd v H9 (E7.trans (e8.trans e9)) r9
  · refine q_ifT (tq 4 rfl) (decide_eq_true (by omega)) (nI H7 E7) fun H8 e8 => ?_
    have P8 := P3.mono (X7.trans e8)
    have E8 := E7.trans e8
    obtain ⟨y, hy, hy'⟩ := ixn 5 6 (by decide)
    refine s_retV (z := .d (([.tuple [enc d.th, enc d.ti], .list [enc d.th, enc d.ti, enc d.tr], .tuple [enc d.th, enc d.ti, enc d.tr, .list [.int 0]], .none, enc d.ti, .tuple []] : List PyData).getD y .none)) (v_ixL (i := (y : Int)) (v_lst (ds := [.tuple [enc d.th, enc d.ti], .list [enc d.th, enc d.ti, enc d.tr], .tuple [enc d.th, enc d.ti, enc d.tr, .list [.int 0]], .none, enc d.ti, .tuple []]) (a_cons (v_tupOf (VE.eq (v_slD (lo := none) (hi := some 2) (v_var rfl) o_none (o_some v_int)) rfl)) (a_cons (v_var rfl) (a_cons (v_tupOf (v_cat (ds := [enc d.th, enc d.ti, enc d.tr]) (v_var rfl) (v_lst (ds := [.list [.int 0]]) (a_cons (v_lst (ds := [.int 0]) (a_cons v_int a_nil) (by decide)) a_nil) (by decide)) (show 3 + 1 ≤ 100000 by decide))) (a_cons v_non (a_cons (VN.toD (n_call (a_cons (v_ti (v_var rfl)) a_nil) ⟨d.ti, rfl, by omega, rfl⟩)) (a_cons (v_tup (ds := []) a_nil (by decide)) a_nil)))))) (show 6 ≤ 100000 by decide)) (VE.eq (v_mod (v_fdiv (v_var rfl) v_int ⟨by decide, by decide⟩) v_int (by decide)) (by rw [show cell / 5 % 6 = (y : Int) from hy])) (atI_getD (show y < 6 from hy'))) (nP H8 E8 P8) fun v H9 e9 r9 => q _ ?_ v H9 (E8.trans e9) r9
    rcases y with _ | _ | _ | _ | _ | _ | y <;> first | rfl | (exfalso; omega)

/-! _law_asked_one -/
abbrev s__law_asked_one : Stmt := topS 53
abbrev N__law_asked_one : List Str := ["_law_which", "_law_cloth", "_law_draft"]
theorem sc__law_asked_one : FnScope N__law_asked_one ["_law_which", "_law_cloth", "_law_draft"] (defScope s__law_asked_one) := ⟨rfl, rfl, rfl, by decide +kernel, rfl, by decide +kernel, by decide +kernel⟩

def R__law_asked_one : List Ent → PyData → Prop := fun zs r => ∃ (w : Int) (c d : PyData), zs = [.d (.int w), .d c, .d d] ∧ Fine w c d ∧ r = .none
def S__law_asked_one (aC aD aF : Addr) : List Ent → Addr → Prop := fun zs D => ∃ (w : Int) (c d : PyData) (e : Nat), zs = [.d (.int w), .d c, .d d] ∧ Bad1 w c d e ∧ D = errAt aC aD aF e
theorem c__law_asked_one (B : Blt mg) {aL aC aD aF aN : Addr} (XC_ : FitX K mg "NoCloth" "NoDraft" "NoFit" "NoNote" aL aC aD aF aN) (XD_ : FitX K mg "NoDraft" "NoCloth" "NoFit" "NoNote" aL aD aC aF aN) (XF_ : FitX K mg "NoFit" "NoCloth" "NoDraft" "NoNote" aL aF aC aD aN) (C_first_warps : Cal P w K mg base (L2N.CX P w) 5 "first_warps" ["cloth"] (spX K R_first_warps (noC 0 aC))) (C_first_wefts : Cal P w K mg base (L2N.CX P w) 5 "first_wefts" ["cloth"] (spX K R_first_wefts (noC 0 aC))) (C_least_draft : Cal P w K mg base (L2N.CX P w) 6 "least_draft" ["cloth"] (spX K R_least_draft (noC 0 aC))) (C_shown_cloth : Cal P w K mg base (L2N.CX P w) 5 "shown_cloth" ["cloth"] (spX K R_shown_cloth (noC 0 aC))) (C_raised_threads : Cal P w K mg base (L2N.CX P w) 5 "raised_threads" ["cloth"] (spXP K A_raised_threads P_raised_threads (noC 0 aC))) (C_quarter_turned : Cal P w K mg base (L2N.CX P w) 5 "quarter_turned" ["cloth"] (spX K R_quarter_turned (noC 0 aC))) (C_turned_over : Cal P w K mg base (L2N.CX P w) 5 "turned_over" ["cloth"] (spX K R_turned_over (noC 0 aC))) (C_weft_between : Cal P w K mg base (L2N.CX P w) 5 "weft_between" ["cloth", "one", "other"] (spX K R_weft_between (noC 2 aC))) (C_warp_between : Cal P w K mg base (L2N.CX P w) 5 "warp_between" ["cloth", "one", "other"] (spX K R_warp_between (noC 2 aC))) (C_lies_above : Cal P w K mg base (L2N.CX P w) 5 "lies_above" ["cloth", "one", "other"] (spX K R_lies_above (noC 2 aC))) (C_way_up : Cal P w K mg base (L2N.CX P w) 5 "way_up" ["cloth", "one", "other"] (spXP K A_way_up P_way_up (noC 2 aC))) (C_repeated_cloth : Cal P w K mg base (L2N.CX P w) 5 "repeated_cloth" ["cloth", "down", "across"] (spX K (fun _ _ => False) (S_repeated_cloth aC aF))) (C_weave : Cal P w K mg base (L2N.CX P w) 6 "weave" ["draft"] (spX K R_weave (noD 0 aD))) (C_draft_quartered : Cal P w K mg base (L2N.CX P w) 6 "draft_quartered" ["draft"] (spX K R_draft_quartered (noD 0 aD))) (C_draft_over : Cal P w K mg base (L2N.CX P w) 6 "draft_over" ["draft"] (spX K R_draft_over (noD 0 aD))) (D_ : Dfn K mg "_law_asked_one" s__law_asked_one ["_law_which", "_law_cloth", "_law_draft"]) : Cal P w K mg base (L2N.CX P w) 7 "_law_asked_one" ["_law_which", "_law_cloth", "_law_draft"] (spX K R__law_asked_one (S__law_asked_one aC aD aF)) := by
  refine cal_spX D_ sc__law_asked_one (fun vs H Q E h => ?_) (fun f cdv A outer s H vs Q E hr h => ⟨_, (pss_one (ps_if (pt_cmpR (op_eqDK K hr.units) (pv 0) pe_int (nomark _))
    (pss_one (ps_expr (pe_calX P w mg base C_first_warps (hr.mono (by decide)) (L2N.takes_of rfl rfl rfl rfl) (by rfl) (pa_cons (pv 1) pa_nil))))
    (pss_one (ps_if (pt_cmpR (op_eqDK K hr.units) (pv 0) pe_int (nomark _))
    (pss_one (ps_expr (pe_calX P w mg base C_first_wefts (hr.mono (by decide)) (L2N.takes_of rfl rfl rfl rfl) (by rfl) (pa_cons (pv 1) pa_nil))))
    (pss_one (ps_if (pt_cmpR (op_eqDK K hr.units) (pv 0) pe_int (nomark _))
    (pss_one (ps_expr (pe_calX P w mg base C_least_draft (hr.mono (by decide)) (L2N.takes_of rfl rfl rfl rfl) (by rfl) (pa_cons (pv 1) pa_nil))))
    (pss_one (ps_if (pt_cmpR (op_eqDK K hr.units) (pv 0) pe_int (nomark _))
    (pss_one (ps_expr (pe_calX P w mg base C_shown_cloth (hr.mono (by decide)) (L2N.takes_of rfl rfl rfl rfl) (by rfl) (pa_cons (pv 1) pa_nil))))
    (pss_one (ps_if (pt_cmpR (op_eqDK K hr.units) (pv 0) pe_int (nomark _))
    (pss_one (ps_expr (pe_calX P w mg base C_raised_threads (hr.mono (by decide)) (L2N.takes_of rfl rfl rfl rfl) (by rfl) (pa_cons (pv 1) pa_nil))))
    (pss_one (ps_if (pt_cmpR (op_eqDK K hr.units) (pv 0) pe_int (nomark _))
    (pss_one (ps_expr (pe_calX P w mg base C_quarter_turned (hr.mono (by decide)) (L2N.takes_of rfl rfl rfl rfl) (by rfl) (pa_cons (pv 1) pa_nil))))
    (pss_one (ps_if (pt_cmpR (op_eqDK K hr.units) (pv 0) pe_int (nomark _))
    (pss_one (ps_expr (pe_calX P w mg base C_turned_over (hr.mono (by decide)) (L2N.takes_of rfl rfl rfl rfl) (by rfl) (pa_cons (pv 1) pa_nil))))
    (pss_one (ps_if (pt_cmpR (op_eqDK K hr.units) (pv 0) pe_int (nomark _))
    (pss_one (ps_expr (pe_calX P w mg base C_weft_between (hr.mono (by decide)) (L2N.takes_of rfl rfl rfl rfl) (by rfl) (pa_cons (pv 1) (pa_cons pe_int (pa_cons pe_int pa_nil))))))
    (pss_one (ps_if (pt_cmpR (op_eqDK K hr.units) (pv 0) pe_int (nomark _))
    (pss_one (ps_expr (pe_calX P w mg base C_warp_between (hr.mono (by decide)) (L2N.takes_of rfl rfl rfl rfl) (by rfl) (pa_cons (pv 1) (pa_cons pe_int (pa_cons pe_int pa_nil))))))
    (pss_one (ps_if (pt_cmpR (op_eqDK K hr.units) (pv 0) pe_int (nomark _))
    (pss_one (ps_expr (pe_calX P w mg base C_lies_above (hr.mono (by decide)) (L2N.takes_of rfl rfl rfl rfl) (by rfl) (pa_cons (pv 1) (pa_cons (pe_tup (pa_cons pe_str (pa_cons pe_int pa_nil))) (pa_cons (pe_tup (pa_cons pe_str (pa_cons pe_int pa_nil))) pa_nil))))))
    (pss_one (ps_if (pt_cmpR (op_eqDK K hr.units) (pv 0) pe_int (nomark _))
    (pss_one (ps_expr (pe_calX P w mg base C_way_up (hr.mono (by decide)) (L2N.takes_of rfl rfl rfl rfl) (by rfl) (pa_cons (pv 1) (pa_cons (pe_tup (pa_cons pe_str (pa_cons pe_int pa_nil))) (pa_cons (pe_tup (pa_cons pe_str (pa_cons pe_int pa_nil))) pa_nil))))))
    (pss_one (ps_if (pt_cmpR (op_eqDK K hr.units) (pv 0) pe_int (nomark _))
    (pss_one (ps_expr (pe_calX P w mg base C_repeated_cloth (hr.mono (by decide)) (L2N.takes_of rfl rfl rfl rfl) (by rfl) (pa_cons (pv 1) (pa_cons pe_int (pa_cons pe_int pa_nil))))))
    (pss_one (ps_if (pt_cmpR (op_eqDK K hr.units) (pv 0) pe_int (nomark _))
    (pss_one (ps_expr (pe_calX P w mg base C_weave (hr.mono (by decide)) (L2N.takes_of rfl rfl rfl rfl) (by rfl) (pa_cons (pv 2) pa_nil))))
    (pss_one (ps_if (pt_cmpR (op_eqDK K hr.units) (pv 0) pe_int (nomark _))
    (pss_one (ps_expr (pe_calX P w mg base C_draft_quartered (hr.mono (by decide)) (L2N.takes_of rfl rfl rfl rfl) (by rfl) (pa_cons (pv 2) pa_nil))))
    (pss_one (ps_expr (pe_calX P w mg base C_draft_over (hr.mono (by decide)) (L2N.takes_of rfl rfl rfl rfl) (by rfl) (pa_cons (pv 2) pa_nil)))))))))))))))))))))))))))))))), ?_⟩)
  · obtain ⟨zs, r1, ⟨r, ⟨w, c, d, rfl, _⟩, _⟩ | ⟨C, ⟨w, c, d, e, rfl, _⟩, _⟩⟩ := h
    · exact r1.len
    · exact r1.len
  · have tq : ∀ (ρ : Rho) (w k : Int), ρ[0]? = some (some (.d (.int w))) → VT K (tTest (tOp (rEqD K) (tVar 0) (tC (.int k)))) ρ (decide (w = k)) := fun ρ w k h => t_test (v_eqI (v_var h) v_int)
    obtain ⟨zs, r1, ⟨r, ⟨w, c, d, rfl, ⟨hw, ⟨c0, g, rfl⟩, ⟨d0, gd, rfl⟩⟩, rfl⟩, k⟩ | ⟨C, ⟨w, c, d, e, rfl, ⟨hw, hb⟩, rfl⟩, k⟩⟩ := h
    · have n0 : Env K H (L2.start N__law_asked_one vs) [some (.d (.int w)), some (.d (enc c0)), some (.d (enc d0))] := Env.start (N := N__law_asked_one) r1
      generalize L2.start N__law_asked_one vs = σ0 at n0
      have k' : ∀ H', Ex H H' → Q .non H' := fun H' e => k .non H' e ⟨[], .non, fun _ z => nomatch z⟩
      have cases_ : w = 0 ∨ w = 1 ∨ w = 2 ∨ w = 3 ∨ w = 4 ∨ w = 5 ∨ w = 6 ∨ w = 7 ∨ w = 8 ∨ w = 9 ∨ w = 10 ∨ w = 14 ∨ w = 15 ∨ w = 16 := by omega
      rcases cases_ with hk | hk | hk | hk | hk | hk | hk | hk | hk | hk | hk | hk | hk | hk
      · -- 0
        refine s_ifYes (tq _ w 0 rfl) (decide_eq_true (by omega)) n0 fun H1 e1 => ?_
        have n1 := Env.mono e1 n0
        have E1 := e1
        exact s_goodX (zs := [.d (enc c0)]) (a_cons (v_var rfl) a_nil) n1 ⟨c0, rfl, g, rfl⟩ fun Hz ez => k' Hz (E1.trans ez)
      · -- 1
        refine s_ifNo (tq _ w 0 rfl) (decide_eq_false (by omega)) n0 fun H1 e1 => ?_
        have n1 := Env.mono e1 n0
        have E1 := e1
        refine s_ifYes (tq _ w 1 rfl) (decide_eq_true (by omega)) n1 fun H2 e2 => ?_
        have n2 := Env.mono e2 n1
        have E2 := E1.trans e2
        exact s_goodX (zs := [.d (enc c0)]) (a_cons (v_var rfl) a_nil) n2 ⟨c0, rfl, g, rfl⟩ fun Hz ez => k' Hz (E2.trans ez)
      · -- 2
        refine s_ifNo (tq _ w 0 rfl) (decide_eq_false (by omega)) n0 fun H1 e1 => ?_
        have n1 := Env.mono e1 n0
        have E1 := e1
        refine s_ifNo (tq _ w 1 rfl) (decide_eq_false (by omega)) n1 fun H2 e2 => ?_
        have n2 := Env.mono e2 n1
        have E2 := E1.trans e2
        refine s_ifYes (tq _ w 2 rfl) (decide_eq_true (by omega)) n2 fun H3 e3 => ?_
        have n3 := Env.mono e3 n2
        have E3 := E2.trans e3
        exact s_goodX (zs := [.d (enc c0)]) (a_cons (v_var rfl) a_nil) n3 ⟨c0, rfl, g, rfl⟩ fun Hz ez => k' Hz (E3.trans ez)
      · -- 3
        refine s_ifNo (tq _ w 0 rfl) (decide_eq_false (by omega)) n0 fun H1 e1 => ?_
        have n1 := Env.mono e1 n0
        have E1 := e1
        refine s_ifNo (tq _ w 1 rfl) (decide_eq_false (by omega)) n1 fun H2 e2 => ?_
        have n2 := Env.mono e2 n1
        have E2 := E1.trans e2
        refine s_ifNo (tq _ w 2 rfl) (decide_eq_false (by omega)) n2 fun H3 e3 => ?_
        have n3 := Env.mono e3 n2
        have E3 := E2.trans e3
        refine s_ifYes (tq _ w 3 rfl) (decide_eq_true (by omega)) n3 fun H4 e4 => ?_
        have n4 := Env.mono e4 n3
        have E4 := E3.trans e4
        exact s_goodX (zs := [.d (enc c0)]) (a_cons (v_var rfl) a_nil) n4 ⟨c0, rfl, g, rfl⟩ fun Hz ez => k' Hz (E4.trans ez)
      · -- 4
        refine s_ifNo (tq _ w 0 rfl) (decide_eq_false (by omega)) n0 fun H1 e1 => ?_
        have n1 := Env.mono e1 n0
        have E1 := e1
        refine s_ifNo (tq _ w 1 rfl) (decide_eq_false (by omega)) n1 fun H2 e2 => ?_
        have n2 := Env.mono e2 n1
        have E2 := E1.trans e2
        refine s_ifNo (tq _ w 2 rfl) (decide_eq_false (by omega)) n2 fun H3 e3 => ?_
        have n3 := Env.mono e3 n2
        have E3 := E2.trans e3
        refine s_ifNo (tq _ w 3 rfl) (decide_eq_false (by omega)) n3 fun H4 e4 => ?_
        have n4 := Env.mono e4 n3
        have E4 := E3.trans e4
        refine s_ifYes (tq _ w 4 rfl) (decide_eq_true (by omega)) n4 fun H5 e5 => ?_
        have n5 := Env.mono e5 n4
        have E5 := E4.trans e5
        exact s_goodXP (zs := [.d (enc c0)]) (a_cons (v_var rfl) a_nil) n5 ⟨c0, rfl, g⟩ fun Hz ez => k' Hz (E5.trans ez)
      · -- 5
        refine s_ifNo (tq _ w 0 rfl) (decide_eq_false (by omega)) n0 fun H1 e1 => ?_
        have n1 := Env.mono e1 n0
        have E1 := e1
        refine s_ifNo (tq _ w 1 rfl) (decide_eq_false (by omega)) n1 fun H2 e2 => ?_
        have n2 := Env.mono e2 n1
        have E2 := E1.trans e2
        refine s_ifNo (tq _ w 2 rfl) (decide_eq_false (by omega)) n2 fun H3 e3 => ?_
        have n3 := Env.mono e3 n2
        have E3 := E2.trans e3
        refine s_ifNo (tq _ w 3 rfl) (decide_eq_false (by omega)) n3 fun H4 e4 => ?_
        have n4 := Env.mono e4 n3
        have E4 := E3.trans e4
        refine s_ifNo (tq _ w 4 rfl) (decide_eq_false (by omega)) n4 fun H5 e5 => ?_
        have n5 := Env.mono e5 n4
        have E5 := E4.trans e5
        refine s_ifYes (tq _ w 5 rfl) (decide_eq_true (by omega)) n5 fun H6 e6 => ?_
        have n6 := Env.mono e6 n5
        have E6 := E5.trans e6
        exact s_goodX (zs := [.d (enc c0)]) (a_cons (v_var rfl) a_nil) n6 ⟨c0, rfl, g, rfl⟩ fun Hz ez => k' Hz (E6.trans ez)
      · -- 6
        refine s_ifNo (tq _ w 0 rfl) (decide_eq_false (by omega)) n0 fun H1 e1 => ?_
        have n1 := Env.mono e1 n0
        have E1 := e1
        refine s_ifNo (tq _ w 1 rfl) (decide_eq_false (by omega)) n1 fun H2 e2 => ?_
        have n2 := Env.mono e2 n1
        have E2 := E1.trans e2
        refine s_ifNo (tq _ w 2 rfl) (decide_eq_false (by omega)) n2 fun H3 e3 => ?_
        have n3 := Env.mono e3 n2
        have E3 := E2.trans e3
        refine s_ifNo (tq _ w 3 rfl) (decide_eq_false (by omega)) n3 fun H4 e4 => ?_
        have n4 := Env.mono e4 n3
        have E4 := E3.trans e4
        refine s_ifNo (tq _ w 4 rfl) (decide_eq_false (by omega)) n4 fun H5 e5 => ?_
        have n5 := Env.mono e5 n4
        have E5 := E4.trans e5
        refine s_ifNo (tq _ w 5 rfl) (decide_eq_false (by omega)) n5 fun H6 e6 => ?_
        have n6 := Env.mono e6 n5
        have E6 := E5.trans e6
        refine s_ifYes (tq _ w 6 rfl) (decide_eq_true (by omega)) n6 fun H7 e7 => ?_
        have n7 := Env.mono e7 n6
        have E7 := E6.trans e7
        exact s_goodX (zs := [.d (enc c0)]) (a_cons (v_var rfl) a_nil) n7 ⟨c0, rfl, g, rfl⟩ fun Hz ez => k' Hz (E7.trans ez)
      · -- 7
        refine s_ifNo (tq _ w 0 rfl) (decide_eq_false (by omega)) n0 fun H1 e1 => ?_
        have n1 := Env.mono e1 n0
        have E1 := e1
        refine s_ifNo (tq _ w 1 rfl) (decide_eq_false (by omega)) n1 fun H2 e2 => ?_
        have n2 := Env.mono e2 n1
        have E2 := E1.trans e2
        refine s_ifNo (tq _ w 2 rfl) (decide_eq_false (by omega)) n2 fun H3 e3 => ?_
        have n3 := Env.mono e3 n2
        have E3 := E2.trans e3
        refine s_ifNo (tq _ w 3 rfl) (decide_eq_false (by omega)) n3 fun H4 e4 => ?_
        have n4 := Env.mono e4 n3
        have E4 := E3.trans e4
        refine s_ifNo (tq _ w 4 rfl) (decide_eq_false (by omega)) n4 fun H5 e5 => ?_
        have n5 := Env.mono e5 n4
        have E5 := E4.trans e5
        refine s_ifNo (tq _ w 5 rfl) (decide_eq_false (by omega)) n5 fun H6 e6 => ?_
        have n6 := Env.mono e6 n5
        have E6 := E5.trans e6
        refine s_ifNo (tq _ w 6 rfl) (decide_eq_false (by omega)) n6 fun H7 e7 => ?_
        have n7 := Env.mono e7 n6
        have E7 := E6.trans e7
        refine s_ifYes (tq _ w 7 rfl) (decide_eq_true (by omega)) n7 fun H8 e8 => ?_
        have n8 := Env.mono e8 n7
        have E8 := E7.trans e8
        exact s_goodX (zs := [.d (enc c0), .d (.int 0), .d (.int 0)]) (a_cons (v_var rfl) (a_cons v_int (a_cons v_int a_nil))) n8 ⟨c0, 0, 0, rfl, g, by have := g.wide; omega, by have := g.wide; omega, rfl⟩ fun Hz ez => k' Hz (E8.trans ez)
      · -- 8
        refine s_ifNo (tq _ w 0 rfl) (decide_eq_false (by omega)) n0 fun H1 e1 => ?_
        have n1 := Env.mono e1 n0
        have E1 := e1
        refine s_ifNo (tq _ w 1 rfl) (decide_eq_false (by omega)) n1 fun H2 e2 => ?_
        have n2 := Env.mono e2 n1
        have E2 := E1.trans e2
        refine s_ifNo (tq _ w 2 rfl) (decide_eq_false (by omega)) n2 fun H3 e3 => ?_
        have n3 := Env.mono e3 n2
        have E3 := E2.trans e3
        refine s_ifNo (tq _ w 3 rfl) (decide_eq_false (by omega)) n3 fun H4 e4 => ?_
        have n4 := Env.mono e4 n3
        have E4 := E3.trans e4
        refine s_ifNo (tq _ w 4 rfl) (decide_eq_false (by omega)) n4 fun H5 e5 => ?_
        have n5 := Env.mono e5 n4
        have E5 := E4.trans e5
        refine s_ifNo (tq _ w 5 rfl) (decide_eq_false (by omega)) n5 fun H6 e6 => ?_
        have n6 := Env.mono e6 n5
        have E6 := E5.trans e6
        refine s_ifNo (tq _ w 6 rfl) (decide_eq_false (by omega)) n6 fun H7 e7 => ?_
        have n7 := Env.mono e7 n6
        have E7 := E6.trans e7
        refine s_ifNo (tq _ w 7 rfl) (decide_eq_false (by omega)) n7 fun H8 e8 => ?_
        have n8 := Env.mono e8 n7
        have E8 := E7.trans e8
        refine s_ifYes (tq _ w 8 rfl) (decide_eq_true (by omega)) n8 fun H9 e9 => ?_
        have n9 := Env.mono e9 n8
        have E9 := E8.trans e9
        exact s_goodX (zs := [.d (enc c0), .d (.int 0), .d (.int 0)]) (a_cons (v_var rfl) (a_cons v_int (a_cons v_int a_nil))) n9 ⟨c0, 0, 0, rfl, g, g.pos, g.pos, rfl⟩ fun Hz ez => k' Hz (E9.trans ez)
      · -- 9
        refine s_ifNo (tq _ w 0 rfl) (decide_eq_false (by omega)) n0 fun H1 e1 => ?_
        have n1 := Env.mono e1 n0
        have E1 := e1
        refine s_ifNo (tq _ w 1 rfl) (decide_eq_false (by omega)) n1 fun H2 e2 => ?_
        have n2 := Env.mono e2 n1
        have E2 := E1.trans e2
        refine s_ifNo (tq _ w 2 rfl) (decide_eq_false (by omega)) n2 fun H3 e3 => ?_
        have n3 := Env.mono e3 n2
        have E3 := E2.trans e3
        refine s_ifNo (tq _ w 3 rfl) (decide_eq_false (by omega)) n3 fun H4 e4 => ?_
        have n4 := Env.mono e4 n3
        have E4 := E3.trans e4
        refine s_ifNo (tq _ w 4 rfl) (decide_eq_false (by omega)) n4 fun H5 e5 => ?_
        have n5 := Env.mono e5 n4
        have E5 := E4.trans e5
        refine s_ifNo (tq _ w 5 rfl) (decide_eq_false (by omega)) n5 fun H6 e6 => ?_
        have n6 := Env.mono e6 n5
        have E6 := E5.trans e6
        refine s_ifNo (tq _ w 6 rfl) (decide_eq_false (by omega)) n6 fun H7 e7 => ?_
        have n7 := Env.mono e7 n6
        have E7 := E6.trans e7
        refine s_ifNo (tq _ w 7 rfl) (decide_eq_false (by omega)) n7 fun H8 e8 => ?_
        have n8 := Env.mono e8 n7
        have E8 := E7.trans e8
        refine s_ifNo (tq _ w 8 rfl) (decide_eq_false (by omega)) n8 fun H9 e9 => ?_
        have n9 := Env.mono e9 n8
        have E9 := E8.trans e9
        refine s_ifYes (tq _ w 9 rfl) (decide_eq_true (by omega)) n9 fun H10 e10 => ?_
        have n10 := Env.mono e10 n9
        have E10 := E9.trans e10
        exact s_goodX (zs := [.d (enc c0), .d (.tuple [.str "warp", .int 0]), .d (.tuple [.str "weft", .int 0])]) (a_cons (v_var rfl) (a_cons (v_tup (ds := [.str "warp", .int 0]) (a_cons v_str (a_cons v_int a_nil)) (by decide)) (a_cons (v_tup (ds := [.str "weft", .int 0]) (a_cons v_str (a_cons v_int a_nil)) (by decide)) a_nil))) n10 ⟨c0, ⟨true, 0⟩, ⟨false, 0⟩, rfl, g, (ok_warp.mpr (by have h := g.wide; exact ⟨by decide, by show (0 : Int) < ((c0.getD 0 default).length : Int); omega⟩)), (ok_weft.mpr (by have h := g.len; omega)), rfl⟩ fun Hz ez => k' Hz (E10.trans ez)
      · -- 10
        refine s_ifNo (tq _ w 0 rfl) (decide_eq_false (by omega)) n0 fun H1 e1 => ?_
        have n1 := Env.mono e1 n0
        have E1 := e1
        refine s_ifNo (tq _ w 1 rfl) (decide_eq_false (by omega)) n1 fun H2 e2 => ?_
        have n2 := Env.mono e2 n1
        have E2 := E1.trans e2
        refine s_ifNo (tq _ w 2 rfl) (decide_eq_false (by omega)) n2 fun H3 e3 => ?_
        have n3 := Env.mono e3 n2
        have E3 := E2.trans e3
        refine s_ifNo (tq _ w 3 rfl) (decide_eq_false (by omega)) n3 fun H4 e4 => ?_
        have n4 := Env.mono e4 n3
        have E4 := E3.trans e4
        refine s_ifNo (tq _ w 4 rfl) (decide_eq_false (by omega)) n4 fun H5 e5 => ?_
        have n5 := Env.mono e5 n4
        have E5 := E4.trans e5
        refine s_ifNo (tq _ w 5 rfl) (decide_eq_false (by omega)) n5 fun H6 e6 => ?_
        have n6 := Env.mono e6 n5
        have E6 := E5.trans e6
        refine s_ifNo (tq _ w 6 rfl) (decide_eq_false (by omega)) n6 fun H7 e7 => ?_
        have n7 := Env.mono e7 n6
        have E7 := E6.trans e7
        refine s_ifNo (tq _ w 7 rfl) (decide_eq_false (by omega)) n7 fun H8 e8 => ?_
        have n8 := Env.mono e8 n7
        have E8 := E7.trans e8
        refine s_ifNo (tq _ w 8 rfl) (decide_eq_false (by omega)) n8 fun H9 e9 => ?_
        have n9 := Env.mono e9 n8
        have E9 := E8.trans e9
        refine s_ifNo (tq _ w 9 rfl) (decide_eq_false (by omega)) n9 fun H10 e10 => ?_
        have n10 := Env.mono e10 n9
        have E10 := E9.trans e10
        refine s_ifYes (tq _ w 10 rfl) (decide_eq_true (by omega)) n10 fun H11 e11 => ?_
        have n11 := Env.mono e11 n10
        have E11 := E10.trans e11
        exact s_goodXP (zs := [.d (enc c0), .d (.tuple [.str "warp", .int 0]), .d (.tuple [.str "weft", .int 0])]) (a_cons (v_var rfl) (a_cons (v_tup (ds := [.str "warp", .int 0]) (a_cons v_str (a_cons v_int a_nil)) (by decide)) (a_cons (v_tup (ds := [.str "weft", .int 0]) (a_cons v_str (a_cons v_int a_nil)) (by decide)) a_nil))) n11 ⟨c0, ⟨true, 0⟩, ⟨false, 0⟩, rfl, g, (ok_warp.mpr (by have h := g.wide; exact ⟨by decide, by show (0 : Int) < ((c0.getD 0 default).length : Int); omega⟩)), (ok_weft.mpr (by have h := g.len; omega))⟩ fun Hz ez => k' Hz (E11.trans ez)
      · -- 14
        refine s_ifNo (tq _ w 0 rfl) (decide_eq_false (by omega)) n0 fun H1 e1 => ?_
        have n1 := Env.mono e1 n0
        have E1 := e1
        refine s_ifNo (tq _ w 1 rfl) (decide_eq_false (by omega)) n1 fun H2 e2 => ?_
        have n2 := Env.mono e2 n1
        have E2 := E1.trans e2
        refine s_ifNo (tq _ w 2 rfl) (decide_eq_false (by omega)) n2 fun H3 e3 => ?_
        have n3 := Env.mono e3 n2
        have E3 := E2.trans e3
        refine s_ifNo (tq _ w 3 rfl) (decide_eq_false (by omega)) n3 fun H4 e4 => ?_
        have n4 := Env.mono e4 n3
        have E4 := E3.trans e4
        refine s_ifNo (tq _ w 4 rfl) (decide_eq_false (by omega)) n4 fun H5 e5 => ?_
        have n5 := Env.mono e5 n4
        have E5 := E4.trans e5
        refine s_ifNo (tq _ w 5 rfl) (decide_eq_false (by omega)) n5 fun H6 e6 => ?_
        have n6 := Env.mono e6 n5
        have E6 := E5.trans e6
        refine s_ifNo (tq _ w 6 rfl) (decide_eq_false (by omega)) n6 fun H7 e7 => ?_
        have n7 := Env.mono e7 n6
        have E7 := E6.trans e7
        refine s_ifNo (tq _ w 7 rfl) (decide_eq_false (by omega)) n7 fun H8 e8 => ?_
        have n8 := Env.mono e8 n7
        have E8 := E7.trans e8
        refine s_ifNo (tq _ w 8 rfl) (decide_eq_false (by omega)) n8 fun H9 e9 => ?_
        have n9 := Env.mono e9 n8
        have E9 := E8.trans e9
        refine s_ifNo (tq _ w 9 rfl) (decide_eq_false (by omega)) n9 fun H10 e10 => ?_
        have n10 := Env.mono e10 n9
        have E10 := E9.trans e10
        refine s_ifNo (tq _ w 10 rfl) (decide_eq_false (by omega)) n10 fun H11 e11 => ?_
        have n11 := Env.mono e11 n10
        have E11 := E10.trans e11
        refine s_ifNo (tq _ w 13 rfl) (decide_eq_false (by omega)) n11 fun H12 e12 => ?_
        have n12 := Env.mono e12 n11
        have E12 := E11.trans e12
        refine s_ifYes (tq _ w 14 rfl) (decide_eq_true (by omega)) n12 fun H13 e13 => ?_
        have n13 := Env.mono e13 n12
        have E13 := E12.trans e13
        exact s_goodX (zs := [.d (enc d0)]) (a_cons (v_var rfl) a_nil) n13 ⟨d0, rfl, gd, rfl⟩ fun Hz ez => k' Hz (E13.trans ez)
      · -- 15
        refine s_ifNo (tq _ w 0 rfl) (decide_eq_false (by omega)) n0 fun H1 e1 => ?_
        have n1 := Env.mono e1 n0
        have E1 := e1
        refine s_ifNo (tq _ w 1 rfl) (decide_eq_false (by omega)) n1 fun H2 e2 => ?_
        have n2 := Env.mono e2 n1
        have E2 := E1.trans e2
        refine s_ifNo (tq _ w 2 rfl) (decide_eq_false (by omega)) n2 fun H3 e3 => ?_
        have n3 := Env.mono e3 n2
        have E3 := E2.trans e3
        refine s_ifNo (tq _ w 3 rfl) (decide_eq_false (by omega)) n3 fun H4 e4 => ?_
        have n4 := Env.mono e4 n3
        have E4 := E3.trans e4
        refine s_ifNo (tq _ w 4 rfl) (decide_eq_false (by omega)) n4 fun H5 e5 => ?_
        have n5 := Env.mono e5 n4
        have E5 := E4.trans e5
        refine s_ifNo (tq _ w 5 rfl) (decide_eq_false (by omega)) n5 fun H6 e6 => ?_
        have n6 := Env.mono e6 n5
        have E6 := E5.trans e6
        refine s_ifNo (tq _ w 6 rfl) (decide_eq_false (by omega)) n6 fun H7 e7 => ?_
        have n7 := Env.mono e7 n6
        have E7 := E6.trans e7
        refine s_ifNo (tq _ w 7 rfl) (decide_eq_false (by omega)) n7 fun H8 e8 => ?_
        have n8 := Env.mono e8 n7
        have E8 := E7.trans e8
        refine s_ifNo (tq _ w 8 rfl) (decide_eq_false (by omega)) n8 fun H9 e9 => ?_
        have n9 := Env.mono e9 n8
        have E9 := E8.trans e9
        refine s_ifNo (tq _ w 9 rfl) (decide_eq_false (by omega)) n9 fun H10 e10 => ?_
        have n10 := Env.mono e10 n9
        have E10 := E9.trans e10
        refine s_ifNo (tq _ w 10 rfl) (decide_eq_false (by omega)) n10 fun H11 e11 => ?_
        have n11 := Env.mono e11 n10
        have E11 := E10.trans e11
        refine s_ifNo (tq _ w 13 rfl) (decide_eq_false (by omega)) n11 fun H12 e12 => ?_
        have n12 := Env.mono e12 n11
        have E12 := E11.trans e12
        refine s_ifNo (tq _ w 14 rfl) (decide_eq_false (by omega)) n12 fun H13 e13 => ?_
        have n13 := Env.mono e13 n12
        have E13 := E12.trans e13
        refine s_ifYes (tq _ w 15 rfl) (decide_eq_true (by omega)) n13 fun H14 e14 => ?_
        have n14 := Env.mono e14 n13
        have E14 := E13.trans e14
        exact s_goodX (zs := [.d (enc d0)]) (a_cons (v_var rfl) a_nil) n14 ⟨d0, rfl, gd, rfl⟩ fun Hz ez => k' Hz (E14.trans ez)
      · -- 16
        refine s_ifNo (tq _ w 0 rfl) (decide_eq_false (by omega)) n0 fun H1 e1 => ?_
        have n1 := Env.mono e1 n0
        have E1 := e1
        refine s_ifNo (tq _ w 1 rfl) (decide_eq_false (by omega)) n1 fun H2 e2 => ?_
        have n2 := Env.mono e2 n1
        have E2 := E1.trans e2
        refine s_ifNo (tq _ w 2 rfl) (decide_eq_false (by omega)) n2 fun H3 e3 => ?_
        have n3 := Env.mono e3 n2
        have E3 := E2.trans e3
        refine s_ifNo (tq _ w 3 rfl) (decide_eq_false (by omega)) n3 fun H4 e4 => ?_
        have n4 := Env.mono e4 n3
        have E4 := E3.trans e4
        refine s_ifNo (tq _ w 4 rfl) (decide_eq_false (by omega)) n4 fun H5 e5 => ?_
        have n5 := Env.mono e5 n4
        have E5 := E4.trans e5
        refine s_ifNo (tq _ w 5 rfl) (decide_eq_false (by omega)) n5 fun H6 e6 => ?_
        have n6 := Env.mono e6 n5
        have E6 := E5.trans e6
        refine s_ifNo (tq _ w 6 rfl) (decide_eq_false (by omega)) n6 fun H7 e7 => ?_
        have n7 := Env.mono e7 n6
        have E7 := E6.trans e7
        refine s_ifNo (tq _ w 7 rfl) (decide_eq_false (by omega)) n7 fun H8 e8 => ?_
        have n8 := Env.mono e8 n7
        have E8 := E7.trans e8
        refine s_ifNo (tq _ w 8 rfl) (decide_eq_false (by omega)) n8 fun H9 e9 => ?_
        have n9 := Env.mono e9 n8
        have E9 := E8.trans e9
        refine s_ifNo (tq _ w 9 rfl) (decide_eq_false (by omega)) n9 fun H10 e10 => ?_
        have n10 := Env.mono e10 n9
        have E10 := E9.trans e10
        refine s_ifNo (tq _ w 10 rfl) (decide_eq_false (by omega)) n10 fun H11 e11 => ?_
        have n11 := Env.mono e11 n10
        have E11 := E10.trans e11
        refine s_ifNo (tq _ w 13 rfl) (decide_eq_false (by omega)) n11 fun H12 e12 => ?_
        have n12 := Env.mono e12 n11
        have E12 := E11.trans e12
        refine s_ifNo (tq _ w 14 rfl) (decide_eq_false (by omega)) n12 fun H13 e13 => ?_
        have n13 := Env.mono e13 n12
        have E13 := E12.trans e13
        refine s_ifNo (tq _ w 15 rfl) (decide_eq_false (by omega)) n13 fun H14 e14 => ?_
        have n14 := Env.mono e14 n13
        have E14 := E13.trans e14
        exact s_goodX (zs := [.d (enc d0)]) (a_cons (v_var rfl) a_nil) n14 ⟨d0, rfl, gd, rfl⟩ fun Hz ez => k' Hz (E14.trans ez)
    · have n0 : Env K H (L2.start N__law_asked_one vs) [some (.d (.int w)), some (.d c), some (.d d)] := Env.start (N := N__law_asked_one) r1
      generalize L2.start N__law_asked_one vs = σ0 at n0
      have cases_ : w = 0 ∨ w = 1 ∨ w = 2 ∨ w = 3 ∨ w = 4 ∨ w = 5 ∨ w = 6 ∨ w = 7 ∨ w = 8 ∨ w = 9 ∨ w = 10 ∨ w = 13 ∨ w = 14 ∨ w = 15 ∨ w = 16 := by omega
      rcases cases_ with hk | hk | hk | hk | hk | hk | hk | hk | hk | hk | hk | hk | hk | hk | hk
      · -- 0
        have hx : isCloth c = false ∧ e = 0 := by rcases hb with ⟨_, h, h2⟩ | ⟨h, _⟩ | ⟨h, _⟩ <;> first | exact ⟨h, h2⟩ | omega
        obtain ⟨hd, rfl⟩ := hx
        refine s_ifYes (tq _ w 0 rfl) (decide_eq_true (by omega)) n0 fun H1 e1 => ?_
        have n1 := Env.mono e1 n0
        have E1 := e1
        exact s_badX (zs := [.d c]) (a_cons (v_var rfl) a_nil) n1 ⟨c, [], rfl, rfl, hd, rfl⟩ fun Hz ez => k Hz (E1.trans ez)
      · -- 1
        have hx : isCloth c = false ∧ e = 0 := by rcases hb with ⟨_, h, h2⟩ | ⟨h, _⟩ | ⟨h, _⟩ <;> first | exact ⟨h, h2⟩ | omega
        obtain ⟨hd, rfl⟩ := hx
        refine s_ifNo (tq _ w 0 rfl) (decide_eq_false (by omega)) n0 fun H1 e1 => ?_
        have n1 := Env.mono e1 n0
        have E1 := e1
        refine s_ifYes (tq _ w 1 rfl) (decide_eq_true (by omega)) n1 fun H2 e2 => ?_
        have n2 := Env.mono e2 n1
        have E2 := E1.trans e2
        exact s_badX (zs := [.d c]) (a_cons (v_var rfl) a_nil) n2 ⟨c, [], rfl, rfl, hd, rfl⟩ fun Hz ez => k Hz (E2.trans ez)
      · -- 2
        have hx : isCloth c = false ∧ e = 0 := by rcases hb with ⟨_, h, h2⟩ | ⟨h, _⟩ | ⟨h, _⟩ <;> first | exact ⟨h, h2⟩ | omega
        obtain ⟨hd, rfl⟩ := hx
        refine s_ifNo (tq _ w 0 rfl) (decide_eq_false (by omega)) n0 fun H1 e1 => ?_
        have n1 := Env.mono e1 n0
        have E1 := e1
        refine s_ifNo (tq _ w 1 rfl) (decide_eq_false (by omega)) n1 fun H2 e2 => ?_
        have n2 := Env.mono e2 n1
        have E2 := E1.trans e2
        refine s_ifYes (tq _ w 2 rfl) (decide_eq_true (by omega)) n2 fun H3 e3 => ?_
        have n3 := Env.mono e3 n2
        have E3 := E2.trans e3
        exact s_badX (zs := [.d c]) (a_cons (v_var rfl) a_nil) n3 ⟨c, [], rfl, rfl, hd, rfl⟩ fun Hz ez => k Hz (E3.trans ez)
      · -- 3
        have hx : isCloth c = false ∧ e = 0 := by rcases hb with ⟨_, h, h2⟩ | ⟨h, _⟩ | ⟨h, _⟩ <;> first | exact ⟨h, h2⟩ | omega
        obtain ⟨hd, rfl⟩ := hx
        refine s_ifNo (tq _ w 0 rfl) (decide_eq_false (by omega)) n0 fun H1 e1 => ?_
        have n1 := Env.mono e1 n0
        have E1 := e1
        refine s_ifNo (tq _ w 1 rfl) (decide_eq_false (by omega)) n1 fun H2 e2 => ?_
        have n2 := Env.mono e2 n1
        have E2 := E1.trans e2
        refine s_ifNo (tq _ w 2 rfl) (decide_eq_false (by omega)) n2 fun H3 e3 => ?_
        have n3 := Env.mono e3 n2
        have E3 := E2.trans e3
        refine s_ifYes (tq _ w 3 rfl) (decide_eq_true (by omega)) n3 fun H4 e4 => ?_
        have n4 := Env.mono e4 n3
        have E4 := E3.trans e4
        exact s_badX (zs := [.d c]) (a_cons (v_var rfl) a_nil) n4 ⟨c, [], rfl, rfl, hd, rfl⟩ fun Hz ez => k Hz (E4.trans ez)
      · -- 4
        have hx : isCloth c = false ∧ e = 0 := by rcases hb with ⟨_, h, h2⟩ | ⟨h, _⟩ | ⟨h, _⟩ <;> first | exact ⟨h, h2⟩ | omega
        obtain ⟨hd, rfl⟩ := hx
        refine s_ifNo (tq _ w 0 rfl) (decide_eq_false (by omega)) n0 fun H1 e1 => ?_
        have n1 := Env.mono e1 n0
        have E1 := e1
        refine s_ifNo (tq _ w 1 rfl) (decide_eq_false (by omega)) n1 fun H2 e2 => ?_
        have n2 := Env.mono e2 n1
        have E2 := E1.trans e2
        refine s_ifNo (tq _ w 2 rfl) (decide_eq_false (by omega)) n2 fun H3 e3 => ?_
        have n3 := Env.mono e3 n2
        have E3 := E2.trans e3
        refine s_ifNo (tq _ w 3 rfl) (decide_eq_false (by omega)) n3 fun H4 e4 => ?_
        have n4 := Env.mono e4 n3
        have E4 := E3.trans e4
        refine s_ifYes (tq _ w 4 rfl) (decide_eq_true (by omega)) n4 fun H5 e5 => ?_
        have n5 := Env.mono e5 n4
        have E5 := E4.trans e5
        exact s_badXP (zs := [.d c]) (a_cons (v_var rfl) a_nil) n5 ⟨c, [], rfl, rfl, hd, rfl⟩ fun Hz ez => k Hz (E5.trans ez)
      · -- 5
        have hx : isCloth c = false ∧ e = 0 := by rcases hb with ⟨_, h, h2⟩ | ⟨h, _⟩ | ⟨h, _⟩ <;> first | exact ⟨h, h2⟩ | omega
        obtain ⟨hd, rfl⟩ := hx
        refine s_ifNo (tq _ w 0 rfl) (decide_eq_false (by omega)) n0 fun H1 e1 => ?_
        have n1 := Env.mono e1 n0
        have E1 := e1
        refine s_ifNo (tq _ w 1 rfl) (decide_eq_false (by omega)) n1 fun H2 e2 => ?_
        have n2 := Env.mono e2 n1
        have E2 := E1.trans e2
        refine s_ifNo (tq _ w 2 rfl) (decide_eq_false (by omega)) n2 fun H3 e3 => ?_
        have n3 := Env.mono e3 n2
        have E3 := E2.trans e3
        refine s_ifNo (tq _ w 3 rfl) (decide_eq_false (by omega)) n3 fun H4 e4 => ?_
        have n4 := Env.mono e4 n3
        have E4 := E3.trans e4
        refine s_ifNo (tq _ w 4 rfl) (decide_eq_false (by omega)) n4 fun H5 e5 => ?_
        have n5 := Env.mono e5 n4
        have E5 := E4.trans e5
        refine s_ifYes (tq _ w 5 rfl) (decide_eq_true (by omega)) n5 fun H6 e6 => ?_
        have n6 := Env.mono e6 n5
        have E6 := E5.trans e6
        exact s_badX (zs := [.d c]) (a_cons (v_var rfl) a_nil) n6 ⟨c, [], rfl, rfl, hd, rfl⟩ fun Hz ez => k Hz (E6.trans ez)
      · -- 6
        have hx : isCloth c = false ∧ e = 0 := by rcases hb with ⟨_, h, h2⟩ | ⟨h, _⟩ | ⟨h, _⟩ <;> first | exact ⟨h, h2⟩ | omega
        obtain ⟨hd, rfl⟩ := hx
        refine s_ifNo (tq _ w 0 rfl) (decide_eq_false (by omega)) n0 fun H1 e1 => ?_
        have n1 := Env.mono e1 n0
        have E1 := e1
        refine s_ifNo (tq _ w 1 rfl) (decide_eq_false (by omega)) n1 fun H2 e2 => ?_
        have n2 := Env.mono e2 n1
        have E2 := E1.trans e2
        refine s_ifNo (tq _ w 2 rfl) (decide_eq_false (by omega)) n2 fun H3 e3 => ?_
        have n3 := Env.mono e3 n2
        have E3 := E2.trans e3
        refine s_ifNo (tq _ w 3 rfl) (decide_eq_false (by omega)) n3 fun H4 e4 => ?_
        have n4 := Env.mono e4 n3
        have E4 := E3.trans e4
        refine s_ifNo (tq _ w 4 rfl) (decide_eq_false (by omega)) n4 fun H5 e5 => ?_
        have n5 := Env.mono e5 n4
        have E5 := E4.trans e5
        refine s_ifNo (tq _ w 5 rfl) (decide_eq_false (by omega)) n5 fun H6 e6 => ?_
        have n6 := Env.mono e6 n5
        have E6 := E5.trans e6
        refine s_ifYes (tq _ w 6 rfl) (decide_eq_true (by omega)) n6 fun H7 e7 => ?_
        have n7 := Env.mono e7 n6
        have E7 := E6.trans e7
        exact s_badX (zs := [.d c]) (a_cons (v_var rfl) a_nil) n7 ⟨c, [], rfl, rfl, hd, rfl⟩ fun Hz ez => k Hz (E7.trans ez)
      · -- 7
        have hx : isCloth c = false ∧ e = 0 := by rcases hb with ⟨_, h, h2⟩ | ⟨h, _⟩ | ⟨h, _⟩ <;> first | exact ⟨h, h2⟩ | omega
        obtain ⟨hd, rfl⟩ := hx
        refine s_ifNo (tq _ w 0 rfl) (decide_eq_false (by omega)) n0 fun H1 e1 => ?_
        have n1 := Env.mono e1 n0
        have E1 := e1
        refine s_ifNo (tq _ w 1 rfl) (decide_eq_false (by omega)) n1 fun H2 e2 => ?_
        have n2 := Env.mono e2 n1
        have E2 := E1.trans e2
        refine s_ifNo (tq _ w 2 rfl) (decide_eq_false (by omega)) n2 fun H3 e3 => ?_
        have n3 := Env.mono e3 n2
        have E3 := E2.trans e3
        refine s_ifNo (tq _ w 3 rfl) (decide_eq_false (by omega)) n3 fun H4 e4 => ?_
        have n4 := Env.mono e4 n3
        have E4 := E3.trans e4
        refine s_ifNo (tq _ w 4 rfl) (decide_eq_false (by omega)) n4 fun H5 e5 => ?_
        have n5 := Env.mono e5 n4
        have E5 := E4.trans e5
        refine s_ifNo (tq _ w 5 rfl) (decide_eq_false (by omega)) n5 fun H6 e6 => ?_
        have n6 := Env.mono e6 n5
        have E6 := E5.trans e6
        refine s_ifNo (tq _ w 6 rfl) (decide_eq_false (by omega)) n6 fun H7 e7 => ?_
        have n7 := Env.mono e7 n6
        have E7 := E6.trans e7
        refine s_ifYes (tq _ w 7 rfl) (decide_eq_true (by omega)) n7 fun H8 e8 => ?_
        have n8 := Env.mono e8 n7
        have E8 := E7.trans e8
        exact s_badX (zs := [.d c, .d (.int 0), .d (.int 0)]) (a_cons (v_var rfl) (a_cons v_int (a_cons v_int a_nil))) n8 ⟨c, [.d (.int 0), .d (.int 0)], rfl, rfl, hd, rfl⟩ fun Hz ez => k Hz (E8.trans ez)
      · -- 8
        have hx : isCloth c = false ∧ e = 0 := by rcases hb with ⟨_, h, h2⟩ | ⟨h, _⟩ | ⟨h, _⟩ <;> first | exact ⟨h, h2⟩ | omega
        obtain ⟨hd, rfl⟩ := hx
        refine s_ifNo (tq _ w 0 rfl) (decide_eq_false (by omega)) n0 fun H1 e1 => ?_
        have n1 := Env.mono e1 n0
        have E1 := e1
        refine s_ifNo (tq _ w 1 rfl) (decide_eq_false (by omega)) n1 fun H2 e2 => ?_
        have n2 := Env.mono e2 n1
        have E2 := E1.trans e2
        refine s_ifNo (tq _ w 2 rfl) (decide_eq_false (by omega)) n2 fun H3 e3 => ?_
        have n3 := Env.mono e3 n2
        have E3 := E2.trans e3
        refine s_ifNo (tq _ w 3 rfl) (decide_eq_false (by omega)) n3 fun H4 e4 => ?_
        have n4 := Env.mono e4 n3
        have E4 := E3.trans e4
        refine s_ifNo (tq _ w 4 rfl) (decide_eq_false (by omega)) n4 fun H5 e5 => ?_
        have n5 := Env.mono e5 n4
        have E5 := E4.trans e5
        refine s_ifNo (tq _ w 5 rfl) (decide_eq_false (by omega)) n5 fun H6 e6 => ?_
        have n6 := Env.mono e6 n5
        have E6 := E5.trans e6
        refine s_ifNo (tq _ w 6 rfl) (decide_eq_false (by omega)) n6 fun H7 e7 => ?_
        have n7 := Env.mono e7 n6
        have E7 := E6.trans e7
        refine s_ifNo (tq _ w 7 rfl) (decide_eq_false (by omega)) n7 fun H8 e8 => ?_
        have n8 := Env.mono e8 n7
        have E8 := E7.trans e8
        refine s_ifYes (tq _ w 8 rfl) (decide_eq_true (by omega)) n8 fun H9 e9 => ?_
        have n9 := Env.mono e9 n8
        have E9 := E8.trans e9
        exact s_badX (zs := [.d c, .d (.int 0), .d (.int 0)]) (a_cons (v_var rfl) (a_cons v_int (a_cons v_int a_nil))) n9 ⟨c, [.d (.int 0), .d (.int 0)], rfl, rfl, hd, rfl⟩ fun Hz ez => k Hz (E9.trans ez)
      · -- 9
        have hx : isCloth c = false ∧ e = 0 := by rcases hb with ⟨_, h, h2⟩ | ⟨h, _⟩ | ⟨h, _⟩ <;> first | exact ⟨h, h2⟩ | omega
        obtain ⟨hd, rfl⟩ := hx
        refine s_ifNo (tq _ w 0 rfl) (decide_eq_false (by omega)) n0 fun H1 e1 => ?_
        have n1 := Env.mono e1 n0
        have E1 := e1
        refine s_ifNo (tq _ w 1 rfl) (decide_eq_false (by omega)) n1 fun H2 e2 => ?_
        have n2 := Env.mono e2 n1
        have E2 := E1.trans e2
        refine s_ifNo (tq _ w 2 rfl) (decide_eq_false (by omega)) n2 fun H3 e3 => ?_
        have n3 := Env.mono e3 n2
        have E3 := E2.trans e3
        refine s_ifNo (tq _ w 3 rfl) (decide_eq_false (by omega)) n3 fun H4 e4 => ?_
        have n4 := Env.mono e4 n3
        have E4 := E3.trans e4
        refine s_ifNo (tq _ w 4 rfl) (decide_eq_false (by omega)) n4 fun H5 e5 => ?_
        have n5 := Env.mono e5 n4
        have E5 := E4.trans e5
        refine s_ifNo (tq _ w 5 rfl) (decide_eq_false (by omega)) n5 fun H6 e6 => ?_
        have n6 := Env.mono e6 n5
        have E6 := E5.trans e6
        refine s_ifNo (tq _ w 6 rfl) (decide_eq_false (by omega)) n6 fun H7 e7 => ?_
        have n7 := Env.mono e7 n6
        have E7 := E6.trans e7
        refine s_ifNo (tq _ w 7 rfl) (decide_eq_false (by omega)) n7 fun H8 e8 => ?_
        have n8 := Env.mono e8 n7
        have E8 := E7.trans e8
        refine s_ifNo (tq _ w 8 rfl) (decide_eq_false (by omega)) n8 fun H9 e9 => ?_
        have n9 := Env.mono e9 n8
        have E9 := E8.trans e9
        refine s_ifYes (tq _ w 9 rfl) (decide_eq_true (by omega)) n9 fun H10 e10 => ?_
        have n10 := Env.mono e10 n9
        have E10 := E9.trans e10
        exact s_badX (zs := [.d c, .d (.tuple [.str "warp", .int 0]), .d (.tuple [.str "weft", .int 0])]) (a_cons (v_var rfl) (a_cons (v_tup (ds := [.str "warp", .int 0]) (a_cons v_str (a_cons v_int a_nil)) (by decide)) (a_cons (v_tup (ds := [.str "weft", .int 0]) (a_cons v_str (a_cons v_int a_nil)) (by decide)) a_nil))) n10 ⟨c, [.d (.tuple [.str "warp", .int 0]), .d (.tuple [.str "weft", .int 0])], rfl, rfl, hd, rfl⟩ fun Hz ez => k Hz (E10.trans ez)
      · -- 10
        have hx : isCloth c = false ∧ e = 0 := by rcases hb with ⟨_, h, h2⟩ | ⟨h, _⟩ | ⟨h, _⟩ <;> first | exact ⟨h, h2⟩ | omega
        obtain ⟨hd, rfl⟩ := hx
        refine s_ifNo (tq _ w 0 rfl) (decide_eq_false (by omega)) n0 fun H1 e1 => ?_
        have n1 := Env.mono e1 n0
        have E1 := e1
        refine s_ifNo (tq _ w 1 rfl) (decide_eq_false (by omega)) n1 fun H2 e2 => ?_
        have n2 := Env.mono e2 n1
        have E2 := E1.trans e2
        refine s_ifNo (tq _ w 2 rfl) (decide_eq_false (by omega)) n2 fun H3 e3 => ?_
        have n3 := Env.mono e3 n2
        have E3 := E2.trans e3
        refine s_ifNo (tq _ w 3 rfl) (decide_eq_false (by omega)) n3 fun H4 e4 => ?_
        have n4 := Env.mono e4 n3
        have E4 := E3.trans e4
        refine s_ifNo (tq _ w 4 rfl) (decide_eq_false (by omega)) n4 fun H5 e5 => ?_
        have n5 := Env.mono e5 n4
        have E5 := E4.trans e5
        refine s_ifNo (tq _ w 5 rfl) (decide_eq_false (by omega)) n5 fun H6 e6 => ?_
        have n6 := Env.mono e6 n5
        have E6 := E5.trans e6
        refine s_ifNo (tq _ w 6 rfl) (decide_eq_false (by omega)) n6 fun H7 e7 => ?_
        have n7 := Env.mono e7 n6
        have E7 := E6.trans e7
        refine s_ifNo (tq _ w 7 rfl) (decide_eq_false (by omega)) n7 fun H8 e8 => ?_
        have n8 := Env.mono e8 n7
        have E8 := E7.trans e8
        refine s_ifNo (tq _ w 8 rfl) (decide_eq_false (by omega)) n8 fun H9 e9 => ?_
        have n9 := Env.mono e9 n8
        have E9 := E8.trans e9
        refine s_ifNo (tq _ w 9 rfl) (decide_eq_false (by omega)) n9 fun H10 e10 => ?_
        have n10 := Env.mono e10 n9
        have E10 := E9.trans e10
        refine s_ifYes (tq _ w 10 rfl) (decide_eq_true (by omega)) n10 fun H11 e11 => ?_
        have n11 := Env.mono e11 n10
        have E11 := E10.trans e11
        exact s_badXP (zs := [.d c, .d (.tuple [.str "warp", .int 0]), .d (.tuple [.str "weft", .int 0])]) (a_cons (v_var rfl) (a_cons (v_tup (ds := [.str "warp", .int 0]) (a_cons v_str (a_cons v_int a_nil)) (by decide)) (a_cons (v_tup (ds := [.str "weft", .int 0]) (a_cons v_str (a_cons v_int a_nil)) (by decide)) a_nil))) n11 ⟨c, [.d (.tuple [.str "warp", .int 0]), .d (.tuple [.str "weft", .int 0])], rfl, rfl, hd, rfl⟩ fun Hz ez => k Hz (E11.trans ez)
      · -- 13
        refine s_ifNo (tq _ w 0 rfl) (decide_eq_false (by omega)) n0 fun H1 e1 => ?_
        have n1 := Env.mono e1 n0
        have E1 := e1
        refine s_ifNo (tq _ w 1 rfl) (decide_eq_false (by omega)) n1 fun H2 e2 => ?_
        have n2 := Env.mono e2 n1
        have E2 := E1.trans e2
        refine s_ifNo (tq _ w 2 rfl) (decide_eq_false (by omega)) n2 fun H3 e3 => ?_
        have n3 := Env.mono e3 n2
        have E3 := E2.trans e3
        refine s_ifNo (tq _ w 3 rfl) (decide_eq_false (by omega)) n3 fun H4 e4 => ?_
        have n4 := Env.mono e4 n3
        have E4 := E3.trans e4
        refine s_ifNo (tq _ w 4 rfl) (decide_eq_false (by omega)) n4 fun H5 e5 => ?_
        have n5 := Env.mono e5 n4
        have E5 := E4.trans e5
        refine s_ifNo (tq _ w 5 rfl) (decide_eq_false (by omega)) n5 fun H6 e6 => ?_
        have n6 := Env.mono e6 n5
        have E6 := E5.trans e6
        refine s_ifNo (tq _ w 6 rfl) (decide_eq_false (by omega)) n6 fun H7 e7 => ?_
        have n7 := Env.mono e7 n6
        have E7 := E6.trans e7
        refine s_ifNo (tq _ w 7 rfl) (decide_eq_false (by omega)) n7 fun H8 e8 => ?_
        have n8 := Env.mono e8 n7
        have E8 := E7.trans e8
        refine s_ifNo (tq _ w 8 rfl) (decide_eq_false (by omega)) n8 fun H9 e9 => ?_
        have n9 := Env.mono e9 n8
        have E9 := E8.trans e9
        refine s_ifNo (tq _ w 9 rfl) (decide_eq_false (by omega)) n9 fun H10 e10 => ?_
        have n10 := Env.mono e10 n9
        have E10 := E9.trans e10
        refine s_ifNo (tq _ w 10 rfl) (decide_eq_false (by omega)) n10 fun H11 e11 => ?_
        have n11 := Env.mono e11 n10
        have E11 := E10.trans e11
        refine s_ifYes (tq _ w 13 rfl) (decide_eq_true (by omega)) n11 fun H12 e12 => ?_
        have n12 := Env.mono e12 n11
        have E12 := E11.trans e12
        rcases hb with ⟨_, hd, rfl⟩ | ⟨h, _⟩ | ⟨_, ⟨c0, g, rfl⟩, rfl⟩
        · exact s_badX (zs := [.d c, .d (.int 70), .d (.int 1)]) (a_cons (v_var rfl) (a_cons v_int (a_cons v_int a_nil))) n12 ⟨c, rfl, .inl ⟨hd, rfl⟩⟩ fun Hz ez => k Hz (E12.trans ez)
        · omega
        · exact s_badX (zs := [.d (enc c0), .d (.int 70), .d (.int 1)]) (a_cons (v_var rfl) (a_cons v_int (a_cons v_int a_nil))) n12 ⟨enc c0, rfl, .inr ⟨c0, g, rfl, rfl⟩⟩ fun Hz ez => k Hz (E12.trans ez)
      · -- 14
        have hx : isDraft d = false ∧ e = 1 := by rcases hb with ⟨h, _⟩ | ⟨_, h, h2⟩ | ⟨h, _⟩ <;> first | exact ⟨h, h2⟩ | omega
        obtain ⟨hd, rfl⟩ := hx
        refine s_ifNo (tq _ w 0 rfl) (decide_eq_false (by omega)) n0 fun H1 e1 => ?_
        have n1 := Env.mono e1 n0
        have E1 := e1
        refine s_ifNo (tq _ w 1 rfl) (decide_eq_false (by omega)) n1 fun H2 e2 => ?_
        have n2 := Env.mono e2 n1
        have E2 := E1.trans e2
        refine s_ifNo (tq _ w 2 rfl) (decide_eq_false (by omega)) n2 fun H3 e3 => ?_
        have n3 := Env.mono e3 n2
        have E3 := E2.trans e3
        refine s_ifNo (tq _ w 3 rfl) (decide_eq_false (by omega)) n3 fun H4 e4 => ?_
        have n4 := Env.mono e4 n3
        have E4 := E3.trans e4
        refine s_ifNo (tq _ w 4 rfl) (decide_eq_false (by omega)) n4 fun H5 e5 => ?_
        have n5 := Env.mono e5 n4
        have E5 := E4.trans e5
        refine s_ifNo (tq _ w 5 rfl) (decide_eq_false (by omega)) n5 fun H6 e6 => ?_
        have n6 := Env.mono e6 n5
        have E6 := E5.trans e6
        refine s_ifNo (tq _ w 6 rfl) (decide_eq_false (by omega)) n6 fun H7 e7 => ?_
        have n7 := Env.mono e7 n6
        have E7 := E6.trans e7
        refine s_ifNo (tq _ w 7 rfl) (decide_eq_false (by omega)) n7 fun H8 e8 => ?_
        have n8 := Env.mono e8 n7
        have E8 := E7.trans e8
        refine s_ifNo (tq _ w 8 rfl) (decide_eq_false (by omega)) n8 fun H9 e9 => ?_
        have n9 := Env.mono e9 n8
        have E9 := E8.trans e9
        refine s_ifNo (tq _ w 9 rfl) (decide_eq_false (by omega)) n9 fun H10 e10 => ?_
        have n10 := Env.mono e10 n9
        have E10 := E9.trans e10
        refine s_ifNo (tq _ w 10 rfl) (decide_eq_false (by omega)) n10 fun H11 e11 => ?_
        have n11 := Env.mono e11 n10
        have E11 := E10.trans e11
        refine s_ifNo (tq _ w 13 rfl) (decide_eq_false (by omega)) n11 fun H12 e12 => ?_
        have n12 := Env.mono e12 n11
        have E12 := E11.trans e12
        refine s_ifYes (tq _ w 14 rfl) (decide_eq_true (by omega)) n12 fun H13 e13 => ?_
        have n13 := Env.mono e13 n12
        have E13 := E12.trans e13
        exact s_badX (zs := [.d d]) (a_cons (v_var rfl) a_nil) n13 ⟨d, [], rfl, rfl, hd, rfl⟩ fun Hz ez => k Hz (E13.trans ez)
      · -- 15
        have hx : isDraft d = false ∧ e = 1 := by rcases hb with ⟨h, _⟩ | ⟨_, h, h2⟩ | ⟨h, _⟩ <;> first | exact ⟨h, h2⟩ | omega
        obtain ⟨hd, rfl⟩ := hx
        refine s_ifNo (tq _ w 0 rfl) (decide_eq_false (by omega)) n0 fun H1 e1 => ?_
        have n1 := Env.mono e1 n0
        have E1 := e1
        refine s_ifNo (tq _ w 1 rfl) (decide_eq_false (by omega)) n1 fun H2 e2 => ?_
        have n2 := Env.mono e2 n1
        have E2 := E1.trans e2
        refine s_ifNo (tq _ w 2 rfl) (decide_eq_false (by omega)) n2 fun H3 e3 => ?_
        have n3 := Env.mono e3 n2
        have E3 := E2.trans e3
        refine s_ifNo (tq _ w 3 rfl) (decide_eq_false (by omega)) n3 fun H4 e4 => ?_
        have n4 := Env.mono e4 n3
        have E4 := E3.trans e4
        refine s_ifNo (tq _ w 4 rfl) (decide_eq_false (by omega)) n4 fun H5 e5 => ?_
        have n5 := Env.mono e5 n4
        have E5 := E4.trans e5
        refine s_ifNo (tq _ w 5 rfl) (decide_eq_false (by omega)) n5 fun H6 e6 => ?_
        have n6 := Env.mono e6 n5
        have E6 := E5.trans e6
        refine s_ifNo (tq _ w 6 rfl) (decide_eq_false (by omega)) n6 fun H7 e7 => ?_
        have n7 := Env.mono e7 n6
        have E7 := E6.trans e7
        refine s_ifNo (tq _ w 7 rfl) (decide_eq_false (by omega)) n7 fun H8 e8 => ?_
        have n8 := Env.mono e8 n7
        have E8 := E7.trans e8
        refine s_ifNo (tq _ w 8 rfl) (decide_eq_false (by omega)) n8 fun H9 e9 => ?_
        have n9 := Env.mono e9 n8
        have E9 := E8.trans e9
        refine s_ifNo (tq _ w 9 rfl) (decide_eq_false (by omega)) n9 fun H10 e10 => ?_
        have n10 := Env.mono e10 n9
        have E10 := E9.trans e10
        refine s_ifNo (tq _ w 10 rfl) (decide_eq_false (by omega)) n10 fun H11 e11 => ?_
        have n11 := Env.mono e11 n10
        have E11 := E10.trans e11
        refine s_ifNo (tq _ w 13 rfl) (decide_eq_false (by omega)) n11 fun H12 e12 => ?_
        have n12 := Env.mono e12 n11
        have E12 := E11.trans e12
        refine s_ifNo (tq _ w 14 rfl) (decide_eq_false (by omega)) n12 fun H13 e13 => ?_
        have n13 := Env.mono e13 n12
        have E13 := E12.trans e13
        refine s_ifYes (tq _ w 15 rfl) (decide_eq_true (by omega)) n13 fun H14 e14 => ?_
        have n14 := Env.mono e14 n13
        have E14 := E13.trans e14
        exact s_badX (zs := [.d d]) (a_cons (v_var rfl) a_nil) n14 ⟨d, [], rfl, rfl, hd, rfl⟩ fun Hz ez => k Hz (E14.trans ez)
      · -- 16
        have hx : isDraft d = false ∧ e = 1 := by rcases hb with ⟨h, _⟩ | ⟨_, h, h2⟩ | ⟨h, _⟩ <;> first | exact ⟨h, h2⟩ | omega
        obtain ⟨hd, rfl⟩ := hx
        refine s_ifNo (tq _ w 0 rfl) (decide_eq_false (by omega)) n0 fun H1 e1 => ?_
        have n1 := Env.mono e1 n0
        have E1 := e1
        refine s_ifNo (tq _ w 1 rfl) (decide_eq_false (by omega)) n1 fun H2 e2 => ?_
        have n2 := Env.mono e2 n1
        have E2 := E1.trans e2
        refine s_ifNo (tq _ w 2 rfl) (decide_eq_false (by omega)) n2 fun H3 e3 => ?_
        have n3 := Env.mono e3 n2
        have E3 := E2.trans e3
        refine s_ifNo (tq _ w 3 rfl) (decide_eq_false (by omega)) n3 fun H4 e4 => ?_
        have n4 := Env.mono e4 n3
        have E4 := E3.trans e4
        refine s_ifNo (tq _ w 4 rfl) (decide_eq_false (by omega)) n4 fun H5 e5 => ?_
        have n5 := Env.mono e5 n4
        have E5 := E4.trans e5
        refine s_ifNo (tq _ w 5 rfl) (decide_eq_false (by omega)) n5 fun H6 e6 => ?_
        have n6 := Env.mono e6 n5
        have E6 := E5.trans e6
        refine s_ifNo (tq _ w 6 rfl) (decide_eq_false (by omega)) n6 fun H7 e7 => ?_
        have n7 := Env.mono e7 n6
        have E7 := E6.trans e7
        refine s_ifNo (tq _ w 7 rfl) (decide_eq_false (by omega)) n7 fun H8 e8 => ?_
        have n8 := Env.mono e8 n7
        have E8 := E7.trans e8
        refine s_ifNo (tq _ w 8 rfl) (decide_eq_false (by omega)) n8 fun H9 e9 => ?_
        have n9 := Env.mono e9 n8
        have E9 := E8.trans e9
        refine s_ifNo (tq _ w 9 rfl) (decide_eq_false (by omega)) n9 fun H10 e10 => ?_
        have n10 := Env.mono e10 n9
        have E10 := E9.trans e10
        refine s_ifNo (tq _ w 10 rfl) (decide_eq_false (by omega)) n10 fun H11 e11 => ?_
        have n11 := Env.mono e11 n10
        have E11 := E10.trans e11
        refine s_ifNo (tq _ w 13 rfl) (decide_eq_false (by omega)) n11 fun H12 e12 => ?_
        have n12 := Env.mono e12 n11
        have E12 := E11.trans e12
        refine s_ifNo (tq _ w 14 rfl) (decide_eq_false (by omega)) n12 fun H13 e13 => ?_
        have n13 := Env.mono e13 n12
        have E13 := E12.trans e13
        refine s_ifNo (tq _ w 15 rfl) (decide_eq_false (by omega)) n13 fun H14 e14 => ?_
        have n14 := Env.mono e14 n13
        have E14 := E13.trans e14
        exact s_badX (zs := [.d d]) (a_cons (v_var rfl) a_nil) n14 ⟨d, [], rfl, rfl, hd, rfl⟩ fun Hz ez => k Hz (E14.trans ez)

/-! _law_asked -/
abbrev s__law_asked : Stmt := topS 54
abbrev N__law_asked : List Str := ["_law_which", "_law_cloth", "_law_other", "_law_draft", "_law_more"]
theorem sc__law_asked : FnScope N__law_asked ["_law_which", "_law_cloth", "_law_other", "_law_draft", "_law_more"] (defScope s__law_asked) := ⟨rfl, rfl, rfl, by decide +kernel, rfl, by decide +kernel, by decide +kernel⟩

def R__law_asked : List Ent → PyData → Prop := fun zs r => ∃ (w : Int) (c o d m : PyData), zs = [.d (.int w), .d c, .d o, .d d, .d m] ∧ Fine w c d ∧ r = .none
def S__law_asked (aC aD aF : Addr) : List Ent → Addr → Prop := fun zs D => ∃ (w : Int) (c o d m : PyData) (e : Nat), zs = [.d (.int w), .d c, .d o, .d d, .d m] ∧ Bad w c o d m e ∧ D = errAt aC aD aF e
theorem c__law_asked (B : Blt mg) {aL aC aD aF aN : Addr} (XC_ : FitX K mg "NoCloth" "NoDraft" "NoFit" "NoNote" aL aC aD aF aN) (XD_ : FitX K mg "NoDraft" "NoCloth" "NoFit" "NoNote" aL aD aC aF aN) (XF_ : FitX K mg "NoFit" "NoCloth" "NoDraft" "NoNote" aL aF aC aD aN) (C_sewn_beside : Cal P w K mg base (L2N.CX P w) 5 "sewn_beside" ["one", "other"] (spX K (fun _ _ => False) (S_sewn_beside aC))) (C_sewn_behind : Cal P w K mg base (L2N.CX P w) 5 "sewn_behind" ["one", "other"] (spX K (fun _ _ => False) (S_sewn_behind aC))) (C_draft_beside : Cal P w K mg base (L2N.CX P w) 6 "draft_beside" ["one", "other"] (spX K (fun _ _ => False) (S_draft_beside aD))) (C__law_asked_one : Cal P w K mg base (L2N.CX P w) 7 "_law_asked_one" ["_law_which", "_law_cloth", "_law_draft"] (spX K R__law_asked_one (S__law_asked_one aC aD aF))) (D_ : Dfn K mg "_law_asked" s__law_asked ["_law_which", "_law_cloth", "_law_other", "_law_draft", "_law_more"]) : Cal P w K mg base (L2N.CX P w) 8 "_law_asked" ["_law_which", "_law_cloth", "_law_other", "_law_draft", "_law_more"] (spX K R__law_asked (S__law_asked aC aD aF)) := by
  refine cal_spX D_ sc__law_asked (fun vs H Q E h => ?_) (fun f cdv A outer s H vs Q E hr h => ⟨_, (pss_one (ps_if (pt_cmpR (op_eqDK K hr.units) (pv 0) pe_int (nomark _))
    (pss_one (ps_expr (pe_calX P w mg base C_sewn_beside (hr.mono (by decide)) (L2N.takes_of rfl rfl rfl rfl) (by rfl) (pa_cons (pv 1) (pa_cons (pv 2) pa_nil)))))
    (pss_one (ps_if (pt_cmpR (op_eqDK K hr.units) (pv 0) pe_int (nomark _))
    (pss_one (ps_expr (pe_calX P w mg base C_sewn_behind (hr.mono (by decide)) (L2N.takes_of rfl rfl rfl rfl) (by rfl) (pa_cons (pv 1) (pa_cons (pv 2) pa_nil)))))
    (pss_one (ps_if (pt_cmpR (op_eqDK K hr.units) (pv 0) pe_int (nomark _))
    (pss_one (ps_expr (pe_calX P w mg base C_draft_beside (hr.mono (by decide)) (L2N.takes_of rfl rfl rfl rfl) (by rfl) (pa_cons (pv 3) (pa_cons (pv 4) pa_nil)))))
    (pss_one (ps_expr (pe_calX P w mg base C__law_asked_one (hr.mono (by decide)) (L2N.takes_of rfl rfl rfl rfl) (by rfl) (pa_cons (pv 0) (pa_cons (pv 1) (pa_cons (pv 3) pa_nil)))))))))))), ?_⟩)
  · obtain ⟨zs, r1, ⟨r, ⟨w, c, o, d, m, rfl, _⟩, _⟩ | ⟨C, ⟨w, c, o, d, m, e, rfl, _⟩, _⟩⟩ := h
    · exact r1.len
    · exact r1.len
  · have tq : ∀ (ρ : Rho) (w k : Int), ρ[0]? = some (some (.d (.int w))) → VT K (tTest (tOp (rEqD K) (tVar 0) (tC (.int k)))) ρ (decide (w = k)) := fun ρ w k h => t_test (v_eqI (v_var h) v_int)
    obtain ⟨zs, r1, ⟨r, ⟨w, c, o, d, m, rfl, hf, rfl⟩, k⟩ | ⟨C, ⟨w, c, o, d, m, e, rfl, hb, rfl⟩, k⟩⟩ := h
    · have n0 : Env K H (L2.start N__law_asked vs) [some (.d (.int w)), some (.d c), some (.d o), some (.d d), some (.d m)] := Env.start (N := N__law_asked) r1
      generalize L2.start N__law_asked vs = σ0 at n0
      have hw := hf.1
      refine s_ifNo (tq _ w 11 rfl) (decide_eq_false (by omega)) n0 fun H1 e1 => ?_
      refine s_ifNo (tq _ w 12 rfl) (decide_eq_false (by omega)) (n0.mono e1) fun H2 e2 => ?_
      refine s_ifNo (tq _ w 17 rfl) (decide_eq_false (by omega)) ((n0.mono e1).mono e2) fun H3 e3 => ?_
      exact s_goodX (zs := [.d (.int w), .d c, .d d]) (a_cons (v_var rfl) (a_cons (v_var rfl) (a_cons (v_var rfl) a_nil))) (((n0.mono e1).mono e2).mono e3) ⟨w, c, d, rfl, hf, rfl⟩ fun Hz ez => k .non Hz (e1.trans (e2.trans (e3.trans ez))) ⟨[], .non, fun _ z => nomatch z⟩
    · have n0 : Env K H (L2.start N__law_asked vs) [some (.d (.int w)), some (.d c), some (.d o), some (.d d), some (.d m)] := Env.start (N := N__law_asked) r1
      generalize L2.start N__law_asked vs = σ0 at n0
      have hw := hb.1
      by_cases h11 : w = 11
      · have hx : (isCloth c = false ∨ (isCloth c = true ∧ isCloth o = false)) ∧ e = 0 := by
          rcases hb.2 with ⟨_, h, h2⟩ | ⟨h, _⟩ | ⟨_, h, h2, h3⟩ | ⟨h, _⟩ | ⟨h, _⟩
          · exact ⟨.inl h, h2⟩
          · omega
          · exact ⟨.inr ⟨h, h2⟩, h3⟩
          · omega
          · omega
        obtain ⟨hx, rfl⟩ := hx
        refine s_ifYes (tq _ w 11 rfl) (decide_eq_true h11) n0 fun H1 e1 => ?_
        exact s_badX (zs := [.d c, .d o]) (a_cons (v_var rfl) (a_cons (v_var rfl) a_nil)) (n0.mono e1) ⟨c, o, rfl, rfl, hx⟩ fun Hz ez => k Hz (e1.trans ez)
      refine s_ifNo (tq _ w 11 rfl) (decide_eq_false h11) n0 fun H1 e1 => ?_
      have n1 := n0.mono e1
      by_cases h12 : w = 12
      · have hx : (isCloth c = false ∨ (isCloth c = true ∧ isCloth o = false)) ∧ e = 0 := by
          rcases hb.2 with ⟨_, h, h2⟩ | ⟨h, _⟩ | ⟨_, h, h2, h3⟩ | ⟨h, _⟩ | ⟨h, _⟩
          · exact ⟨.inl h, h2⟩
          · omega
          · exact ⟨.inr ⟨h, h2⟩, h3⟩
          · omega
          · omega
        obtain ⟨hx, rfl⟩ := hx
        refine s_ifYes (tq _ w 12 rfl) (decide_eq_true h12) n1 fun H2 e2 => ?_
        exact s_badX (zs := [.d c, .d o]) (a_cons (v_var rfl) (a_cons (v_var rfl) a_nil)) (n1.mono e2) ⟨c, o, rfl, rfl, hx⟩ fun Hz ez => k Hz (e1.trans (e2.trans ez))
      refine s_ifNo (tq _ w 12 rfl) (decide_eq_false h12) n1 fun H2 e2 => ?_
      have n2 := n1.mono e2
      by_cases h17 : w = 17
      · have hx : (isDraft d = false ∨ (isDraft d = true ∧ isDraft m = false)) ∧ e = 1 := by
          rcases hb.2 with ⟨h, _⟩ | ⟨_, h, h2⟩ | ⟨h, _⟩ | ⟨_, h, h2, h3⟩ | ⟨h, _⟩
          · omega
          · exact ⟨.inl h, h2⟩
          · omega
          · exact ⟨.inr ⟨h, h2⟩, h3⟩
          · omega
        obtain ⟨hx, rfl⟩ := hx
        refine s_ifYes (tq _ w 17 rfl) (decide_eq_true h17) n2 fun H3 e3 => ?_
        exact s_badX (zs := [.d d, .d m]) (a_cons (v_var rfl) (a_cons (v_var rfl) a_nil)) (n2.mono e3) ⟨d, m, rfl, rfl, hx⟩ fun Hz ez => k Hz (e1.trans (e2.trans (e3.trans ez)))
      refine s_ifNo (tq _ w 17 rfl) (decide_eq_false h17) n2 fun H3 e3 => ?_
      exact s_badX (zs := [.d (.int w), .d c, .d d]) (a_cons (v_var rfl) (a_cons (v_var rfl) (a_cons (v_var rfl) a_nil))) (n2.mono e3) ⟨w, c, d, e, rfl, hb.of h11 h12 h17, rfl⟩ fun Hz ez => k Hz (e1.trans (e2.trans (e3.trans ez)))

/-! _law_told -/
abbrev s__law_told : Stmt := topS 55
abbrev N__law_told : List Str := ["_law_which", "_law_cloth", "_law_other", "_law_draft", "_law_more", "_law_names", "error"]
theorem sc__law_told : FnScope N__law_told ["_law_which", "_law_cloth", "_law_other", "_law_draft", "_law_more"] (defScope s__law_told) := ⟨rfl, rfl, rfl, by decide +kernel, rfl, by decide +kernel, by decide +kernel⟩

def R__law_told : List Ent → PyData → Prop := fun zs r => ∃ (w : Int) (c o d m : PyData), zs = [.d (.int w), .d c, .d o, .d d, .d m] ∧ ((Fine w c d ∧ r = .list []) ∨ ∃ e, Bad w c o d m e ∧ r = namesE e)
theorem c__law_told (B : Blt mg) {aL aC aD aF aN : Addr} (XC_ : FitX K mg "NoCloth" "NoDraft" "NoFit" "NoNote" aL aC aD aF aN) (XD_ : FitX K mg "NoDraft" "NoCloth" "NoFit" "NoNote" aL aD aC aF aN) (XF_ : FitX K mg "NoFit" "NoCloth" "NoDraft" "NoNote" aL aF aC aD aN) (C__law_asked : Cal P w K mg base (L2N.CX P w) 8 "_law_asked" ["_law_which", "_law_cloth", "_law_other", "_law_draft", "_law_more"] (spX K R__law_asked (S__law_asked aC aD aF))) (D_ : Dfn K mg "_law_told" s__law_told ["_law_which", "_law_cloth", "_law_other", "_law_draft", "_law_more"]) : Cal P w K mg base CX0 9 "_law_told" ["_law_which", "_law_cloth", "_law_other", "_law_draft", "_law_more"] (spR K R__law_told) := by
  refine cal_sp D_ sc__law_told (fun vs H Q E h => by obtain ⟨zs, r, h1, ⟨w, c, o, d, m, rfl, _⟩, _⟩ := h; exact h1.len) fun f cdv A outer s H vs Q E hr h => ⟨_, (pss_cons (ps_set (i := 5) sc__law_told.nd rfl (.inl rfl) (pe_lst pa_nil))
    (pss_cons (L2N.ps_try_as (i := 6) (Wout := fun _ _ _ _ => False) rfl rfl sc__law_told.nd rfl rfl ⟨rfl, by decide, .inl XC_.gL⟩ takes0N
    (fun W pn xe tk _ => (pss_one (ps_expr (pe_calX P w mg base C__law_asked (hr.mono (by decide)) tk (by rfl) (pa_cons (pv 0) (pa_cons (pv 1) (pa_cons (pv 2) (pa_cons (pv 3) (pa_cons (pv 4) pa_nil)))))))))
    (fun a oe cls d pn hz hf => (pss_cons (ps_set (i := 5) sc__law_told.nd rfl (.inl rfl) (pe_lst (pa_cons (pe_callB (call_isX (K := K) hz hf) (by rfl) B.isinstance (by decide +kernel) (pa_cons (pv 6) (pa_cons (pe_glob (v := .ref aC) (by rfl) XC_.g rfl) pa_nil))) (pa_cons (pe_callB (call_isX (K := K) hz hf) (by rfl) B.isinstance (by decide +kernel) (pa_cons (pv 6) (pa_cons (pe_glob (v := .ref aD) (by rfl) XD_.g rfl) pa_nil))) (pa_cons (pe_callB (call_isX (K := K) hz hf) (by rfl) B.isinstance (by decide +kernel) (pa_cons (pv 6) (pa_cons (pe_glob (v := .ref aF) (by rfl) XF_.g rfl) pa_nil))) pa_nil)))))
    (pss_one (ps_set (i := 5) sc__law_told.nd rfl (.inl rfl) (pe_op op_cat (pv 5) (pe_lst (pa_cons (pe_callB (call_isX (K := K) hz hf) (by rfl) B.isinstance (by decide +kernel) (pa_cons (pv 6) (pa_cons (pe_glob (v := .ref aN) (by rfl) XC_.g3 rfl) pa_nil))) (pa_cons (pe_not (pe_callB (call_isX (K := K) hz hf) (by rfl) B.isinstance (by decide +kernel) (pa_cons (pv 6) (pa_cons (pe_bltn (v := .ty "ValueError") (by rfl) XC_.gV (by decide +kernel) rfl) pa_nil)))) pa_nil)))))))))
    (pss_one (ps_ret (pv 5))))), ?_⟩
  obtain ⟨zs, r, r1, ⟨w, c, o, d, m, rfl, hh⟩, q⟩ := h
  have n0 : Env K H (L2.start N__law_told vs) [some (.d (.int w)), some (.d c), some (.d o), some (.d d), some (.d m), none, none] := Env.start (N := N__law_told) r1
  generalize L2.start N__law_told vs = σ0 at n0
  have l0 : σ0.length = 7 := n0.1
  refine q_empty fun p hp gp => ?_
  have e1 := gp.ex
  have n1 : Env K (upd H p (.lst [])) (σ0.set 5 (some (V.ref p))) [some (.d (.int w)), some (.d c), some (.d o), some (.d d), some (.d m), none, none] := (n0.mono e1).drop 5
  have s5 : (σ0.set 5 (some (V.ref p)))[5]? = some (some (.ref p)) := List.getElem?_set_self (by omega)
  generalize (σ0.set 5 (some (V.ref p))) = σ1 at n1 s5
  refine s_callX2 (zs := [.d (.int w), .d c, .d o, .d d, .d m]) (a_cons (v_var rfl) (a_cons (v_var rfl) (a_cons (v_var rfl) (a_cons (v_var rfl) (a_cons (v_var rfl) a_nil))))) n1 ?_
  rcases hh with ⟨hf, rfl⟩ | ⟨e, hb, rfl⟩
  · refine .inl ⟨.none, ⟨w, c, o, d, m, rfl, hf, rfl⟩, fun H2 e2 => ?_⟩
    exact ⟨.ref p, s5, q _ H2 (e1.trans e2) (gp.mono e2).new⟩
  · refine .inr ⟨errAt aC aD aF e, ⟨w, c, o, d, m, e, rfl, hb, rfl⟩, fun H2 e2 => ?_⟩
    have he : e = 0 ∨ e = 1 ∨ e = 2 := by
      rcases hb.2 with ⟨_, _, h⟩ | ⟨_, _, h⟩ | ⟨_, _, _, h⟩ | ⟨_, _, _, h⟩ | ⟨_, _, h⟩ <;> omega
    have fin : ∀ {x0 x1 x2 : Addr} (b0 b1 b2 : Bool) (C : Addr), ExcC K C → PySem.W.kitOne K (.ref C) (.ref aC) = some b0 → PySem.W.kitOne K (.ref C) (.ref aD) = some b1 → PySem.W.kitOne K (.ref C) (.ref aF) = some b2 → True := fun _ _ _ _ _ _ _ _ => trivial
    rcases he with rfl | rfl | rfl
    · refine ⟨true, XC_.caught, fun _ a' ha => ?_, fun z => nomatch z⟩
      have n5 := (n1.mono e2).set 6 (z := .is (.ref a')) (v := .ref a') rfl
      refine q_setV (z := .d (.list [.bool true, .bool false, .bool false])) (v_lst (ds := [.bool true, .bool false, .bool false]) (a_cons (v_isX (v_var rfl) XC_.ec XC_.i0) (a_cons (v_isX (v_var rfl) XC_.ec XC_.i1) (a_cons (v_isX (v_var rfl) XC_.ec XC_.i2) a_nil))) (by decide)) n5 fun v6 H8 e8 r8 n6 => ?_
      refine (n_catP (ds := [.bool true, .bool false, .bool false]) (es := [.bool false, .bool false]) (v_var rfl) (v_lst (ds := [.bool false, .bool false]) (a_cons (v_isX (v_var rfl) XC_.ec XC_.i3) (a_cons (VE.eq (v_not (v_isXT (v_var rfl) XC_.ec XC_.iV)) rfl) a_nil)) (by decide)) (by decide) (by decide)) _ _ n6 _ fun v7 H9 e9 w9 => ?_
      exact ⟨v7, by (have hl := n1.1; first | exact List.getElem?_set_self (by simp at hl ⊢; omega) | (rw [List.getElem?_set_ne (by decide)]; exact List.getElem?_set_self (by simp at hl ⊢; omega))), q _ H9 (e1.trans (e2.trans (e8.trans e9))) (w9.back (e1.trans (e2.trans e8)))⟩
    · refine ⟨true, XD_.caught, fun _ a' ha => ?_, fun z => nomatch z⟩
      have n5 := (n1.mono e2).set 6 (z := .is (.ref a')) (v := .ref a') rfl
      refine q_setV (z := .d (.list [.bool false, .bool true, .bool false])) (v_lst (ds := [.bool false, .bool true, .bool false]) (a_cons (v_isX (v_var rfl) XD_.ec XD_.i1) (a_cons (v_isX (v_var rfl) XD_.ec XD_.i0) (a_cons (v_isX (v_var rfl) XD_.ec XD_.i2) a_nil))) (by decide)) n5 fun v6 H8 e8 r8 n6 => ?_
      refine (n_catP (ds := [.bool false, .bool true, .bool false]) (es := [.bool false, .bool false]) (v_var rfl) (v_lst (ds := [.bool false, .bool false]) (a_cons (v_isX (v_var rfl) XD_.ec XD_.i3) (a_cons (VE.eq (v_not (v_isXT (v_var rfl) XD_.ec XD_.iV)) rfl) a_nil)) (by decide)) (by decide) (by decide)) _ _ n6 _ fun v7 H9 e9 w9 => ?_
      exact ⟨v7, by (have hl := n1.1; first | exact List.getElem?_set_self (by simp at hl ⊢; omega) | (rw [List.getElem?_set_ne (by decide)]; exact List.getElem?_set_self (by simp at hl ⊢; omega))), q _ H9 (e1.trans (e2.trans (e8.trans e9))) (w9.back (e1.trans (e2.trans e8)))⟩
    · refine ⟨true, XF_.caught, fun _ a' ha => ?_, fun z => nomatch z⟩
      have n5 := (n1.mono e2).set 6 (z := .is (.ref a')) (v := .ref a') rfl
      refine q_setV (z := .d (.list [.bool false, .bool false, .bool true])) (v_lst (ds := [.bool false, .bool false, .bool true]) (a_cons (v_isX (v_var rfl) XF_.ec XF_.i1) (a_cons (v_isX (v_var rfl) XF_.ec XF_.i2) (a_cons (v_isX (v_var rfl) XF_.ec XF_.i0) a_nil))) (by decide)) n5 fun v6 H8 e8 r8 n6 => ?_
      refine (n_catP (ds := [.bool false, .bool false, .bool true]) (es := [.bool false, .bool false]) (v_var rfl) (v_lst (ds := [.bool false, .bool false]) (a_cons (v_isX (v_var rfl) XF_.ec XF_.i3) (a_cons (VE.eq (v_not (v_isXT (v_var rfl) XF_.ec XF_.iV)) rfl) a_nil)) (by decide)) (by decide) (by decide)) _ _ n6 _ fun v7 H9 e9 w9 => ?_
      exact ⟨v7, by (have hl := n1.1; first | exact List.getElem?_set_self (by simp at hl ⊢; omega) | (rw [List.getElem?_set_ne (by decide)]; exact List.getElem?_set_self (by simp at hl ⊢; omega))), q _ H9 (e1.trans (e2.trans (e8.trans e9))) (w9.back (e1.trans (e2.trans e8)))⟩

/-! law -/
abbrev s_law : Stmt := topS 56
abbrev N_law : List Str := ["_law_script", "_law_draft", "_law_cloth", "_law_cell", "_law_bad", "_law_wrong", "_law_which", "_law_others", "_law_found", "_law_row"]
theorem sc_law : FnScope N_law ["_law_script"] (defScope s_law) := ⟨rfl, rfl, rfl, by decide +kernel, rfl, by decide +kernel, by decide +kernel⟩

theorem ok_law (B : Blt mg) {aL aC aD aF aN : Addr} (XC_ : FitX K mg "NoCloth" "NoDraft" "NoFit" "NoNote" aL aC aD aF aN) (XD_ : FitX K mg "NoDraft" "NoCloth" "NoFit" "NoNote" aL aD aC aF aN) (XF_ : FitX K mg "NoFit" "NoCloth" "NoDraft" "NoNote" aL aF aC aD aN) (C__law_draft_by : Cal P w K mg base CX0 2 "_law_draft_by" ["_law_script", "_law_at"] (spR K R__law_draft_by)) (C__law_woven : Cal P w K mg base CX0 1 "_law_woven" ["_law_draft"] (spR K R__law_woven)) (C__law_cell_at : Cal P w K mg base CX0 1 "_law_cell_at" ["_law_script", "_law_k"] (spR K R__law_cell_at)) (C__law_bad_cloth : Cal P w K mg base CX0 2 "_law_bad_cloth" ["_law_cloth", "_law_cell"] (spF K A__law_bad_cloth P__law_bad_cloth)) (C__law_bad_draft : Cal P w K mg base CX0 3 "_law_bad_draft" ["_law_draft", "_law_cell"] (spT K A__law_bad_draft P__law_bad_draft)) (C_is_cloth : Cal P w K mg base CX0 3 "is_cloth" ["thing"] (spR K R_is_cloth)) (C_is_draft : Cal P w K mg base CX0 4 "is_draft" ["thing"] (spR K R_is_draft)) (C__law_told : Cal P w K mg base CX0 9 "_law_told" ["_law_which", "_law_cloth", "_law_other", "_law_draft", "_law_more"] (spR K R__law_told)) {f : Addr} {fd : FuncData} (F : Fun K "law" "law" s_law f fd) : FnOk P w K mg base CX0 10 f fd ["_law_script"] (spLaw K) := by
  refine F.ok sc_law (fun vs H Q E h => ?_) (fun cdv A outer s H vs Q E hr h => ?_)
  · obtain ⟨a, ns, rfl, _⟩ := h
    rfl
  · obtain ⟨a, ns, rfl, hS, q⟩ := h
    refine ⟨_, (pss_cons (ps_set (i := 1) sc_law.nd rfl (.inl rfl) (pe_calK K P w mg base C__law_draft_by (hr.mono (by decide)) (by rfl) (pa_cons (pv 0) (pa_cons pe_int pa_nil))))
    (pss_cons (ps_set (i := 2) sc_law.nd rfl (.inl rfl) (pe_calK K P w mg base C__law_woven (hr.mono (by decide)) (by rfl) (pa_cons (pv 1) pa_nil)))
    (pss_cons (ps_set (i := 3) sc_law.nd rfl (.inl rfl) (pe_calK K P w mg base C__law_cell_at (hr.mono (by decide)) (by rfl) (pa_cons (pv 0) (pa_cons pe_int pa_nil))))
    (pss_cons (ps_set (i := 4) sc_law.nd rfl (.inl rfl) (pe_calK K P w mg base C__law_bad_cloth (hr.mono (by decide)) (by rfl) (pa_cons (pv 2) (pa_cons (pe_calK K P w mg base C__law_cell_at (hr.mono (by decide)) (by rfl) (pa_cons (pv 0) (pa_cons pe_int pa_nil))) pa_nil))))
    (pss_cons (ps_set (i := 5) sc_law.nd rfl (.inl rfl) (pe_calK K P w mg base C__law_bad_draft (hr.mono (by decide)) (by rfl) (pa_cons (pv 1) (pa_cons (pe_calK K P w mg base C__law_cell_at (hr.mono (by decide)) (by rfl) (pa_cons (pv 0) (pa_cons pe_int pa_nil))) pa_nil))))
    (pss_cons (ps_if (PW.pt (pw_or (pt_cmpR op_isnot_bl (pe_calK K P w mg base C_is_cloth (hr.mono (by decide)) (by rfl) (pa_cons (pv 2) pa_nil)) pe_bl (nomark _)) (pw_or (pt_cmpR op_isnot_bl (pe_calK K P w mg base C_is_draft (hr.mono (by decide)) (by rfl) (pa_cons (pv 1) pa_nil)) pe_bl (nomark _)) (pw_or1 (pt_cmpR op_isnot_bl (pe_calK K P w mg base C_is_cloth (hr.mono (by decide)) (by rfl) (pa_cons (pv 4) pa_nil)) pe_bl (nomark _))))))
    (pss_one (ps_ret pe_bl))
    pss_nil)
    (pss_cons (ps_if (PW.pt (pw_or (pt_cmpR op_isnot_bl (pe_calK K P w mg base C_is_draft (hr.mono (by decide)) (by rfl) (pa_cons (pv 5) pa_nil)) pe_bl (nomark _)) (pw_or (pt_cmpR op_isnot_bl (pe_calK K P w mg base C_is_cloth (hr.mono (by decide)) (by rfl) (pa_cons (pv 1) pa_nil)) pe_bl (nomark _)) (pw_or1 (pt_cmpR op_isnot_bl (pe_calK K P w mg base C_is_draft (hr.mono (by decide)) (by rfl) (pa_cons (pv 2) pa_nil)) pe_bl (nomark _))))))
    (pss_one (ps_ret pe_bl))
    pss_nil)
    (pss_cons (ps_set (i := 6) sc_law.nd rfl (.inl rfl) (pe_op op_mod (pv 3) pe_int))
    (pss_cons (ps_set (i := 7) sc_law.nd rfl (.inl rfl) (pe_ix (ix_seqK K) (pe_lst (pa_cons (pv 4) (pa_cons (pv 2) (pa_cons (pe_slice (sl_listK K) (pe_lc (own := [("_law_row", 9)]) (g := gName 9) (tt := tYes) rfl sc_law.nd (pi_listK K (pv 2)) (blkOk_by (N := N_law) (sc := defScope s_law) (by decide +kernel)) (fun _ _ _ _ _ => pg_name (i := 9) sc_law.nd rfl (Or.inl rfl)) (fun _ _ _ _ _ => pts_nil) (fun _ _ _ _ _ => (pe_op op_cat (pv 9) (pe_lst (pa_cons pe_int pa_nil))))) po_none (po_some pe_int)) pa_nil)))) (pe_op op_mod (pe_op op_fdiv (pv 3) pe_int) pe_int) (fun _ _ => rfl)))
    (pss_cons (ps_set (i := 8) sc_law.nd rfl (.inl rfl) (pe_calK K P w mg base C__law_told (hr.mono (by decide)) (by rfl) (pa_cons (pv 6) (pa_cons (pv 4) (pa_cons (pv 7) (pa_cons (pv 5) (pa_cons (pe_ix (ix_seqK K) (pe_lst (pa_cons (pv 5) (pa_cons (pv 1) pa_nil))) (pe_op op_mod (pe_op op_fdiv (pv 3) pe_int) pe_int) (fun _ _ => rfl)) pa_nil)))))))
    (pss_cons (ps_if (pt_cmpR (op_neDK K hr.units) (pv 8) (pe_lst (pa_cons (pe_cmpR op_lt (pv 6) pe_int (nomark _)) (pa_cons (pe_cmpR op_ge (pv 6) pe_int (nomark _)) (pa_cons pe_bl (pa_cons pe_bl (pa_cons pe_bl pa_nil)))))) (nomark _))
    (pss_one (ps_ret pe_bl))
    pss_nil)
    (pss_cons (ps_if (pt_cmpR (op_inSK K) (pv 6) (pe_tup (pa_cons pe_int (pa_cons pe_int (pa_cons pe_int pa_nil)))) (by rfl))
    (pss_cons (ps_set (i := 8) sc_law.nd rfl (.inl rfl) (pe_calK K P w mg base C__law_told (hr.mono (by decide)) (by rfl) (pa_cons (pv 6) (pa_cons (pv 2) (pa_cons (pv 4) (pa_cons (pv 1) (pa_cons (pv 5) pa_nil)))))))
    (pss_one (ps_ret (pe_cmpR (op_eqDK K hr.units) (pv 8) (pe_lst (pa_cons (pe_cmpR op_lt (pv 6) pe_int (nomark _)) (pa_cons (pe_cmpR op_ge (pv 6) pe_int (nomark _)) (pa_cons pe_bl (pa_cons pe_bl (pa_cons pe_bl pa_nil)))))) (nomark _)))))
    pss_nil)
    (pss_cons (ps_set (i := 8) sc_law.nd rfl (.inl rfl) (pe_calK K P w mg base C__law_told (hr.mono (by decide)) (by rfl) (pa_cons (pv 6) (pa_cons (pv 2) (pa_cons (pv 2) (pa_cons (pv 1) (pa_cons (pv 1) pa_nil)))))))
    (pss_one (ps_ret (pe_cmpR (op_eqDK K hr.units) (pv 8) (pe_ifExp (pt_cmpR (op_eqDK K hr.units) (pv 6) pe_int (nomark _)) (pe_lst (pa_cons pe_bl (pa_cons pe_bl (pa_cons pe_bl (pa_cons pe_bl (pa_cons pe_bl pa_nil)))))) (pe_lst pa_nil)) (nomark _))))))))))))))))), ?_⟩
    have n0 : Env K H (L2.start N_law [.ref a]) (startR N_law [.scr ns]) := Env.start (.cons ⟨a, rfl, hS⟩ .nil)
    have gd := draftBy_good ns 3
    generalize hd : draftBy ns 3 = d at gd
    have gc := woven_good gd
    generalize hc : woven d = c at gc
    have c1 := gc.len
    refine q_setN (d := enc d) (n_call (a_cons (v_var rfl) (a_cons v_int a_nil)) ⟨ns, 3, rfl, by rw [hd]⟩) n0 fun v1 H1 e1 w1 n1 => ?_
    refine q_setN (d := enc c) (n_call (a_cons (v_var rfl) a_nil) ⟨d, rfl, gd, by rw [hc]⟩) n1 fun v2 H2 e2 w2 n2 => ?_
    refine q_setV (z := .d (.int (cellAt ns 0))) (VN.toD (n_call (a_cons (v_var rfl) (a_cons v_int a_nil)) ⟨ns, 0, rfl, rfl⟩)) n2 fun v3 H3 e3 r3 n3 => ?_
    refine q_setF (zs := [.d (enc c), .d (.int (cellAt ns 1))]) (a_cons (v_var rfl) (a_cons (VN.toD (n_call (a_cons (v_var rfl) (a_cons v_int a_nil)) ⟨ns, 1, rfl, rfl⟩)) a_nil)) ⟨c, cellAt ns 1, rfl, gc⟩ n3 fun bad v4 H4 hb e4 t4 n4 => ?_
    refine q_setT (zs := [.d (enc d), .d (.int (cellAt ns 2))]) (a_cons (v_var rfl) (a_cons (VN.toD (n_call (a_cons (v_var rfl) (a_cons v_int a_nil)) ⟨ns, 2, rfl, rfl⟩)) a_nil)) ⟨d, cellAt ns 2, rfl, gd⟩ n4 fun wrong v5 H5 hw e5 t5 n5 => ?_
    have hb : isCloth bad = false := hb
    have hw : isDraft wrong = false := hw
    refine q_ifF (t_or (t_test (v_notB (VN.toD (n_call (a_cons (v_var rfl) a_nil) ⟨enc c, rfl, rfl⟩)) v_bl)) fun _ => t_or (t_test (v_notB (VN.toD (n_call (a_cons (v_var rfl) a_nil) ⟨enc d, rfl, rfl⟩)) v_bl)) fun _ => t_test (v_notB (VN.toD (n_call (a_cons (v_var rfl) a_nil) ⟨bad, rfl, rfl⟩)) v_bl)) (by rw [gc.is, gd.is, hb]; rfl) n5 fun H6 e6 => ?_
    have n6 := n5.mono e6
    refine q_ifF (t_or (t_test (v_notB (VN.toD (n_call (a_cons (v_var rfl) a_nil) ⟨wrong, rfl, rfl⟩)) v_bl)) fun _ => t_or (t_test (v_notB (VN.toD (n_call (a_cons (v_var rfl) a_nil) ⟨enc d, rfl, rfl⟩)) v_bl)) fun _ => t_test (v_notB (VN.toD (n_call (a_cons (v_var rfl) a_nil) ⟨enc c, rfl, rfl⟩)) v_bl)) (by rw [hw]; rfl) n6 fun H7 e7 => ?_
    have n7 := n6.mono e7
    generalize cellAt ns 0 = cell at n7
    have w0 := Int.emod_nonneg cell (show (18 : Int) ≠ 0 by decide)
    have w1' := Int.emod_lt_of_pos cell (show (0 : Int) < 18 by decide)
    refine q_setV (z := .d (.int (cell % 18))) (v_mod (v_var rfl) v_int (by decide)) n7 fun v8 H8 e8 r8 n8 => ?_
    generalize cell % 18 = w at n8 w0 w1' r8
    obtain ⟨j, hj, hj'⟩ : ∃ j : Nat, cell / 18 % 3 = (j : Int) ∧ j < 3 := by
      obtain ⟨j, hj⟩ := Int.eq_ofNat_of_zero_le (Int.emod_nonneg (cell / 18) (show (3 : Int) ≠ 0 by decide))
      have := Int.emod_lt_of_pos (cell / 18) (show (0 : Int) < 3 by decide)
      exact ⟨j, hj, by omega⟩
    obtain ⟨k, hk, hk'⟩ : ∃ k : Nat, cell / 18 % 2 = (k : Int) ∧ k < 2 := by
      obtain ⟨k, hk⟩ := Int.eq_ofNat_of_zero_le (Int.emod_nonneg (cell / 18) (show (2 : Int) ≠ 0 by decide))
      have := Int.emod_lt_of_pos (cell / 18) (show (0 : Int) < 2 by decide)
      exact ⟨k, hk, by omega⟩
    refine q_setV (z := .d (([bad, enc c, enc ((c.map fun row => row ++ [(1 : Int)]).take 59)] : List PyData).getD j .none)) (v_ixL (i := (j : Int)) (v_lst (ds := [bad, enc c, enc ((c.map fun row => row ++ [(1 : Int)]).take 59)]) (a_cons (v_var rfl) (a_cons (v_var rfl) (a_cons (v_slTo (xs := c.map fun row => row ++ [(1 : Int)]) 59 (VN.toD (n_lc (xs := c) (fun row : List Int => row ++ [1]) (v_var rfl) (by omega) (by decide) fun row hrow => n_catI (ns := row) (ms := [1]) (v_var rfl) (v_lst (ds := [.int 1]) (a_cons v_int a_nil) (by decide)) (by have := gc.row hrow; simp; omega))) v_int rfl) a_nil))) (show 3 ≤ 100000 by decide)) (VE.eq (v_mod (v_fdiv (v_var rfl) v_int ⟨by decide, by decide⟩) v_int (by decide)) (by rw [hj])) (atI_getD (show j < 3 from hj'))) n8 fun v9 H9 e9 r9 n9 => ?_
    generalize (([bad, enc c, enc ((c.map fun row => row ++ [(1 : Int)]).take 59)] : List PyData).getD j .none) = oth at n9 r9
    -- the first one bad
    refine q_setN (d := enc (firstE w)) (n_call (zs := [.d (.int w), .d bad, .d oth, .d wrong, .d (([wrong, enc d] : List PyData).getD k .none)]) (a_cons (v_var rfl) (a_cons (v_var rfl) (a_cons (v_var rfl) (a_cons (v_var rfl) (a_cons (v_ixL (i := (k : Int)) (v_lst (ds := [wrong, enc d]) (a_cons (v_var rfl) (a_cons (v_var rfl) a_nil)) (show 2 ≤ 100000 by decide)) (VE.eq (v_mod (v_fdiv (v_var rfl) v_int ⟨by decide, by decide⟩) v_int (by decide)) (by rw [hk])) (atI_getD (show k < 2 from hk'))) a_nil))))) ⟨w, bad, oth, wrong, _, rfl, .inr ⟨if w < 14 then 0 else 1, ⟨⟨by omega, by omega⟩, ?_⟩, firstE_is w⟩⟩) n9 fun v10 H10 e10 w10 n10 => ?_
    · by_cases h : w < 14
      · rw [if_pos h]; exact .inl ⟨h, hb, rfl⟩
      · rw [if_neg h]; exact .inr (.inl ⟨by omega, hw, rfl⟩)
    have vE : ∀ {ρ : Rho}, ρ[6]? = some (some (.d (.int w))) → VD K (tLst (tCons (tOp (rI0 fun i j => V.bl (decide (i < j))) (tVar 6) (tC (V.int 14))) (tCons (tOp (rI0 fun i j => V.bl (decide (j ≤ i))) (tVar 6) (tC (V.int 14))) (tCons (tC (V.bl false)) (tCons (tC (V.bl false)) (tCons (tC (V.bl false)) tNil)))))) ρ (enc (firstE w)) := fun h =>
      v_lst (ds := [.bool (decide (w < 14)), .bool (decide (14 ≤ w)), .bool false, .bool false, .bool false]) (a_cons (v_lt (v_var h) v_int) (a_cons (v_ge (v_var h) v_int) (a_cons v_bl (a_cons v_bl (a_cons v_bl a_nil))))) (show 5 ≤ 100000 by decide)
    refine q_ifF (t_test (v_ne (α := List Bool) (x := firstE w) (y := firstE w) (v_var rfl) (vE rfl))) (by simp) n10 fun H11 e11 => ?_
    have n11 := n10.mono e11
    by_cases h : w = 11 ∨ w = 12 ∨ w = 17
    · -- the second one bad
      refine q_ifR (t_test (v_in3 (v_var rfl) (v_tup (ds := [.int 11, .int 12, .int 17]) (a_cons v_int (a_cons v_int (a_cons v_int a_nil))) (by decide)))) (decide_eq_true h) n11 fun H12 e12 => ?_
      have n12 := n11.mono e12
      refine q_setN (d := enc (firstE w)) (n_call (zs := [.d (.int w), .d (enc c), .d bad, .d (enc d), .d wrong]) (a_cons (v_var rfl) (a_cons (v_var rfl) (a_cons (v_var rfl) (a_cons (v_var rfl) (a_cons (v_var rfl) a_nil))))) ⟨w, enc c, bad, enc d, wrong, rfl, .inr ⟨if w < 14 then 0 else 1, ⟨⟨by omega, by omega⟩, ?_⟩, firstE_is w⟩⟩) n12 fun v13 H13 e13 w13 n13 => ?_
      · by_cases h' : w < 14
        · rw [if_pos h']; exact .inr (.inr (.inl ⟨by omega, gc.is, hb, rfl⟩))
        · rw [if_neg h']; exact .inr (.inr (.inr (.inl ⟨by omega, gd.is, hw, rfl⟩)))
      refine s_retV (z := .d (.bool true)) (VE.eq (v_eq (α := List Bool) (x := firstE w) (y := firstE w) (v_var rfl) (vE rfl)) (by simp)) n13 fun v H14 e14 rv => ?_
      cases Tp.bl_inv rv
      exact q H14
    · refine q_ifF (t_test (v_in3 (v_var rfl) (v_tup (ds := [.int 11, .int 12, .int 17]) (a_cons v_int (a_cons v_int (a_cons v_int a_nil))) (by decide)))) (decide_eq_false h) n11 fun H12 e12 => ?_
      have n12 := n11.mono e12
      -- good ones
      refine q_setN (d := enc (if w = 13 then [false, false, true, false, false] else [] : List Bool)) (n_call (zs := [.d (.int w), .d (enc c), .d (enc c), .d (enc d), .d (enc d)]) (a_cons (v_var rfl) (a_cons (v_var rfl) (a_cons (v_var rfl) (a_cons (v_var rfl) (a_cons (v_var rfl) a_nil))))) ⟨w, enc c, enc c, enc d, enc d, rfl, ?_⟩) n12 fun v13 H13 e13 w13 n13 => ?_
      · by_cases h' : w = 13
        · rw [if_pos h']; exact .inr ⟨2, ⟨⟨by omega, by omega⟩, .inr (.inr (.inr (.inr ⟨h', ⟨c, gc, rfl⟩, rfl⟩)))⟩, rfl⟩
        · rw [if_neg h']; exact .inl ⟨⟨by omega, ⟨c, gc, rfl⟩, ⟨d, gd, rfl⟩⟩, rfl⟩
      refine s_retV (z := .d (.bool true)) (VE.eq (v_eq (α := List Bool) (x := if w = 13 then [false, false, true, false, false] else []) (y := if w = 13 then [false, false, true, false, false] else []) (v_var rfl) (v_if (t_test (v_eqI (v_var rfl) v_int)) (fun hb => ?_) fun hb => ?_)) (by simp)) n13 fun v H14 e14 rv => ?_
      · rw [if_pos (of_decide_eq_true hb)]
        exact v_lst (ds := [.bool false, .bool false, .bool true, .bool false, .bool false]) (a_cons v_bl (a_cons v_bl (a_cons v_bl (a_cons v_bl (a_cons v_bl a_nil))))) (show 5 ≤ 100000 by decide)
      · rw [if_neg (of_decide_eq_false hb)]
        exact v_lst (ds := []) a_nil (by decide)
      cases Tp.bl_inv rv
      exact q H14
end
theorem all_mk {l : PySem.W.OpenLaw} {w : World} {K : PySem.W.Frag} {h : Heap} {mg : Str → Option Value} {fa : Addr} (X : K.In h) (G : h.Ns mainGlobals mg) (hfa : mg "law" = some (.ref fa))
    {od0 an0 : Option Addr} {sl0 : Array (Option Value)} {oc0 kV0 dc0 pm0 cd0 ct0 : Value} {f0 : Addr}
    {od1 an1 : Option Addr} {sl1 : Array (Option Value)} {oc1 kV1 dc1 pm1 cd1 ct1 : Value} {f1 : Addr}
    {od2 an2 : Option Addr} {sl2 : Array (Option Value)} {oc2 kV2 dc2 pm2 cd2 ct2 : Value} {f2 : Addr}
    {od3 an3 : Option Addr} {sl3 : Array (Option Value)} {oc3 kV3 dc3 pm3 cd3 ct3 : Value} {f3 : Addr}
    {od4 an4 : Option Addr} {sl4 : Array (Option Value)} {oc4 kV4 dc4 pm4 cd4 ct4 : Value} {f4 : Addr}
    {od5 an5 : Option Addr} {sl5 : Array (Option Value)} {oc5 kV5 dc5 pm5 cd5 ct5 : Value} {f5 : Addr}
    {od6 an6 : Option Addr} {sl6 : Array (Option Value)} {oc6 kV6 dc6 pm6 cd6 ct6 : Value} {f6 : Addr}
    {od7 an7 : Option Addr} {sl7 : Array (Option Value)} {oc7 kV7 dc7 pm7 cd7 ct7 : Value} {f7 : Addr}
    {od8 an8 : Option Addr} {sl8 : Array (Option Value)} {oc8 kV8 dc8 pm8 cd8 ct8 : Value} {f8 : Addr}
    {od9 an9 : Option Addr} {sl9 : Array (Option Value)} {oc9 kV9 dc9 pm9 cd9 ct9 : Value} {f9 : Addr}
    {od10 an10 : Option Addr} {sl10 : Array (Option Value)} {oc10 kV10 dc10 pm10 cd10 ct10 : Value} {f10 : Addr}
    {od11 an11 : Option Addr} {sl11 : Array (Option Value)} {oc11 kV11 dc11 pm11 cd11 ct11 : Value} {f11 : Addr}
    {od12 an12 : Option Addr} {sl12 : Array (Option Value)} {oc12 kV12 dc12 pm12 cd12 ct12 : Value} {f12 : Addr}
    {od13 an13 : Option Addr} {sl13 : Array (Option Value)} {oc13 kV13 dc13 pm13 cd13 ct13 : Value} {f13 : Addr}
    {od14 an14 : Option Addr} {sl14 : Array (Option Value)} {oc14 kV14 dc14 pm14 cd14 ct14 : Value} {f14 : Addr}
    {od15 an15 : Option Addr} {sl15 : Array (Option Value)} {oc15 kV15 dc15 pm15 cd15 ct15 : Value} {f15 : Addr}
    {od16 an16 : Option Addr} {sl16 : Array (Option Value)} {oc16 kV16 dc16 pm16 cd16 ct16 : Value} {f16 : Addr}
    {od17 an17 : Option Addr} {sl17 : Array (Option Value)} {oc17 kV17 dc17 pm17 cd17 ct17 : Value} {f17 : Addr}
    {od18 an18 : Option Addr} {sl18 : Array (Option Value)} {oc18 kV18 dc18 pm18 cd18 ct18 : Value} {f18 : Addr}
    {od19 an19 : Option Addr} {sl19 : Array (Option Value)} {oc19 kV19 dc19 pm19 cd19 ct19 : Value} {f19 : Addr}
    {od20 an20 : Option Addr} {sl20 : Array (Option Value)} {oc20 kV20 dc20 pm20 cd20 ct20 : Value} {f20 : Addr}
    {od21 an21 : Option Addr} {sl21 : Array (Option Value)} {oc21 kV21 dc21 pm21 cd21 ct21 : Value} {f21 : Addr}
    {od22 an22 : Option Addr} {sl22 : Array (Option Value)} {oc22 kV22 dc22 pm22 cd22 ct22 : Value} {f22 : Addr}
    {od23 an23 : Option Addr} {sl23 : Array (Option Value)} {oc23 kV23 dc23 pm23 cd23 ct23 : Value} {f23 : Addr}
    {od24 an24 : Option Addr} {sl24 : Array (Option Value)} {oc24 kV24 dc24 pm24 cd24 ct24 : Value} {f24 : Addr}
    {od25 an25 : Option Addr} {sl25 : Array (Option Value)} {oc25 kV25 dc25 pm25 cd25 ct25 : Value} {f25 : Addr}
    {od26 an26 : Option Addr} {sl26 : Array (Option Value)} {oc26 kV26 dc26 pm26 cd26 ct26 : Value} {f26 : Addr}
    {od27 an27 : Option Addr} {sl27 : Array (Option Value)} {oc27 kV27 dc27 pm27 cd27 ct27 : Value} {f27 : Addr}
    {od28 an28 : Option Addr} {sl28 : Array (Option Value)} {oc28 kV28 dc28 pm28 cd28 ct28 : Value} {f28 : Addr}
    {od29 an29 : Option Addr} {sl29 : Array (Option Value)} {oc29 kV29 dc29 pm29 cd29 ct29 : Value} {f29 : Addr}
    {od30 an30 : Option Addr} {sl30 : Array (Option Value)} {oc30 kV30 dc30 pm30 cd30 ct30 : Value} {f30 : Addr}
    {od31 an31 : Option Addr} {sl31 : Array (Option Value)} {oc31 kV31 dc31 pm31 cd31 ct31 : Value} {f31 : Addr}
    {od32 an32 : Option Addr} {sl32 : Array (Option Value)} {oc32 kV32 dc32 pm32 cd32 ct32 : Value} {f32 : Addr}
    {od33 an33 : Option Addr} {sl33 : Array (Option Value)} {oc33 kV33 dc33 pm33 cd33 ct33 : Value} {f33 : Addr}
    {od34 an34 : Option Addr} {sl34 : Array (Option Value)} {oc34 kV34 dc34 pm34 cd34 ct34 : Value} {f34 : Addr}
    {od35 an35 : Option Addr} {sl35 : Array (Option Value)} {oc35 kV35 dc35 pm35 cd35 ct35 : Value} {f35 : Addr}
    {od36 an36 : Option Addr} {sl36 : Array (Option Value)} {oc36 kV36 dc36 pm36 cd36 ct36 : Value} {f36 : Addr}
    {od37 an37 : Option Addr} {sl37 : Array (Option Value)} {oc37 kV37 dc37 pm37 cd37 ct37 : Value} {f37 : Addr}
    {od38 an38 : Option Addr} {sl38 : Array (Option Value)} {oc38 kV38 dc38 pm38 cd38 ct38 : Value} {f38 : Addr}
    {od39 an39 : Option Addr} {sl39 : Array (Option Value)} {oc39 kV39 dc39 pm39 cd39 ct39 : Value} {f39 : Addr}
    {od40 an40 : Option Addr} {sl40 : Array (Option Value)} {oc40 kV40 dc40 pm40 cd40 ct40 : Value} {f40 : Addr}
    {od41 an41 : Option Addr} {sl41 : Array (Option Value)} {oc41 kV41 dc41 pm41 cd41 ct41 : Value} {f41 : Addr}
    {od42 an42 : Option Addr} {sl42 : Array (Option Value)} {oc42 kV42 dc42 pm42 cd42 ct42 : Value} {f42 : Addr}
    {aL aC aD aF aN : Addr}
    {tm : Tok}
    (a0 : PySem.W.nsIn K mainGlobals "is_number" = some (some (.ref f0))) (l0 : K.lookup f0 = some ⟨oc0, od0, .func (PySem.W.fnOf "is_number" "is_number" (defArgs s_is_number) (defBody s_is_number) (defScope s_is_number) .none kV0 dc0 pm0 an0 cd0 ct0), sl0⟩) (c0 : PySem.W.codeIn K cd0 "is_number" = true) (k0 : PySem.W.keepIn K (.ref f0) = true)
    (a1 : PySem.W.nsIn K mainGlobals "is_row" = some (some (.ref f1))) (l1 : K.lookup f1 = some ⟨oc1, od1, .func (PySem.W.fnOf "is_row" "is_row" (defArgs s_is_row) (defBody s_is_row) (defScope s_is_row) .none kV1 dc1 pm1 an1 cd1 ct1), sl1⟩) (c1 : PySem.W.codeIn K cd1 "is_row" = true) (k1 : PySem.W.keepIn K (.ref f1) = true)
    (a2 : PySem.W.nsIn K mainGlobals "is_cloth" = some (some (.ref f2))) (l2 : K.lookup f2 = some ⟨oc2, od2, .func (PySem.W.fnOf "is_cloth" "is_cloth" (defArgs s_is_cloth) (defBody s_is_cloth) (defScope s_is_cloth) .none kV2 dc2 pm2 an2 cd2 ct2), sl2⟩) (c2 : PySem.W.codeIn K cd2 "is_cloth" = true) (k2 : PySem.W.keepIn K (.ref f2) = true)
    (a3 : PySem.W.nsIn K mainGlobals "is_draft" = some (some (.ref f3))) (l3 : K.lookup f3 = some ⟨oc3, od3, .func (PySem.W.fnOf "is_draft" "is_draft" (defArgs s_is_draft) (defBody s_is_draft) (defScope s_is_draft) .none kV3 dc3 pm3 an3 cd3 ct3), sl3⟩) (c3 : PySem.W.codeIn K cd3 "is_draft" = true) (k3 : PySem.W.keepIn K (.ref f3) = true)
    (a4 : PySem.W.nsIn K mainGlobals "need_cloth" = some (some (.ref f4))) (l4 : K.lookup f4 = some ⟨oc4, od4, .func (PySem.W.fnOf "need_cloth" "need_cloth" (defArgs s_need_cloth) (defBody s_need_cloth) (defScope s_need_cloth) .none kV4 dc4 pm4 an4 cd4 ct4), sl4⟩) (c4 : PySem.W.codeIn K cd4 "need_cloth" = true) (k4 : PySem.W.keepIn K (.ref f4) = true)
    (a5 : PySem.W.nsIn K mainGlobals "need_draft" = some (some (.ref f5))) (l5 : K.lookup f5 = some ⟨oc5, od5, .func (PySem.W.fnOf "need_draft" "need_draft" (defArgs s_need_draft) (defBody s_need_draft) (defScope s_need_draft) .none kV5 dc5 pm5 an5 cd5 ct5), sl5⟩) (c5 : PySem.W.codeIn K cd5 "need_draft" = true) (k5 : PySem.W.keepIn K (.ref f5) = true)
    (a6 : PySem.W.nsIn K mainGlobals "warp_of" = some (some (.ref f6))) (l6 : K.lookup f6 = some ⟨oc6, od6, .func (PySem.W.fnOf "warp_of" "warp_of" (defArgs s_warp_of) (defBody s_warp_of) (defScope s_warp_of) .none kV6 dc6 pm6 an6 cd6 ct6), sl6⟩) (c6 : PySem.W.codeIn K cd6 "warp_of" = true) (k6 : PySem.W.keepIn K (.ref f6) = true)
    (a7 : PySem.W.nsIn K mainGlobals "first_places" = some (some (.ref f7))) (l7 : K.lookup f7 = some ⟨oc7, od7, .func (PySem.W.fnOf "first_places" "first_places" (defArgs s_first_places) (defBody s_first_places) (defScope s_first_places) .none kV7 dc7 pm7 an7 cd7 ct7), sl7⟩) (c7 : PySem.W.codeIn K cd7 "first_places" = true) (k7 : PySem.W.keepIn K (.ref f7) = true)
    (a8 : PySem.W.nsIn K mainGlobals "first_warps" = some (some (.ref f8))) (l8 : K.lookup f8 = some ⟨oc8, od8, .func (PySem.W.fnOf "first_warps" "first_warps" (defArgs s_first_warps) (defBody s_first_warps) (defScope s_first_warps) .none kV8 dc8 pm8 an8 cd8 ct8), sl8⟩) (c8 : PySem.W.codeIn K cd8 "first_warps" = true) (k8 : PySem.W.keepIn K (.ref f8) = true)
    (a9 : PySem.W.nsIn K mainGlobals "first_wefts" = some (some (.ref f9))) (l9 : K.lookup f9 = some ⟨oc9, od9, .func (PySem.W.fnOf "first_wefts" "first_wefts" (defArgs s_first_wefts) (defBody s_first_wefts) (defScope s_first_wefts) .none kV9 dc9 pm9 an9 cd9 ct9), sl9⟩) (c9 : PySem.W.codeIn K cd9 "first_wefts" = true) (k9 : PySem.W.keepIn K (.ref f9) = true)
    (a10 : PySem.W.nsIn K mainGlobals "place_between" = some (some (.ref f10))) (l10 : K.lookup f10 = some ⟨oc10, od10, .func (PySem.W.fnOf "place_between" "place_between" (defArgs s_place_between) (defBody s_place_between) (defScope s_place_between) .none kV10 dc10 pm10 an10 cd10 ct10), sl10⟩) (c10 : PySem.W.codeIn K cd10 "place_between" = true) (k10 : PySem.W.keepIn K (.ref f10) = true)
    (a11 : PySem.W.nsIn K mainGlobals "weft_between" = some (some (.ref f11))) (l11 : K.lookup f11 = some ⟨oc11, od11, .func (PySem.W.fnOf "weft_between" "weft_between" (defArgs s_weft_between) (defBody s_weft_between) (defScope s_weft_between) .none kV11 dc11 pm11 an11 cd11 ct11), sl11⟩) (c11 : PySem.W.codeIn K cd11 "weft_between" = true) (k11 : PySem.W.keepIn K (.ref f11) = true)
    (a12 : PySem.W.nsIn K mainGlobals "warp_between" = some (some (.ref f12))) (l12 : K.lookup f12 = some ⟨oc12, od12, .func (PySem.W.fnOf "warp_between" "warp_between" (defArgs s_warp_between) (defBody s_warp_between) (defScope s_warp_between) .none kV12 dc12 pm12 an12 cd12 ct12), sl12⟩) (c12 : PySem.W.codeIn K cd12 "warp_between" = true) (k12 : PySem.W.keepIn K (.ref f12) = true)
    (a13 : PySem.W.nsIn K mainGlobals "weave" = some (some (.ref f13))) (l13 : K.lookup f13 = some ⟨oc13, od13, .func (PySem.W.fnOf "weave" "weave" (defArgs s_weave) (defBody s_weave) (defScope s_weave) .none kV13 dc13 pm13 an13 cd13 ct13), sl13⟩) (c13 : PySem.W.codeIn K cd13 "weave" = true) (k13 : PySem.W.keepIn K (.ref f13) = true)
    (a14 : PySem.W.nsIn K mainGlobals "numbers_of" = some (some (.ref f14))) (l14 : K.lookup f14 = some ⟨oc14, od14, .func (PySem.W.fnOf "numbers_of" "numbers_of" (defArgs s_numbers_of) (defBody s_numbers_of) (defScope s_numbers_of) .none kV14 dc14 pm14 an14 cd14 ct14), sl14⟩) (c14 : PySem.W.codeIn K cd14 "numbers_of" = true) (k14 : PySem.W.keepIn K (.ref f14) = true)
    (a15 : PySem.W.nsIn K mainGlobals "least_draft" = some (some (.ref f15))) (l15 : K.lookup f15 = some ⟨oc15, od15, .func (PySem.W.fnOf "least_draft" "least_draft" (defArgs s_least_draft) (defBody s_least_draft) (defScope s_least_draft) .none kV15 dc15 pm15 an15 cd15 ct15), sl15⟩) (c15 : PySem.W.codeIn K cd15 "least_draft" = true) (k15 : PySem.W.keepIn K (.ref f15) = true)
    (a16 : PySem.W.nsIn K mainGlobals "threads_of" = some (some (.ref f16))) (l16 : K.lookup f16 = some ⟨oc16, od16, .func (PySem.W.fnOf "threads_of" "threads_of" (defArgs s_threads_of) (defBody s_threads_of) (defScope s_threads_of) .none kV16 dc16 pm16 an16 cd16 ct16), sl16⟩) (c16 : PySem.W.codeIn K cd16 "threads_of" = true) (k16 : PySem.W.keepIn K (.ref f16) = true)
    (a17 : PySem.W.nsIn K mainGlobals "is_above" = some (some (.ref f17))) (l17 : K.lookup f17 = some ⟨oc17, od17, .func (PySem.W.fnOf "is_above" "is_above" (defArgs s_is_above) (defBody s_is_above) (defScope s_is_above) .none kV17 dc17 pm17 an17 cd17 ct17), sl17⟩) (c17 : PySem.W.codeIn K cd17 "is_above" = true) (k17 : PySem.W.keepIn K (.ref f17) = true)
    (a18 : PySem.W.nsIn K mainGlobals "lies_above" = some (some (.ref f18))) (l18 : K.lookup f18 = some ⟨oc18, od18, .func (PySem.W.fnOf "lies_above" "lies_above" (defArgs s_lies_above) (defBody s_lies_above) (defScope s_lies_above) .none kV18 dc18 pm18 an18 cd18 ct18), sl18⟩) (c18 : PySem.W.codeIn K cd18 "lies_above" = true) (k18 : PySem.W.keepIn K (.ref f18) = true)
    (a19 : PySem.W.nsIn K mainGlobals "led_on" = some (some (.ref f19))) (l19 : K.lookup f19 = some ⟨oc19, od19, .func (PySem.W.fnOf "led_on" "led_on" (defArgs s_led_on) (defBody s_led_on) (defScope s_led_on) .none kV19 dc19 pm19 an19 cd19 ct19), sl19⟩) (c19 : PySem.W.codeIn K cd19 "led_on" = true) (k19 : PySem.W.keepIn K (.ref f19) = true)
    (a20 : PySem.W.nsIn K mainGlobals "way_up" = some (some (.ref f20))) (l20 : K.lookup f20 = some ⟨oc20, od20, .func (PySem.W.fnOf "way_up" "way_up" (defArgs s_way_up) (defBody s_way_up) (defScope s_way_up) .none kV20 dc20 pm20 an20 cd20 ct20), sl20⟩) (c20 : PySem.W.codeIn K cd20 "way_up" = true) (k20 : PySem.W.keepIn K (.ref f20) = true)
    (a21 : PySem.W.nsIn K mainGlobals "raised_threads" = some (some (.ref f21))) (l21 : K.lookup f21 = some ⟨oc21, od21, .func (PySem.W.fnOf "raised_threads" "raised_threads" (defArgs s_raised_threads) (defBody s_raised_threads) (defScope s_raised_threads) .none kV21 dc21 pm21 an21 cd21 ct21), sl21⟩) (c21 : PySem.W.codeIn K cd21 "raised_threads" = true) (k21 : PySem.W.keepIn K (.ref f21) = true)
    (a22 : PySem.W.nsIn K mainGlobals "shown_cloth" = some (some (.ref f22))) (l22 : K.lookup f22 = some ⟨oc22, od22, .func (PySem.W.fnOf "shown_cloth" "shown_cloth" (defArgs s_shown_cloth) (defBody s_shown_cloth) (defScope s_shown_cloth) .none kV22 dc22 pm22 an22 cd22 ct22), sl22⟩) (c22 : PySem.W.codeIn K cd22 "shown_cloth" = true) (k22 : PySem.W.keepIn K (.ref f22) = true)
    (a23 : PySem.W.nsIn K mainGlobals "need_fit" = some (some (.ref f23))) (l23 : K.lookup f23 = some ⟨oc23, od23, .func (PySem.W.fnOf "need_fit" "need_fit" (defArgs s_need_fit) (defBody s_need_fit) (defScope s_need_fit) .none kV23 dc23 pm23 an23 cd23 ct23), sl23⟩) (c23 : PySem.W.codeIn K cd23 "need_fit" = true) (k23 : PySem.W.keepIn K (.ref f23) = true)
    (a24 : PySem.W.nsIn K mainGlobals "sewn_beside" = some (some (.ref f24))) (l24 : K.lookup f24 = some ⟨oc24, od24, .func (PySem.W.fnOf "sewn_beside" "sewn_beside" (defArgs s_sewn_beside) (defBody s_sewn_beside) (defScope s_sewn_beside) .none kV24 dc24 pm24 an24 cd24 ct24), sl24⟩) (c24 : PySem.W.codeIn K cd24 "sewn_beside" = true) (k24 : PySem.W.keepIn K (.ref f24) = true)
    (a25 : PySem.W.nsIn K mainGlobals "sewn_behind" = some (some (.ref f25))) (l25 : K.lookup f25 = some ⟨oc25, od25, .func (PySem.W.fnOf "sewn_behind" "sewn_behind" (defArgs s_sewn_behind) (defBody s_sewn_behind) (defScope s_sewn_behind) .none kV25 dc25 pm25 an25 cd25 ct25), sl25⟩) (c25 : PySem.W.codeIn K cd25 "sewn_behind" = true) (k25 : PySem.W.keepIn K (.ref f25) = true)
    (a26 : PySem.W.nsIn K mainGlobals "repeated_cloth" = some (some (.ref f26))) (l26 : K.lookup f26 = some ⟨oc26, od26, .func (PySem.W.fnOf "repeated_cloth" "repeated_cloth" (defArgs s_repeated_cloth) (defBody s_repeated_cloth) (defScope s_repeated_cloth) .none kV26 dc26 pm26 an26 cd26 ct26), sl26⟩) (c26 : PySem.W.codeIn K cd26 "repeated_cloth" = true) (k26 : PySem.W.keepIn K (.ref f26) = true)
    (a27 : PySem.W.nsIn K mainGlobals "draft_beside" = some (some (.ref f27))) (l27 : K.lookup f27 = some ⟨oc27, od27, .func (PySem.W.fnOf "draft_beside" "draft_beside" (defArgs s_draft_beside) (defBody s_draft_beside) (defScope s_draft_beside) .none kV27 dc27 pm27 an27 cd27 ct27), sl27⟩) (c27 : PySem.W.codeIn K cd27 "draft_beside" = true) (k27 : PySem.W.keepIn K (.ref f27) = true)
    (a28 : PySem.W.nsIn K mainGlobals "quarter_turned" = some (some (.ref f28))) (l28 : K.lookup f28 = some ⟨oc28, od28, .func (PySem.W.fnOf "quarter_turned" "quarter_turned" (defArgs s_quarter_turned) (defBody s_quarter_turned) (defScope s_quarter_turned) .none kV28 dc28 pm28 an28 cd28 ct28), sl28⟩) (c28 : PySem.W.codeIn K cd28 "quarter_turned" = true) (k28 : PySem.W.keepIn K (.ref f28) = true)
    (a29 : PySem.W.nsIn K mainGlobals "turned_over" = some (some (.ref f29))) (l29 : K.lookup f29 = some ⟨oc29, od29, .func (PySem.W.fnOf "turned_over" "turned_over" (defArgs s_turned_over) (defBody s_turned_over) (defScope s_turned_over) .none kV29 dc29 pm29 an29 cd29 ct29), sl29⟩) (c29 : PySem.W.codeIn K cd29 "turned_over" = true) (k29 : PySem.W.keepIn K (.ref f29) = true)
    (a30 : PySem.W.nsIn K mainGlobals "draft_quartered" = some (some (.ref f30))) (l30 : K.lookup f30 = some ⟨oc30, od30, .func (PySem.W.fnOf "draft_quartered" "draft_quartered" (defArgs s_draft_quartered) (defBody s_draft_quartered) (defScope s_draft_quartered) .none kV30 dc30 pm30 an30 cd30 ct30), sl30⟩) (c30 : PySem.W.codeIn K cd30 "draft_quartered" = true) (k30 : PySem.W.keepIn K (.ref f30) = true)
    (a31 : PySem.W.nsIn K mainGlobals "draft_over" = some (some (.ref f31))) (l31 : K.lookup f31 = some ⟨oc31, od31, .func (PySem.W.fnOf "draft_over" "draft_over" (defArgs s_draft_over) (defBody s_draft_over) (defScope s_draft_over) .none kV31 dc31 pm31 an31 cd31 ct31), sl31⟩) (c31 : PySem.W.codeIn K cd31 "draft_over" = true) (k31 : PySem.W.keepIn K (.ref f31) = true)
    (a32 : PySem.W.nsIn K mainGlobals "_law_cell_at" = some (some (.ref f32))) (l32 : K.lookup f32 = some ⟨oc32, od32, .func (PySem.W.fnOf "_law_cell_at" "_law_cell_at" (defArgs s__law_cell_at) (defBody s__law_cell_at) (defScope s__law_cell_at) .none kV32 dc32 pm32 an32 cd32 ct32), sl32⟩) (c32 : PySem.W.codeIn K cd32 "_law_cell_at" = true) (k32 : PySem.W.keepIn K (.ref f32) = true)
    (a33 : PySem.W.nsIn K mainGlobals "_law_mixed" = some (some (.ref f33))) (l33 : K.lookup f33 = some ⟨oc33, od33, .func (PySem.W.fnOf "_law_mixed" "_law_mixed" (defArgs s__law_mixed) (defBody s__law_mixed) (defScope s__law_mixed) .none kV33 dc33 pm33 an33 cd33 ct33), sl33⟩) (c33 : PySem.W.codeIn K cd33 "_law_mixed" = true) (k33 : PySem.W.keepIn K (.ref f33) = true)
    (a34 : PySem.W.nsIn K mainGlobals "_law_draft_by" = some (some (.ref f34))) (l34 : K.lookup f34 = some ⟨oc34, od34, .func (PySem.W.fnOf "_law_draft_by" "_law_draft_by" (defArgs s__law_draft_by) (defBody s__law_draft_by) (defScope s__law_draft_by) .none kV34 dc34 pm34 an34 cd34 ct34), sl34⟩) (c34 : PySem.W.codeIn K cd34 "_law_draft_by" = true) (k34 : PySem.W.keepIn K (.ref f34) = true)
    (a35 : PySem.W.nsIn K mainGlobals "_law_woven" = some (some (.ref f35))) (l35 : K.lookup f35 = some ⟨oc35, od35, .func (PySem.W.fnOf "_law_woven" "_law_woven" (defArgs s__law_woven) (defBody s__law_woven) (defScope s__law_woven) .none kV35 dc35 pm35 an35 cd35 ct35), sl35⟩) (c35 : PySem.W.codeIn K cd35 "_law_woven" = true) (k35 : PySem.W.keepIn K (.ref f35) = true)
    (a36 : PySem.W.nsIn K mainGlobals "_law_copied" = some (some (.ref f36))) (l36 : K.lookup f36 = some ⟨oc36, od36, .func (PySem.W.fnOf "_law_copied" "_law_copied" (defArgs s__law_copied) (defBody s__law_copied) (defScope s__law_copied) .none kV36 dc36 pm36 an36 cd36 ct36), sl36⟩) (c36 : PySem.W.codeIn K cd36 "_law_copied" = true) (k36 : PySem.W.keepIn K (.ref f36) = true)
    (a37 : PySem.W.nsIn K mainGlobals "_law_bad_cloth" = some (some (.ref f37))) (l37 : K.lookup f37 = some ⟨oc37, od37, .func (PySem.W.fnOf "_law_bad_cloth" "_law_bad_cloth" (defArgs s__law_bad_cloth) (defBody s__law_bad_cloth) (defScope s__law_bad_cloth) .none kV37 dc37 pm37 an37 cd37 ct37), sl37⟩) (c37 : PySem.W.codeIn K cd37 "_law_bad_cloth" = true) (k37 : PySem.W.keepIn K (.ref f37) = true)
    (a38 : PySem.W.nsIn K mainGlobals "_law_bad_draft" = some (some (.ref f38))) (l38 : K.lookup f38 = some ⟨oc38, od38, .func (PySem.W.fnOf "_law_bad_draft" "_law_bad_draft" (defArgs s__law_bad_draft) (defBody s__law_bad_draft) (defScope s__law_bad_draft) .none kV38 dc38 pm38 an38 cd38 ct38), sl38⟩) (c38 : PySem.W.codeIn K cd38 "_law_bad_draft" = true) (k38 : PySem.W.keepIn K (.ref f38) = true)
    (a39 : PySem.W.nsIn K mainGlobals "_law_asked_one" = some (some (.ref f39))) (l39 : K.lookup f39 = some ⟨oc39, od39, .func (PySem.W.fnOf "_law_asked_one" "_law_asked_one" (defArgs s__law_asked_one) (defBody s__law_asked_one) (defScope s__law_asked_one) .none kV39 dc39 pm39 an39 cd39 ct39), sl39⟩) (c39 : PySem.W.codeIn K cd39 "_law_asked_one" = true) (k39 : PySem.W.keepIn K (.ref f39) = true)
    (a40 : PySem.W.nsIn K mainGlobals "_law_asked" = some (some (.ref f40))) (l40 : K.lookup f40 = some ⟨oc40, od40, .func (PySem.W.fnOf "_law_asked" "_law_asked" (defArgs s__law_asked) (defBody s__law_asked) (defScope s__law_asked) .none kV40 dc40 pm40 an40 cd40 ct40), sl40⟩) (c40 : PySem.W.codeIn K cd40 "_law_asked" = true) (k40 : PySem.W.keepIn K (.ref f40) = true)
    (a41 : PySem.W.nsIn K mainGlobals "_law_told" = some (some (.ref f41))) (l41 : K.lookup f41 = some ⟨oc41, od41, .func (PySem.W.fnOf "_law_told" "_law_told" (defArgs s__law_told) (defBody s__law_told) (defScope s__law_told) .none kV41 dc41 pm41 an41 cd41 ct41), sl41⟩) (c41 : PySem.W.codeIn K cd41 "_law_told" = true) (k41 : PySem.W.keepIn K (.ref f41) = true)
    (a42 : PySem.W.nsIn K mainGlobals "law" = some (some (.ref f42))) (l42 : K.lookup f42 = some ⟨oc42, od42, .func (PySem.W.fnOf "law" "law" (defArgs s_law) (defBody s_law) (defScope s_law) .none kV42 dc42 pm42 an42 cd42 ct42), sl42⟩) (c42 : PySem.W.codeIn K cd42 "law" = true) (k42 : PySem.W.keepIn K (.ref f42) = true)
    (xXC_gL : PySem.W.nsIn K mainGlobals "LoomError" = some (some (.ref aL)))
    (xXC_g : PySem.W.nsIn K mainGlobals "NoCloth" = some (some (.ref aC)))
    (xXC_g1 : PySem.W.nsIn K mainGlobals "NoDraft" = some (some (.ref aD)))
    (xXC_g2 : PySem.W.nsIn K mainGlobals "NoFit" = some (some (.ref aF)))
    (xXC_g3 : PySem.W.nsIn K mainGlobals "NoNote" = some (some (.ref aN)))
    (xXC_gV : PySem.W.nsIn K mainGlobals "ValueError" = some none)
    (xXC_ex : PySem.W.excIn K aC [.type "ValueError", .type "Exception", .type "BaseException", .type "object"] "ValueError.__new__" = true)
    (xXC_kp : PySem.W.keepIn K (.ref aC) = true)
    (xXC_sb : PySem.W.subIn K (.ref aC) (.type "BaseException") = some true)
    (xXC_ty : PySem.W.typeIn K (.ref aC) = some (.type "type"))
    (xXC_lb : PySem.W.subIn K (.ref aL) (.type "BaseException") = some true)
    (xXC_ld : PySem.W.hasDictIn K aL = true)
    (xXC_lt : PySem.W.typeIn K (.ref aL) = some (.type "type"))
    (xXC_up : PySem.W.subIn K (.ref aC) (.ref aL) = some true)
    (xXC_i0 : PySem.W.kitOne K (.ref aC) (.ref aC) = some true)
    (xXC_i1 : PySem.W.kitOne K (.ref aC) (.ref aD) = some false)
    (xXC_i2 : PySem.W.kitOne K (.ref aC) (.ref aF) = some false)
    (xXC_i3 : PySem.W.kitOne K (.ref aC) (.ref aN) = some false)
    (xXC_iV : PySem.W.kitOne K (.ref aC) (.type "ValueError") = some true)
    (xXC_e1 : PySem.W.findIn K (.ref aC) "__getattribute__" = some (some (.builtin "BaseException.__getattribute__")))
    (xXC_e2 : PySem.W.findIn K (.ref aC) "__getattr__" = some none)
    (xXC_e4 : PySem.W.hasDictIn K aC = true)
    (xXC_e5 : PySem.W.findIn K (.ref aC) "__class__" = some (some (.builtin "object.__class__")))
    (xXC_e6 : PySem.W.specialIn K (.builtin "object.__class__") "__get__" = some (some (.builtin "getset_descriptor.__get__")))
    (xXC_e7 : PySem.W.takesIn K (.builtin "object.__class__") = some true)
    (xXC_e8 : PySem.W.mroIn K aC (.type "object") = some true)
    (xXD_gL : PySem.W.nsIn K mainGlobals "LoomError" = some (some (.ref aL)))
    (xXD_g : PySem.W.nsIn K mainGlobals "NoDraft" = some (some (.ref aD)))
    (xXD_g1 : PySem.W.nsIn K mainGlobals "NoCloth" = some (some (.ref aC)))
    (xXD_g2 : PySem.W.nsIn K mainGlobals "NoFit" = some (some (.ref aF)))
    (xXD_g3 : PySem.W.nsIn K mainGlobals "NoNote" = some (some (.ref aN)))
    (xXD_gV : PySem.W.nsIn K mainGlobals "ValueError" = some none)
    (xXD_ex : PySem.W.excIn K aD [.type "ValueError", .type "Exception", .type "BaseException", .type "object"] "ValueError.__new__" = true)
    (xXD_kp : PySem.W.keepIn K (.ref aD) = true)
    (xXD_sb : PySem.W.subIn K (.ref aD) (.type "BaseException") = some true)
    (xXD_ty : PySem.W.typeIn K (.ref aD) = some (.type "type"))
    (xXD_lb : PySem.W.subIn K (.ref aL) (.type "BaseException") = some true)
    (xXD_ld : PySem.W.hasDictIn K aL = true)
    (xXD_lt : PySem.W.typeIn K (.ref aL) = some (.type "type"))
    (xXD_up : PySem.W.subIn K (.ref aD) (.ref aL) = some true)
    (xXD_i0 : PySem.W.kitOne K (.ref aD) (.ref aD) = some true)
    (xXD_i1 : PySem.W.kitOne K (.ref aD) (.ref aC) = some false)
    (xXD_i2 : PySem.W.kitOne K (.ref aD) (.ref aF) = some false)
    (xXD_i3 : PySem.W.kitOne K (.ref aD) (.ref aN) = some false)
    (xXD_iV : PySem.W.kitOne K (.ref aD) (.type "ValueError") = some true)
    (xXD_e1 : PySem.W.findIn K (.ref aD) "__getattribute__" = some (some (.builtin "BaseException.__getattribute__")))
    (xXD_e2 : PySem.W.findIn K (.ref aD) "__getattr__" = some none)
    (xXD_e4 : PySem.W.hasDictIn K aD = true)
    (xXD_e5 : PySem.W.findIn K (.ref aD) "__class__" = some (some (.builtin "object.__class__")))
    (xXD_e6 : PySem.W.specialIn K (.builtin "object.__class__") "__get__" = some (some (.builtin "getset_descriptor.__get__")))
    (xXD_e7 : PySem.W.takesIn K (.builtin "object.__class__") = some true)
    (xXD_e8 : PySem.W.mroIn K aD (.type "object") = some true)
    (xXF_gL : PySem.W.nsIn K mainGlobals "LoomError" = some (some (.ref aL)))
    (xXF_g : PySem.W.nsIn K mainGlobals "NoFit" = some (some (.ref aF)))
    (xXF_g1 : PySem.W.nsIn K mainGlobals "NoCloth" = some (some (.ref aC)))
    (xXF_g2 : PySem.W.nsIn K mainGlobals "NoDraft" = some (some (.ref aD)))
    (xXF_g3 : PySem.W.nsIn K mainGlobals "NoNote" = some (some (.ref aN)))
    (xXF_gV : PySem.W.nsIn K mainGlobals "ValueError" = some none)
    (xXF_ex : PySem.W.excIn K aF [.type "ValueError", .type "Exception", .type "BaseException", .type "object"] "ValueError.__new__" = true)
    (xXF_kp : PySem.W.keepIn K (.ref aF) = true)
    (xXF_sb : PySem.W.subIn K (.ref aF) (.type "BaseException") = some true)
    (xXF_ty : PySem.W.typeIn K (.ref aF) = some (.type "type"))
    (xXF_lb : PySem.W.subIn K (.ref aL) (.type "BaseException") = some true)
    (xXF_ld : PySem.W.hasDictIn K aL = true)
    (xXF_lt : PySem.W.typeIn K (.ref aL) = some (.type "type"))
    (xXF_up : PySem.W.subIn K (.ref aF) (.ref aL) = some true)
    (xXF_i0 : PySem.W.kitOne K (.ref aF) (.ref aF) = some true)
    (xXF_i1 : PySem.W.kitOne K (.ref aF) (.ref aC) = some false)
    (xXF_i2 : PySem.W.kitOne K (.ref aF) (.ref aD) = some false)
    (xXF_i3 : PySem.W.kitOne K (.ref aF) (.ref aN) = some false)
    (xXF_iV : PySem.W.kitOne K (.ref aF) (.type "ValueError") = some true)
    (xXF_e1 : PySem.W.findIn K (.ref aF) "__getattribute__" = some (some (.builtin "BaseException.__getattribute__")))
    (xXF_e2 : PySem.W.findIn K (.ref aF) "__getattr__" = some none)
    (xXF_e4 : PySem.W.hasDictIn K aF = true)
    (xXF_e5 : PySem.W.findIn K (.ref aF) "__class__" = some (some (.builtin "object.__class__")))
    (xXF_e6 : PySem.W.specialIn K (.builtin "object.__class__") "__get__" = some (some (.builtin "getset_descriptor.__get__")))
    (xXF_e7 : PySem.W.takesIn K (.builtin "object.__class__") = some true)
    (xXF_e8 : PySem.W.mroIn K aF (.type "object") = some true)
    (z_len : PySem.W.nsIn K mainGlobals "len" = some none)
    (z_all : PySem.W.nsIn K mainGlobals "all" = some none)
    (z_any : PySem.W.nsIn K mainGlobals "any" = some none)
    (z_isinstance : PySem.W.nsIn K mainGlobals "isinstance" = some none)
    (z_list : PySem.W.nsIn K mainGlobals "list" = some none)
    (z_tuple : PySem.W.nsIn K mainGlobals "tuple" = some none)
    (z_int : PySem.W.nsIn K mainGlobals "int" = some none)
    (z_bool : PySem.W.nsIn K mainGlobals "bool" = some none)
    (z_str : PySem.W.nsIn K mainGlobals "str" = some none)
    (z_range : PySem.W.nsIn K mainGlobals "range" = some none)
    (z_reversed : PySem.W.nsIn K mainGlobals "reversed" = some none)
    (z_max : PySem.W.nsIn K mainGlobals "max" = some none)
    (z_min : PySem.W.nsIn K mainGlobals "min" = some none)
    (z_most : PySem.W.nsIn K mainGlobals "MOST" = some (some (.int 60 tm)))
    : ∃ fd : FuncData, (∀ (s : Shared) (v : Value), BindsTo s fd ⟨[v], []⟩ [("_law_script", v)]) ∧ ∀ base : Heap, K.In base → base.Ns mainGlobals mg → FnOk l.prog w K mg base CX0 10 fa fd ["_law_script"] (spLaw K) := by
  have e := hfa.symm.trans (PySem.W.mg_of X G a42)
  cases e
  have B : Blt mg := ⟨PySem.W.mg_none_of X G z_len, PySem.W.mg_none_of X G z_all, PySem.W.mg_none_of X G z_any, PySem.W.mg_none_of X G z_isinstance, PySem.W.mg_none_of X G z_list, PySem.W.mg_none_of X G z_tuple, PySem.W.mg_none_of X G z_int, PySem.W.mg_none_of X G z_bool, PySem.W.mg_none_of X G z_str, PySem.W.mg_none_of X G z_range, PySem.W.mg_none_of X G z_reversed, PySem.W.mg_none_of X G z_max, PySem.W.mg_none_of X G z_min, tm, PySem.W.mg_of X G z_most⟩
  have F0 := fun_mk (st := s_is_number) l0 c0 k0
  have D0 : Dfn K mg "is_number" s_is_number ["thing", "least", "most"] := ⟨_, _, PySem.W.mg_of X G a0, F0, F0.binds (ps := ["thing", "least", "most"]) fun _ _ _ _ _ _ us hl => match us, hl with | [_, _, _], _ => rfl⟩
  have F1 := fun_mk (st := s_is_row) l1 c1 k1
  have D1 : Dfn K mg "is_row" s_is_row ["thing", "most"] := ⟨_, _, PySem.W.mg_of X G a1, F1, F1.binds (ps := ["thing", "most"]) fun _ _ _ _ _ _ us hl => match us, hl with | [_, _], _ => rfl⟩
  have F2 := fun_mk (st := s_is_cloth) l2 c2 k2
  have D2 : Dfn K mg "is_cloth" s_is_cloth ["thing"] := ⟨_, _, PySem.W.mg_of X G a2, F2, F2.binds (ps := ["thing"]) fun _ _ _ _ _ _ us hl => match us, hl with | [_], _ => rfl⟩
  have F3 := fun_mk (st := s_is_draft) l3 c3 k3
  have D3 : Dfn K mg "is_draft" s_is_draft ["thing"] := ⟨_, _, PySem.W.mg_of X G a3, F3, F3.binds (ps := ["thing"]) fun _ _ _ _ _ _ us hl => match us, hl with | [_], _ => rfl⟩
  have F4 := fun_mk (st := s_need_cloth) l4 c4 k4
  have D4 : Dfn K mg "need_cloth" s_need_cloth ["thing"] := ⟨_, _, PySem.W.mg_of X G a4, F4, F4.binds (ps := ["thing"]) fun _ _ _ _ _ _ us hl => match us, hl with | [_], _ => rfl⟩
  have F5 := fun_mk (st := s_need_draft) l5 c5 k5
  have D5 : Dfn K mg "need_draft" s_need_draft ["thing"] := ⟨_, _, PySem.W.mg_of X G a5, F5, F5.binds (ps := ["thing"]) fun _ _ _ _ _ _ us hl => match us, hl with | [_], _ => rfl⟩
  have F6 := fun_mk (st := s_warp_of) l6 c6 k6
  have D6 : Dfn K mg "warp_of" s_warp_of ["cloth", "at"] := ⟨_, _, PySem.W.mg_of X G a6, F6, F6.binds (ps := ["cloth", "at"]) fun _ _ _ _ _ _ us hl => match us, hl with | [_, _], _ => rfl⟩
  have F7 := fun_mk (st := s_first_places) l7 c7 k7
  have D7 : Dfn K mg "first_places" s_first_places ["rows"] := ⟨_, _, PySem.W.mg_of X G a7, F7, F7.binds (ps := ["rows"]) fun _ _ _ _ _ _ us hl => match us, hl with | [_], _ => rfl⟩
  have F8 := fun_mk (st := s_first_warps) l8 c8 k8
  have D8 : Dfn K mg "first_warps" s_first_warps ["cloth"] := ⟨_, _, PySem.W.mg_of X G a8, F8, F8.binds (ps := ["cloth"]) fun _ _ _ _ _ _ us hl => match us, hl with | [_], _ => rfl⟩
  have F9 := fun_mk (st := s_first_wefts) l9 c9 k9
  have D9 : Dfn K mg "first_wefts" s_first_wefts ["cloth"] := ⟨_, _, PySem.W.mg_of X G a9, F9, F9.binds (ps := ["cloth"]) fun _ _ _ _ _ _ us hl => match us, hl with | [_], _ => rfl⟩
  have F10 := fun_mk (st := s_place_between) l10 c10 k10
  have D10 : Dfn K mg "place_between" s_place_between ["one", "other"] := ⟨_, _, PySem.W.mg_of X G a10, F10, F10.binds (ps := ["one", "other"]) fun _ _ _ _ _ _ us hl => match us, hl with | [_, _], _ => rfl⟩
  have F11 := fun_mk (st := s_weft_between) l11 c11 k11
  have D11 : Dfn K mg "weft_between" s_weft_between ["cloth", "one", "other"] := ⟨_, _, PySem.W.mg_of X G a11, F11, F11.binds (ps := ["cloth", "one", "other"]) fun _ _ _ _ _ _ us hl => match us, hl with | [_, _, _], _ => rfl⟩
  have F12 := fun_mk (st := s_warp_between) l12 c12 k12
  have D12 : Dfn K mg "warp_between" s_warp_between ["cloth", "one", "other"] := ⟨_, _, PySem.W.mg_of X G a12, F12, F12.binds (ps := ["cloth", "one", "other"]) fun _ _ _ _ _ _ us hl => match us, hl with | [_, _, _], _ => rfl⟩
  have F13 := fun_mk (st := s_weave) l13 c13 k13
  have D13 : Dfn K mg "weave" s_weave ["draft"] := ⟨_, _, PySem.W.mg_of X G a13, F13, F13.binds (ps := ["draft"]) fun _ _ _ _ _ _ us hl => match us, hl with | [_], _ => rfl⟩
  have F14 := fun_mk (st := s_numbers_of) l14 c14 k14
  have D14 : Dfn K mg "numbers_of" s_numbers_of ["rows", "firsts"] := ⟨_, _, PySem.W.mg_of X G a14, F14, F14.binds (ps := ["rows", "firsts"]) fun _ _ _ _ _ _ us hl => match us, hl with | [_, _], _ => rfl⟩
  have F15 := fun_mk (st := s_least_draft) l15 c15 k15
  have D15 : Dfn K mg "least_draft" s_least_draft ["cloth"] := ⟨_, _, PySem.W.mg_of X G a15, F15, F15.binds (ps := ["cloth"]) fun _ _ _ _ _ _ us hl => match us, hl with | [_], _ => rfl⟩
  have F16 := fun_mk (st := s_threads_of) l16 c16 k16
  have D16 : Dfn K mg "threads_of" s_threads_of ["cloth"] := ⟨_, _, PySem.W.mg_of X G a16, F16, F16.binds (ps := ["cloth"]) fun _ _ _ _ _ _ us hl => match us, hl with | [_], _ => rfl⟩
  have F17 := fun_mk (st := s_is_above) l17 c17 k17
  have D17 : Dfn K mg "is_above" s_is_above ["cloth", "one", "other"] := ⟨_, _, PySem.W.mg_of X G a17, F17, F17.binds (ps := ["cloth", "one", "other"]) fun _ _ _ _ _ _ us hl => match us, hl with | [_, _, _], _ => rfl⟩
  have F18 := fun_mk (st := s_lies_above) l18 c18 k18
  have D18 : Dfn K mg "lies_above" s_lies_above ["cloth", "one", "other"] := ⟨_, _, PySem.W.mg_of X G a18, F18, F18.binds (ps := ["cloth", "one", "other"]) fun _ _ _ _ _ _ us hl => match us, hl with | [_, _, _], _ => rfl⟩
  have F19 := fun_mk (st := s_led_on) l19 c19 k19
  have D19 : Dfn K mg "led_on" s_led_on ["cloth", "start", "up"] := ⟨_, _, PySem.W.mg_of X G a19, F19, F19.binds (ps := ["cloth", "start", "up"]) fun _ _ _ _ _ _ us hl => match us, hl with | [_, _, _], _ => rfl⟩
  have F20 := fun_mk (st := s_way_up) l20 c20 k20
  have D20 : Dfn K mg "way_up" s_way_up ["cloth", "one", "other"] := ⟨_, _, PySem.W.mg_of X G a20, F20, F20.binds (ps := ["cloth", "one", "other"]) fun _ _ _ _ _ _ us hl => match us, hl with | [_, _, _], _ => rfl⟩
  have F21 := fun_mk (st := s_raised_threads) l21 c21 k21
  have D21 : Dfn K mg "raised_threads" s_raised_threads ["cloth"] := ⟨_, _, PySem.W.mg_of X G a21, F21, F21.binds (ps := ["cloth"]) fun _ _ _ _ _ _ us hl => match us, hl with | [_], _ => rfl⟩
  have F22 := fun_mk (st := s_shown_cloth) l22 c22 k22
  have D22 : Dfn K mg "shown_cloth" s_shown_cloth ["cloth"] := ⟨_, _, PySem.W.mg_of X G a22, F22, F22.binds (ps := ["cloth"]) fun _ _ _ _ _ _ us hl => match us, hl with | [_], _ => rfl⟩
  have F23 := fun_mk (st := s_need_fit) l23 c23 k23
  have D23 : Dfn K mg "need_fit" s_need_fit ["good"] := ⟨_, _, PySem.W.mg_of X G a23, F23, F23.binds (ps := ["good"]) fun _ _ _ _ _ _ us hl => match us, hl with | [_], _ => rfl⟩
  have F24 := fun_mk (st := s_sewn_beside) l24 c24 k24
  have D24 : Dfn K mg "sewn_beside" s_sewn_beside ["one", "other"] := ⟨_, _, PySem.W.mg_of X G a24, F24, F24.binds (ps := ["one", "other"]) fun _ _ _ _ _ _ us hl => match us, hl with | [_, _], _ => rfl⟩
  have F25 := fun_mk (st := s_sewn_behind) l25 c25 k25
  have D25 : Dfn K mg "sewn_behind" s_sewn_behind ["one", "other"] := ⟨_, _, PySem.W.mg_of X G a25, F25, F25.binds (ps := ["one", "other"]) fun _ _ _ _ _ _ us hl => match us, hl with | [_, _], _ => rfl⟩
  have F26 := fun_mk (st := s_repeated_cloth) l26 c26 k26
  have D26 : Dfn K mg "repeated_cloth" s_repeated_cloth ["cloth", "down", "across"] := ⟨_, _, PySem.W.mg_of X G a26, F26, F26.binds (ps := ["cloth", "down", "across"]) fun _ _ _ _ _ _ us hl => match us, hl with | [_, _, _], _ => rfl⟩
  have F27 := fun_mk (st := s_draft_beside) l27 c27 k27
  have D27 : Dfn K mg "draft_beside" s_draft_beside ["one", "other"] := ⟨_, _, PySem.W.mg_of X G a27, F27, F27.binds (ps := ["one", "other"]) fun _ _ _ _ _ _ us hl => match us, hl with | [_, _], _ => rfl⟩
  have F28 := fun_mk (st := s_quarter_turned) l28 c28 k28
  have D28 : Dfn K mg "quarter_turned" s_quarter_turned ["cloth"] := ⟨_, _, PySem.W.mg_of X G a28, F28, F28.binds (ps := ["cloth"]) fun _ _ _ _ _ _ us hl => match us, hl with | [_], _ => rfl⟩
  have F29 := fun_mk (st := s_turned_over) l29 c29 k29
  have D29 : Dfn K mg "turned_over" s_turned_over ["cloth"] := ⟨_, _, PySem.W.mg_of X G a29, F29, F29.binds (ps := ["cloth"]) fun _ _ _ _ _ _ us hl => match us, hl with | [_], _ => rfl⟩
  have F30 := fun_mk (st := s_draft_quartered) l30 c30 k30
  have D30 : Dfn K mg "draft_quartered" s_draft_quartered ["draft"] := ⟨_, _, PySem.W.mg_of X G a30, F30, F30.binds (ps := ["draft"]) fun _ _ _ _ _ _ us hl => match us, hl with | [_], _ => rfl⟩
  have F31 := fun_mk (st := s_draft_over) l31 c31 k31
  have D31 : Dfn K mg "draft_over" s_draft_over ["draft"] := ⟨_, _, PySem.W.mg_of X G a31, F31, F31.binds (ps := ["draft"]) fun _ _ _ _ _ _ us hl => match us, hl with | [_], _ => rfl⟩
  have F32 := fun_mk (st := s__law_cell_at) l32 c32 k32
  have D32 : Dfn K mg "_law_cell_at" s__law_cell_at ["_law_script", "_law_k"] := ⟨_, _, PySem.W.mg_of X G a32, F32, F32.binds (ps := ["_law_script", "_law_k"]) fun _ _ _ _ _ _ us hl => match us, hl with | [_, _], _ => rfl⟩
  have F33 := fun_mk (st := s__law_mixed) l33 c33 k33
  have D33 : Dfn K mg "_law_mixed" s__law_mixed ["_law_cell", "_law_k"] := ⟨_, _, PySem.W.mg_of X G a33, F33, F33.binds (ps := ["_law_cell", "_law_k"]) fun _ _ _ _ _ _ us hl => match us, hl with | [_, _], _ => rfl⟩
  have F34 := fun_mk (st := s__law_draft_by) l34 c34 k34
  have D34 : Dfn K mg "_law_draft_by" s__law_draft_by ["_law_script", "_law_at"] := ⟨_, _, PySem.W.mg_of X G a34, F34, F34.binds (ps := ["_law_script", "_law_at"]) fun _ _ _ _ _ _ us hl => match us, hl with | [_, _], _ => rfl⟩
  have F35 := fun_mk (st := s__law_woven) l35 c35 k35
  have D35 : Dfn K mg "_law_woven" s__law_woven ["_law_draft"] := ⟨_, _, PySem.W.mg_of X G a35, F35, F35.binds (ps := ["_law_draft"]) fun _ _ _ _ _ _ us hl => match us, hl with | [_], _ => rfl⟩
  have F36 := fun_mk (st := s__law_copied) l36 c36 k36
  have D36 : Dfn K mg "_law_copied" s__law_copied ["_law_cloth"] := ⟨_, _, PySem.W.mg_of X G a36, F36, F36.binds (ps := ["_law_cloth"]) fun _ _ _ _ _ _ us hl => match us, hl with | [_], _ => rfl⟩
  have F37 := fun_mk (st := s__law_bad_cloth) l37 c37 k37
  have D37 : Dfn K mg "_law_bad_cloth" s__law_bad_cloth ["_law_cloth", "_law_cell"] := ⟨_, _, PySem.W.mg_of X G a37, F37, F37.binds (ps := ["_law_cloth", "_law_cell"]) fun _ _ _ _ _ _ us hl => match us, hl with | [_, _], _ => rfl⟩
  have F38 := fun_mk (st := s__law_bad_draft) l38 c38 k38
  have D38 : Dfn K mg "_law_bad_draft" s__law_bad_draft ["_law_draft", "_law_cell"] := ⟨_, _, PySem.W.mg_of X G a38, F38, F38.binds (ps := ["_law_draft", "_law_cell"]) fun _ _ _ _ _ _ us hl => match us, hl with | [_, _], _ => rfl⟩
  have F39 := fun_mk (st := s__law_asked_one) l39 c39 k39
  have D39 : Dfn K mg "_law_asked_one" s__law_asked_one ["_law_which", "_law_cloth", "_law_draft"] := ⟨_, _, PySem.W.mg_of X G a39, F39, F39.binds (ps := ["_law_which", "_law_cloth", "_law_draft"]) fun _ _ _ _ _ _ us hl => match us, hl with | [_, _, _], _ => rfl⟩
  have F40 := fun_mk (st := s__law_asked) l40 c40 k40
  have D40 : Dfn K mg "_law_asked" s__law_asked ["_law_which", "_law_cloth", "_law_other", "_law_draft", "_law_more"] := ⟨_, _, PySem.W.mg_of X G a40, F40, F40.binds (ps := ["_law_which", "_law_cloth", "_law_other", "_law_draft", "_law_more"]) fun _ _ _ _ _ _ us hl => match us, hl with | [_, _, _, _, _], _ => rfl⟩
  have F41 := fun_mk (st := s__law_told) l41 c41 k41
  have D41 : Dfn K mg "_law_told" s__law_told ["_law_which", "_law_cloth", "_law_other", "_law_draft", "_law_more"] := ⟨_, _, PySem.W.mg_of X G a41, F41, F41.binds (ps := ["_law_which", "_law_cloth", "_law_other", "_law_draft", "_law_more"]) fun _ _ _ _ _ _ us hl => match us, hl with | [_, _, _, _, _], _ => rfl⟩
  have F42 := fun_mk (st := s_law) l42 c42 k42
  have XC_ : FitX K mg "NoCloth" "NoDraft" "NoFit" "NoNote" aL aC aD aF aN := ⟨PySem.W.mg_of X G xXC_gL, PySem.W.mg_of X G xXC_g, PySem.W.mg_of X G xXC_g1, PySem.W.mg_of X G xXC_g2, PySem.W.mg_of X G xXC_g3, PySem.W.mg_none_of X G xXC_gV, xXC_ex, xXC_kp, xXC_sb, xXC_ty, xXC_lb, xXC_ld, xXC_lt, xXC_up, xXC_i0, xXC_i1, xXC_i2, xXC_i3, xXC_iV, ⟨xXC_e1, xXC_e2, xXC_sb, xXC_e4, xXC_e5, xXC_e6, xXC_e7, xXC_e8⟩⟩
  have XD_ : FitX K mg "NoDraft" "NoCloth" "NoFit" "NoNote" aL aD aC aF aN := ⟨PySem.W.mg_of X G xXD_gL, PySem.W.mg_of X G xXD_g, PySem.W.mg_of X G xXD_g1, PySem.W.mg_of X G xXD_g2, PySem.W.mg_of X G xXD_g3, PySem.W.mg_none_of X G xXD_gV, xXD_ex, xXD_kp, xXD_sb, xXD_ty, xXD_lb, xXD_ld, xXD_lt, xXD_up, xXD_i0, xXD_i1, xXD_i2, xXD_i3, xXD_iV, ⟨xXD_e1, xXD_e2, xXD_sb, xXD_e4, xXD_e5, xXD_e6, xXD_e7, xXD_e8⟩⟩
  have XF_ : FitX K mg "NoFit" "NoCloth" "NoDraft" "NoNote" aL aF aC aD aN := ⟨PySem.W.mg_of X G xXF_gL, PySem.W.mg_of X G xXF_g, PySem.W.mg_of X G xXF_g1, PySem.W.mg_of X G xXF_g2, PySem.W.mg_of X G xXF_g3, PySem.W.mg_none_of X G xXF_gV, xXF_ex, xXF_kp, xXF_sb, xXF_ty, xXF_lb, xXF_ld, xXF_lt, xXF_up, xXF_i0, xXF_i1, xXF_i2, xXF_i3, xXF_iV, ⟨xXF_e1, xXF_e2, xXF_sb, xXF_e4, xXF_e5, xXF_e6, xXF_e7, xXF_e8⟩⟩
  refine ⟨PySem.W.fnOf "law" "law" (defArgs s_law) (defBody s_law) (defScope s_law) .none kV42 dc42 pm42 an42 cd42 ct42, fun s v => .of_eq rfl, fun base _ _ => ?_⟩
  have C_is_number := c_is_number (P := l.prog) (w := w) (K := K) (mg := mg) (base := base) B  D0
  have C_is_row := c_is_row (P := l.prog) (w := w) (K := K) (mg := mg) (base := base) B C_is_number D1
  have C_is_cloth := c_is_cloth (P := l.prog) (w := w) (K := K) (mg := mg) (base := base) B C_is_row D2
  have C_is_draft := c_is_draft (P := l.prog) (w := w) (K := K) (mg := mg) (base := base) B C_is_cloth C_is_row D3
  have C_need_cloth := c_need_cloth (P := l.prog) (w := w) (K := K) (mg := mg) (base := base) B XC_ XD_ XF_ C_is_cloth D4
  have C_need_draft := c_need_draft (P := l.prog) (w := w) (K := K) (mg := mg) (base := base) B XC_ XD_ XF_ C_is_draft D5
  have C_warp_of := c_warp_of (P := l.prog) (w := w) (K := K) (mg := mg) (base := base) B  D6
  have C_first_places := c_first_places (P := l.prog) (w := w) (K := K) (mg := mg) (base := base) B  D7
  have C_first_warps := c_first_warps (P := l.prog) (w := w) (K := K) (mg := mg) (base := base) B XC_ XD_ XF_ C_need_cloth C_first_places C_warp_of D8
  have C_first_wefts := c_first_wefts (P := l.prog) (w := w) (K := K) (mg := mg) (base := base) B XC_ XD_ XF_ C_need_cloth C_first_places D9
  have C_place_between := c_place_between (P := l.prog) (w := w) (K := K) (mg := mg) (base := base) B  D10
  have C_weft_between := c_weft_between (P := l.prog) (w := w) (K := K) (mg := mg) (base := base) B XC_ XD_ XF_ C_need_cloth C_place_between C_warp_of D11
  have C_warp_between := c_warp_between (P := l.prog) (w := w) (K := K) (mg := mg) (base := base) B XC_ XD_ XF_ C_need_cloth C_place_between D12
  have C_weave := c_weave (P := l.prog) (w := w) (K := K) (mg := mg) (base := base) B XC_ XD_ XF_ C_need_draft D13
  have C_numbers_of := c_numbers_of (P := l.prog) (w := w) (K := K) (mg := mg) (base := base) B  D14
  have C_least_draft := c_least_draft (P := l.prog) (w := w) (K := K) (mg := mg) (base := base) B XC_ XD_ XF_ C_first_warps C_first_wefts C_numbers_of C_warp_of D15
  have C_threads_of := c_threads_of (P := l.prog) (w := w) (K := K) (mg := mg) (base := base) B  D16
  have C_is_above := c_is_above (P := l.prog) (w := w) (K := K) (mg := mg) (base := base) B  D17
  have C_lies_above := c_lies_above (P := l.prog) (w := w) (K := K) (mg := mg) (base := base) B XC_ XD_ XF_ C_need_cloth C_is_above D18
  have C_led_on := c_led_on (P := l.prog) (w := w) (K := K) (mg := mg) (base := base) B C_threads_of C_is_above D19
  have C_way_up := c_way_up (P := l.prog) (w := w) (K := K) (mg := mg) (base := base) B XC_ XD_ XF_ C_need_cloth C_led_on D20
  have C_raised_threads := c_raised_threads (P := l.prog) (w := w) (K := K) (mg := mg) (base := base) B XC_ XD_ XF_ C_need_cloth C_threads_of C_led_on D21
  have C_shown_cloth := c_shown_cloth (P := l.prog) (w := w) (K := K) (mg := mg) (base := base) B XC_ XD_ XF_ C_need_cloth D22
  have C_need_fit := c_need_fit (P := l.prog) (w := w) (K := K) (mg := mg) (base := base) B XC_ XD_ XF_  D23
  have C_sewn_beside := c_sewn_beside (P := l.prog) (w := w) (K := K) (mg := mg) (base := base) B XC_ XD_ XF_ C_need_cloth C_need_fit D24
  have C_sewn_behind := c_sewn_behind (P := l.prog) (w := w) (K := K) (mg := mg) (base := base) B XC_ XD_ XF_ C_need_cloth C_need_fit D25
  have C_repeated_cloth := c_repeated_cloth (P := l.prog) (w := w) (K := K) (mg := mg) (base := base) B XC_ XD_ XF_ C_need_cloth C_need_fit D26
  have C_draft_beside := c_draft_beside (P := l.prog) (w := w) (K := K) (mg := mg) (base := base) B XC_ XD_ XF_ C_need_draft C_need_fit D27
  have C_quarter_turned := c_quarter_turned (P := l.prog) (w := w) (K := K) (mg := mg) (base := base) B XC_ XD_ XF_ C_need_cloth C_warp_of D28
  have C_turned_over := c_turned_over (P := l.prog) (w := w) (K := K) (mg := mg) (base := base) B XC_ XD_ XF_ C_need_cloth D29
  have C_draft_quartered := c_draft_quartered (P := l.prog) (w := w) (K := K) (mg := mg) (base := base) B XC_ XD_ XF_ C_need_draft C_warp_of D30
  have C_draft_over := c_draft_over (P := l.prog) (w := w) (K := K) (mg := mg) (base := base) B XC_ XD_ XF_ C_need_draft D31
  have C__law_cell_at := c__law_cell_at (P := l.prog) (w := w) (K := K) (mg := mg) (base := base) B  D32
  have C__law_mixed := c__law_mixed (P := l.prog) (w := w) (K := K) (mg := mg) (base := base) B  D33
  have C__law_draft_by := c__law_draft_by (P := l.prog) (w := w) (K := K) (mg := mg) (base := base) B C__law_cell_at C__law_mixed D34
  have C__law_woven := c__law_woven (P := l.prog) (w := w) (K := K) (mg := mg) (base := base) B  D35
  have C__law_copied := c__law_copied (P := l.prog) (w := w) (K := K) (mg := mg) (base := base) B  D36
  have C__law_bad_cloth := c__law_bad_cloth (P := l.prog) (w := w) (K := K) (mg := mg) (base := base) B C__law_copied D37
  have C__law_bad_draft := c__law_bad_draft (P := l.prog) (w := w) (K := K) (mg := mg) (base := base) B C__law_copied C__law_bad_cloth D38
  have C__law_asked_one := c__law_asked_one (P := l.prog) (w := w) (K := K) (mg := mg) (base := base) B XC_ XD_ XF_ C_first_warps C_first_wefts C_least_draft C_shown_cloth C_raised_threads C_quarter_turned C_turned_over C_weft_between C_warp_between C_lies_above C_way_up C_repeated_cloth C_weave C_draft_quartered C_draft_over D39
  have C__law_asked := c__law_asked (P := l.prog) (w := w) (K := K) (mg := mg) (base := base) B XC_ XD_ XF_ C_sewn_beside C_sewn_behind C_draft_beside C__law_asked_one D40
  have C__law_told := c__law_told (P := l.prog) (w := w) (K := K) (mg := mg) (base := base) B XC_ XD_ XF_ C__law_asked D41
  exact ok_law B XC_ XD_ XF_ C__law_draft_by C__law_woven C__law_cell_at C__law_bad_cloth C__law_bad_draft C_is_cloth C_is_draft C__law_told F42
end DF
open PySem PySem.W PyProof.Rows
set_option maxHeartbeats 0 in
theorem PySem.Challenge.cw_drafthall_k02_what_is_refused_holds : PySem.Challenge.rw_drafthall_k02_what_is_refused.Holds := by
  w_on; o_law; k_head; (case hw => w_witness2)
  k_fill
  refine L2.walk_of (l := PySem.Challenge.rw_drafthall_k02_what_is_refused) (n := 63) (k := 10) (x := "_law_script") (CX := fun _ => L2.CX0) (sp := fun w => DF.spLaw _) rfl (by decide) rfl ⟨rfl, by decide, by decide⟩ (fun w h Y => PySem.W.kIn_of Y) ?F (fun _ _ a ns hl _ hS => ⟨a, ns, rfl, hS, fun _ => rfl⟩) (fun _ _ _ _ _ h => h)
  case F =>
    intro w mg fa h KX G hmg
    refine' DF.all_mk KX G hmg ?a0 ?l0 ?c0 ?k0 ?a1 ?l1 ?c1 ?k1 ?a2 ?l2 ?c2 ?k2 ?a3 ?l3 ?c3 ?k3 ?a4 ?l4 ?c4 ?k4 ?a5 ?l5 ?c5 ?k5 ?a6 ?l6 ?c6 ?k6 ?a7 ?l7 ?c7 ?k7 ?a8 ?l8 ?c8 ?k8 ?a9 ?l9 ?c9 ?k9 ?a10 ?l10 ?c10 ?k10 ?a11 ?l11 ?c11 ?k11 ?a12 ?l12 ?c12 ?k12 ?a13 ?l13 ?c13 ?k13 ?a14 ?l14 ?c14 ?k14 ?a15 ?l15 ?c15 ?k15 ?a16 ?l16 ?c16 ?k16 ?a17 ?l17 ?c17 ?k17 ?a18 ?l18 ?c18 ?k18 ?a19 ?l19 ?c19 ?k19 ?a20 ?l20 ?c20 ?k20 ?a21 ?l21 ?c21 ?k21 ?a22 ?l22 ?c22 ?k22 ?a23 ?l23 ?c23 ?k23 ?a24 ?l24 ?c24 ?k24 ?a25 ?l25 ?c25 ?k25 ?a26 ?l26 ?c26 ?k26 ?a27 ?l27 ?c27 ?k27 ?a28 ?l28 ?c28 ?k28 ?a29 ?l29 ?c29 ?k29 ?a30 ?l30 ?c30 ?k30 ?a31 ?l31 ?c31 ?k31 ?a32 ?l32 ?c32 ?k32 ?a33 ?l33 ?c33 ?k33 ?a34 ?l34 ?c34 ?k34 ?a35 ?l35 ?c35 ?k35 ?a36 ?l36 ?c36 ?k36 ?a37 ?l37 ?c37 ?k37 ?a38 ?l38 ?c38 ?k38 ?a39 ?l39 ?c39 ?k39 ?a40 ?l40 ?c40 ?k40 ?a41 ?l41 ?c41 ?k41 ?a42 ?l42 ?c42 ?k42 ?xXC_gL ?xXC_g ?xXC_g1 ?xXC_g2 ?xXC_g3 ?xXC_gV ?xXC_ex ?xXC_kp ?xXC_sb ?xXC_ty ?xXC_lb ?xXC_ld ?xXC_lt ?xXC_up ?xXC_i0 ?xXC_i1 ?xXC_i2 ?xXC_i3 ?xXC_iV ?xXC_e1 ?xXC_e2 ?xXC_e4 ?xXC_e5 ?xXC_e6 ?xXC_e7 ?xXC_e8 ?xXD_gL ?xXD_g ?xXD_g1 ?xXD_g2 ?xXD_g3 ?xXD_gV ?xXD_ex ?xXD_kp ?xXD_sb ?xXD_ty ?xXD_lb ?xXD_ld ?xXD_lt ?xXD_up ?xXD_i0 ?xXD_i1 ?xXD_i2 ?xXD_i3 ?xXD_iV ?xXD_e1 ?xXD_e2 ?xXD_e4 ?xXD_e5 ?xXD_e6 ?xXD_e7 ?xXD_e8 ?xXF_gL ?xXF_g ?xXF_g1 ?xXF_g2 ?xXF_g3 ?xXF_gV ?xXF_ex ?xXF_kp ?xXF_sb ?xXF_ty ?xXF_lb ?xXF_ld ?xXF_lt ?xXF_up ?xXF_i0 ?xXF_i1 ?xXF_i2 ?xXF_i3 ?xXF_iV ?xXF_e1 ?xXF_e2 ?xXF_e4 ?xXF_e5 ?xXF_e6 ?xXF_e7 ?xXF_e8 ?z_len ?z_all ?z_any ?z_isinstance ?z_list ?z_tuple ?z_int ?z_bool ?z_str ?z_range ?z_reversed ?z_max ?z_min ?z_most
    (case a0 => k_is); (case l0 => k_is); (case c0 => k_is); (case k0 => k_is); (case a1 => k_is); (case l1 => k_is); (case c1 => k_is); (case k1 => k_is); (case a2 => k_is); (case l2 => k_is); (case c2 => k_is); (case k2 => k_is); (case a3 => k_is); (case l3 => k_is); (case c3 => k_is); (case k3 => k_is); (case a4 => k_is); (case l4 => k_is); (case c4 => k_is); (case k4 => k_is); (case a5 => k_is); (case l5 => k_is); (case c5 => k_is); (case k5 => k_is); (case a6 => k_is); (case l6 => k_is); (case c6 => k_is); (case k6 => k_is); (case a7 => k_is); (case l7 => k_is); (case c7 => k_is); (case k7 => k_is); (case a8 => k_is); (case l8 => k_is); (case c8 => k_is); (case k8 => k_is); (case a9 => k_is); (case l9 => k_is); (case c9 => k_is); (case k9 => k_is); (case a10 => k_is); (case l10 => k_is); (case c10 => k_is); (case k10 => k_is); (case a11 => k_is); (case l11 => k_is); (case c11 => k_is); (case k11 => k_is); (case a12 => k_is); (case l12 => k_is); (case c12 => k_is); (case k12 => k_is); (case a13 => k_is); (case l13 => k_is); (case c13 => k_is); (case k13 => k_is); (case a14 => k_is); (case l14 => k_is); (case c14 => k_is); (case k14 => k_is); (case a15 => k_is); (case l15 => k_is); (case c15 => k_is); (case k15 => k_is); (case a16 => k_is); (case l16 => k_is); (case c16 => k_is); (case k16 => k_is); (case a17 => k_is); (case l17 => k_is); (case c17 => k_is); (case k17 => k_is); (case a18 => k_is); (case l18 => k_is); (case c18 => k_is); (case k18 => k_is); (case a19 => k_is); (case l19 => k_is); (case c19 => k_is); (case k19 => k_is); (case a20 => k_is); (case l20 => k_is); (case c20 => k_is); (case k20 => k_is); (case a21 => k_is); (case l21 => k_is); (case c21 => k_is); (case k21 => k_is); (case a22 => k_is); (case l22 => k_is); (case c22 => k_is); (case k22 => k_is); (case a23 => k_is); (case l23 => k_is); (case c23 => k_is); (case k23 => k_is); (case a24 => k_is); (case l24 => k_is); (case c24 => k_is); (case k24 => k_is); (case a25 => k_is); (case l25 => k_is); (case c25 => k_is); (case k25 => k_is); (case a26 => k_is); (case l26 => k_is); (case c26 => k_is); (case k26 => k_is); (case a27 => k_is); (case l27 => k_is); (case c27 => k_is); (case k27 => k_is); (case a28 => k_is); (case l28 => k_is); (case c28 => k_is); (case k28 => k_is); (case a29 => k_is); (case l29 => k_is); (case c29 => k_is); (case k29 => k_is); (case a30 => k_is); (case l30 => k_is); (case c30 => k_is); (case k30 => k_is); (case a31 => k_is); (case l31 => k_is); (case c31 => k_is); (case k31 => k_is); (case a32 => k_is); (case l32 => k_is); (case c32 => k_is); (case k32 => k_is); (case a33 => k_is); (case l33 => k_is); (case c33 => k_is); (case k33 => k_is); (case a34 => k_is); (case l34 => k_is); (case c34 => k_is); (case k34 => k_is); (case a35 => k_is); (case l35 => k_is); (case c35 => k_is); (case k35 => k_is); (case a36 => k_is); (case l36 => k_is); (case c36 => k_is); (case k36 => k_is); (case a37 => k_is); (case l37 => k_is); (case c37 => k_is); (case k37 => k_is); (case a38 => k_is); (case l38 => k_is); (case c38 => k_is); (case k38 => k_is); (case a39 => k_is); (case l39 => k_is); (case c39 => k_is); (case k39 => k_is); (case a40 => k_is); (case l40 => k_is); (case c40 => k_is); (case k40 => k_is); (case a41 => k_is); (case l41 => k_is); (case c41 => k_is); (case k41 => k_is); (case a42 => k_is); (case l42 => k_is); (case c42 => k_is); (case k42 => k_is); (case xXC_gL => k_is); (case xXC_g => k_is); (case xXC_g1 => k_is); (case xXC_g2 => k_is); (case xXC_g3 => k_is); (case xXC_gV => k_is); (case xXC_ex => k_exc); (case xXC_kp => k_is); (case xXC_sb => k_is); (case xXC_ty => k_is); (case xXC_lb => k_is); (case xXC_ld => k_is); (case xXC_lt => k_is); (case xXC_up => k_is); (case xXC_i0 => kit_is); (case xXC_i1 => kit_is); (case xXC_i2 => kit_is); (case xXC_i3 => kit_is); (case xXC_iV => kit_is); (case xXC_e1 => k_is); (case xXC_e2 => k_is); (case xXC_e4 => k_is); (case xXC_e5 => k_is); (case xXC_e6 => k_is); (case xXC_e7 => k_is); (case xXC_e8 => k_is); (case xXD_gL => k_is); (case xXD_g => k_is); (case xXD_g1 => k_is); (case xXD_g2 => k_is); (case xXD_g3 => k_is); (case xXD_gV => k_is); (case xXD_ex => k_exc); (case xXD_kp => k_is); (case xXD_sb => k_is); (case xXD_ty => k_is); (case xXD_lb => k_is); (case xXD_ld => k_is); (case xXD_lt => k_is); (case xXD_up => k_is); (case xXD_i0 => kit_is); (case xXD_i1 => kit_is); (case xXD_i2 => kit_is); (case xXD_i3 => kit_is); (case xXD_iV => kit_is); (case xXD_e1 => k_is); (case xXD_e2 => k_is); (case xXD_e4 => k_is); (case xXD_e5 => k_is); (case xXD_e6 => k_is); (case xXD_e7 => k_is); (case xXD_e8 => k_is); (case xXF_gL => k_is); (case xXF_g => k_is); (case xXF_g1 => k_is); (case xXF_g2 => k_is); (case xXF_g3 => k_is); (case xXF_gV => k_is); (case xXF_ex => k_exc); (case xXF_kp => k_is); (case xXF_sb => k_is); (case xXF_ty => k_is); (case xXF_lb => k_is); (case xXF_ld => k_is); (case xXF_lt => k_is); (case xXF_up => k_is); (case xXF_i0 => kit_is); (case xXF_i1 => kit_is); (case xXF_i2 => kit_is); (case xXF_i3 => kit_is); (case xXF_iV => kit_is); (case xXF_e1 => k_is); (case xXF_e2 => k_is); (case xXF_e4 => k_is); (case xXF_e5 => k_is); (case xXF_e6 => k_is); (case xXF_e7 => k_is); (case xXF_e8 => k_is); (case z_len => k_is); (case z_all => k_is); (case z_any => k_is); (case z_isinstance => k_is); (case z_list => k_is); (case z_tuple => k_is); (case z_int => k_is); (case z_bool => k_is); (case z_str => k_is); (case z_range => k_is); (case z_reversed => k_is); (case z_max => k_is); (case z_min => k_is); (case z_most => k_is)
